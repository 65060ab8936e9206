/- Declarations that the closing texts need, part 14: joined by tools/slim.py. -/
import Derived.Test.YtngonbhfbpnkcaaGreatDoorY13
set_option linter.unusedVariables false
set_option linter.unusedSimpArgs false
namespace Go.AM
open Go.RowKit
theorem mput_eII (k v : Int) (l : List (Int × Int)) : ∃ l', mput (.int .i64 k) (.int .i64 v) (l.map eII) = l'.map eII ∧ (∀ q, mget l' q = if q = k then v else mget l q) ∧ l'.length ≤ l.length + 1 := by
 unfold mput
 rw [mfind_eII]
 cases hm : mix l k with
 | none =>
  refine ⟨l ++ [(k, v)], by simp [eII], fun q => ?_, by simp⟩
  have e1 : mix (l ++ [(k, v)]) k = some l.length := by
   unfold mix at hm ⊢
   rw [List.findIdx?_append, hm]; simp
  by_cases hq : q = k
  ·subst hq; simp [mget, e1]
  ·rw [if_neg hq]
   unfold mget
   have e3 : mix (l ++ [(k, v)]) q = mix l q := by
    unfold mix
    rw [List.findIdx?_append]
    cases hc : l.findIdx? (fun p => decide (q = p.1)) <;> simp [hq]
   rw [e3]
   cases hc : mix l q with
   | none => rfl
   | some i =>
    unfold mix at hc
    rw [List.findIdx?_eq_some_iff_getElem] at hc
    obtain ⟨hi, _⟩ := hc
    simp only
    rw [List.getElem?_append_left hi]
 | some i =>
  refine ⟨l.set i (k, v), by rw [List.map_set]; simp [eII], ?_, by simp⟩
  have hH : oat [.map (l.map eII)] 0 = .map (l.map eII) := rfl
  have := mstore_int (H := [.map (l.map eII)]) (o := 0) (l := l) (k := k) (i := i) (v := v) (K := fun _ _ => ∀ q, mget (l.set i (k, v)) q = if q = k then v else mget l q) hH hm fun h => h
  unfold amstore at this
  obtain ⟨u, q1, _⟩ := mix_some hm
  have e1 : (l.map eII)[i]? = some (eII (k, u)) := by rw [List.getElem?_map, q1]; rfl
  simp only [hH, Int.natCast_nonneg, if_true, Int.toNat_natCast, e1, mst] at this
  exact this
theorem mput_int {P : Program} {H : List Obj} {t : TypeId} {o : Nat} {l : List (Int × Int)} {k v : Int} {K : V → List Obj → Prop} (hT : mapT P t = some (.int .i64, some (.int .i64 0))) (hH : oat H o = .map (l.map eII))
  (h : ∀ l' : List (Int × Int), (∀ q, mget l' q = if q = k then v else mget l q) → K .junk (H.set o (.map (l'.map eII)))) : mst (amput P H t (.mp o) (.p (.int .i64 k)) (.p (.int .i64 v))) K := by
 obtain ⟨kt, et, h1, h2, h3⟩ := mapT_inv hT
 obtain ⟨l', e, hg, _⟩ := mput_eII k v l
 simp only [amput, h1, mapAt_eII h2 hH, Option.map_some, mst, e]
 exact h l' hg
end Go.AM
namespace Go.Proofs.YtngonbhfbpnkcaaGreatDoor.K
open Go Go.AM Go.Proofs
set_option maxRecDepth 8000
set_option maxHeartbeats 8000000
def cntF (l : List Vis) (k : Nat) (q : Int) : Int := ((l.take k).countP fun v => decide (v.order = q) : Nat)
theorem cntF_succ {l : List Vis} {k : Nat} (h : k < l.length) (q : Int) : cntF l (k + 1) q = if q = (nth l k).order then cntF l k q + 1 else cntF l k q := by
 unfold cntF
 rw [List.take_succ_eq_append_getElem h, List.countP_append, nth_get h]
 by_cases c : l[k].order = q
 ·rw [if_pos c.symm]; simp [c]
 ·rw [if_neg (fun e => c e.symm)]; simp [c]
theorem cntF_rng {l : List Vis} {k : Nat} (h : k ≤ l.length) (q : Int) : 0 ≤ cntF l k q ∧ cntF l k q ≤ k := by
 unfold cntF
 have := List.countP_le_length (p := fun v : Vis => decide (v.order = q)) (l := l.take k)
 rw [List.length_take] at this
 omega
theorem cntF_first {l : List Vis} {k : Nat} : firstB l k = decide (cntF l k (nth l k).order = 0) := by
 unfold firstB cntF
 rw [Bool.eq_iff_iff]
 simp only [Bool.not_eq_true', decide_eq_true_eq]
 rw [List.any_eq_false]
 have : ((List.countP (fun v => decide (v.order = (nth l k).order)) (l.take k) : Nat) : Int) = 0 ↔ List.countP (fun v => decide (v.order = (nth l k).order)) (l.take k) = 0 := by omega
 rw [this, List.countP_eq_zero]
theorem pForeign_c (a b : Int) : ACalls Tryz.prog 208 [.p (.int .i64 a), .p (.int .i64 b)] [] fun y H' => y = .p (.bool (foreign a b)) ∧ H' = [] := by
 refine acalls_pure (fn := Tryz.f208) Tryz.func208 rfl isF208 ?_
 simp (disch := omega) only [Tryz.f208, go_sem, seval]
 refine aguard_t (fun h => ?_) (fun h => ?_) <;> (try simp only [decide_eq_true_eq, decide_eq_false_iff_not] at h) <;> simp (disch := omega) only [Sh.out h, go_sem, seval]
 ·simp [foreign, h]
 ·simp only [Classical.not_not] at h
  simp [foreign, h]
theorem pRoute_c (x : Inst) (r : Rte) (s : She) (hty : 0 ≤ r.typ ∧ r.typ < (x.types.length : Int)) (ho : x.orders.length ≤ 1048576) (ht : x.types.length ≤ 1048576) (hl : r.visits.length ≤ 1048576) (hv : Inr x r.visits)
  (hc : 0 ≤ (typR x r).fixed ∧ (typR x r).fixed ≤ 100000 ∧ 0 ≤ (typR x r).perMile ∧ (typR x r).perMile ≤ 100 ∧ 0 ≤ (typR x r).perTick ∧ (typR x r).perTick ≤ 100) (ho2 : 0 ≤ (typR x r).opn ∧ (typR x r).opn ≤ 4096)
  (hf : -4096 ≤ s.fin ∧ s.fin ≤ 8192) (hm : 0 ≤ s.miles ∧ s.miles ≤ 1000000) :
  ACalls Tryz.prog 143 [.p (eInst x), .p (eRte r), .p (eShe s)] [] fun y H' => y = .p (eSco (scoF x r s)) ∧ H' = [] := by
 have hti : r.typ.toNat < x.types.length := by omega
 have hT : mapT Tryz.prog 262 = some (.int .i64, some (.int .i64 0)) := by kernel_rfl
 unfold scoF
 have htd : nth x.types r.typ.toNat = typR x r := rfl
 generalize typR x r = t at *
 have e1 : ¬ r.typ < 0 := by omega
 have e2 : ¬ (x.types.length : Int) ≤ r.typ := by omega
 have p1 : 0 ≤ t.perMile * s.miles ∧ t.perMile * s.miles ≤ 100 * 1000000 := ⟨Int.mul_nonneg (by omega) (by omega), Int.mul_le_mul (by omega) (by omega) (by omega) (by omega)⟩
 have hW : -8192 ≤ s.fin - t.opn ∧ s.fin - t.opn ≤ 8192 := by omega
 have p2 : -819200 ≤ t.perTick * (s.fin - t.opn) ∧ t.perTick * (s.fin - t.opn) ≤ 819200 := by
  generalize s.fin - t.opn = w at hW
  have a1 := Int.mul_le_mul_of_nonneg_left hW.2 (show 0 ≤ t.perTick by omega)
  have a2 := Int.mul_le_mul_of_nonneg_left hW.1 (show 0 ≤ t.perTick by omega)
  omega
 have p3 : -128 ≤ (s.fin - t.opn).tdiv 64 ∧ (s.fin - t.opn).tdiv 64 ≤ 128 := by
  generalize s.fin - t.opn = w at hW
  rcases Int.le_total 0 w with h | h
  ·rw [Int.tdiv_eq_ediv_of_nonneg h]; omega
  ·have : w.tdiv 64 = -((-w) / 64) := by rw [← Int.tdiv_eq_ediv_of_nonneg (by omega), Int.neg_tdiv, Int.neg_neg]
   rw [this]; omega
 have p4 : 0 ≤ (s.fin - t.opn).tdiv 64 * (s.fin - t.opn).tdiv 64 ∧ (s.fin - t.opn).tdiv 64 * (s.fin - t.opn).tdiv 64 ≤ 16384 := by
  generalize (s.fin - t.opn).tdiv 64 = q at p3
  refine ⟨?_, ?_⟩
  ·rcases Int.le_total 0 q with h | h
   ·exact Int.mul_nonneg h h
   ·exact Int.mul_nonneg_of_nonpos_of_nonpos h h
  ·rcases Int.le_total 0 q with h | h
   ·have := Int.mul_le_mul p3.2 p3.2 h (by omega); omega
   ·have h2 : 0 ≤ -q := by omega
    have := Int.mul_le_mul (show -q ≤ 128 by omega) (show -q ≤ 128 by omega) h2 (by omega)
    rw [Int.neg_mul_neg] at this; omega
 refine acalls_pure (fn := Tryz.f143) Tryz.func143 rfl isF143 ?_
 simp (disch := omega) only [Tryz.f143, e1, e2, htd, go_sem, seval]
 refine awp_for [3, 4, 6, 10, 11, 59, 60] (fun q : Nat × List (Int × Int) => [(61, .p (.int .i64 q.1))]) (fun q => [instO x, rteO r, .cells [.p (.bool s.rest), .p (.int .i64 s.dep), .p (.list s.times_c (s.times.map eTim)), .p (.int .i64 s.fin), .p (.int .i64 s.miles)], scoO 0 0 0 0, typO t, scoO (t.fixed + t.perMile * s.miles + t.perTick * (s.fin - t.opn)) (chgF x r.visits r.typ q.1).1 (chgF x r.visits r.typ q.1).2 ((s.fin - t.opn).tdiv 64 * (s.fin - t.opn).tdiv 64), .map (q.2.map eII)])
  (fun q => q.1 ≤ r.visits.length ∧ ∀ n, mget q.2 n = cntF r.visits q.1 n) (fun q => r.visits.length - q.1) (0, []) ⟨by simp, fun n => rfl⟩ (Weak.mk ?_) ?_
 ·simp (disch := omega) only [instO, rteO, typO, scoO, chgF, go_sem, seval]
 ·rintro ⟨k, m⟩ ⟨hk, hmg⟩
  simp only at hk hmg
  have hch := chgF_rng (x := x) (l := r.visits) (t := r.typ) k
  simp (disch := omega) only [instO, rteO, typO, scoO, go_sem, seval]
  refine acond_b (fun h1 => ?_) (fun h1 => ?_) <;> (try simp only [decide_eq_true_eq, decide_eq_false_iff_not] at h1) <;> simp (disch := omega) only [Sh.out h1, go_sem, seval]
  ·have hk2 : k < r.visits.length := by omega
   obtain ⟨v1, v2⟩ := hv _ (nth_mem hk2)
   have e3 : ¬ (nth r.visits k).order < 0 := by omega
   have e4 : ¬ (x.orders.length : Int) ≤ (nth r.visits k).order := by omega
   have v3 : (nth r.visits k).order.toNat < x.orders.length := by omega
   have hcs := cntF_succ hk2
   have hcr := cntF_rng hk (nth r.visits k).order
   have hfi := cntF_first (l := r.visits) (k := k)
   have hch2 : chgF x r.visits r.typ (k + 1) = _ := chgF.eq_2 x r.visits r.typ k
   refine look_int hT rfl ?_
   rw [hmg]
   simp (disch := omega) only [go_sem, seval]
   refine mput_int hT rfl fun m' hm' => ?_
   have hmg' : ∀ n, mget m' n = cntF r.visits (k + 1) n := fun n => by rw [hm', hcs, hmg]; split <;> simp_all
   simp (disch := omega) only [e3, e4, List.set_cons_succ, List.set_cons_zero, go_sem, seval]
   refine look_int hT rfl ?_
   rw [hm', if_pos rfl]
   simp (disch := omega) only [go_sem, seval]
   refine acond_b (fun h2 => ?_) (fun h2 => ?_) <;> (try simp only [decide_eq_true_eq, decide_eq_false_iff_not] at h2) <;> simp (disch := omega) only [Sh.out h2, go_sem, seval]
   ·have h3 : ¬ firstB r.visits k = true := by rw [hfi]; simp; omega
    rw [if_neg h3] at hch2
    exact ⟨(k + 1, m'), ⟨by simp only; omega, hmg'⟩, by simp only; omega, Weak.mk (by simp (disch := omega) only [instO, rteO, typO, scoO, hch2, go_sem, seval])⟩
   ·have h3 : firstB r.visits k = true := by rw [hfi]; simp; omega
    rw [if_pos h3] at hch2
    refine (pForeign_c (nth x.orders (nth r.visits k).order.toNat).now r.typ).use ?_
    simp (disch := omega) only [go_sem, seval]
    refine acond_b (fun h4 => ?_) (fun h4 => ?_) <;> (try simp only [decide_eq_true_eq, decide_eq_false_iff_not] at h4) <;> simp (disch := omega) only [Sh.out h4, go_sem, seval]
    ·rw [if_pos h4] at hch2
     refine (pForeign_c (nth x.orders (nth r.visits k).order.toNat).last r.typ).use ?_
     simp (disch := omega) only [go_sem, seval]
     refine acond_b (fun h5 => ?_) (fun h5 => ?_) <;> (try simp only [decide_eq_true_eq, decide_eq_false_iff_not] at h5) <;> simp (disch := omega) only [Sh.out h5, go_sem, seval]
     ·rw [if_pos h5] at hch2
      exact ⟨(k + 1, m'), ⟨by simp only; omega, hmg'⟩, by simp only; omega, Weak.mk (by simp (disch := omega) only [instO, rteO, typO, scoO, hch2, go_sem, seval])⟩
     ·rw [if_neg (by rw [h5]; simp)] at hch2
      exact ⟨(k + 1, m'), ⟨by simp only; omega, hmg'⟩, by simp only; omega, Weak.mk (by simp (disch := omega) only [instO, rteO, typO, scoO, hch2, Int.add_zero, go_sem, seval])⟩
    ·rw [if_neg (by rw [h4]; simp)] at hch2
     refine (pForeign_c (nth x.orders (nth r.visits k).order.toNat).last r.typ).use ?_
     simp (disch := omega) only [go_sem, seval]
     refine acond_b (fun h5 => ?_) (fun h5 => ?_) <;> (try simp only [decide_eq_true_eq, decide_eq_false_iff_not] at h5) <;> simp (disch := omega) only [Sh.out h5, go_sem, seval]
     ·rw [if_pos h5] at hch2
      exact ⟨(k + 1, m'), ⟨by simp only; omega, hmg'⟩, by simp only; omega, Weak.mk (by simp (disch := omega) only [instO, rteO, typO, scoO, hch2, Int.add_zero, go_sem, seval])⟩
     ·rw [if_neg (by rw [h5]; simp)] at hch2
      exact ⟨(k + 1, m'), ⟨by simp only; omega, hmg'⟩, by simp only; omega, Weak.mk (by simp (disch := omega) only [instO, rteO, typO, scoO, hch2, Int.add_zero, go_sem, seval])⟩
  ·have hkl : k = r.visits.length := by omega
   subst hkl
   rfl
end Go.Proofs.YtngonbhfbpnkcaaGreatDoor.K
set_option linter.unusedVariables false
set_option linter.unusedSimpArgs false
namespace Go.Proofs.YtngonbhfbpnkcaaGreatDoor.K
open Go Go.AM Go.Proofs
set_option maxRecDepth 8000
set_option maxHeartbeats 8000000
@[go_sem] theorem cells_fnQ {f : FuncId} : (PV.fn f).cells = [.fn f] := Eq.trans rfl rfl
def she0 : AM.Obj := .cells [.p (.bool false), .p (.int .i64 0), .p (.list true []), .p (.int .i64 0), .p (.int .i64 0)]
theorem evaluate_c (x : Inst) (r : Rte) (hx : InstOk x) (hl : r.visits.length ≤ 1048576) (hrl : r.rests.length ≤ 1048576) : ACalls Tryz.prog 89 [.p (eInst x), .p (eRte r)] [] fun y H' => y = evalT x r ∧ H' = [] := by
 have hld := ldOk_of hx
 have htl := hld.typ
 have hol := hld.ord
 have chk := pSeq_c x r hx hl
 have htb : x.types.length ≤ 6 := by have := hx.types.1; simp only [rng, decide_eq_true_eq] at this; omega
 refine acalls_weak [] (fn := Tryz.f89) Tryz.func89 rfl isF89 ?_
 simp (disch := omega) only [Tryz.f89, go_sem, seval]
 refine aguard_f (fun h1 => ?_) (fun h1 => ?_) <;> (try simp only [decide_eq_true_eq, decide_eq_false_iff_not] at h1) <;> simp (disch := omega) only [Sh.out h1, go_sem, seval]
 ·have e : ruleE x r = 2 := by rw [ruleE, if_pos (by omega)]
  rw [evalT_err (e := 2) (by rw [evalE, e]; rfl) (by omega)]
  exact ⟨_, _, Weak.mk (by simp (disch := omega) only [zShe, zSco, List.map_nil, go_sem, seval]), rfl, rfl⟩
 ·refine acond_b (fun h2 => ?_) (fun h2 => ?_) <;> (try simp only [decide_eq_true_eq, decide_eq_false_iff_not] at h2) <;> simp (disch := omega) only [Sh.out h2, go_sem, seval]
  ·have e : ruleE x r = 2 := by rw [ruleE, if_pos (by omega)]
   rw [evalT_err (e := 2) (by rw [evalE, e]; rfl) (by omega)]
   exact ⟨_, _, Weak.mk (by simp (disch := omega) only [zShe, zSco, List.map_nil, go_sem, seval]), rfl, rfl⟩
  ·have hty : 0 ≤ r.typ ∧ r.typ < (x.types.length : Int) := by omega
   have hti : r.typ.toNat < x.types.length := by omega
   have hnum := typ_nums hx hti
   have htyp : nth x.types r.typ.toNat = typR x r := rfl
   rw [htyp] at hnum
   have hsk : ∀ o ∈ x.orders, o.skills < 9223372036854775808 := fun o hm => by
    obtain ⟨i, hi, rfl⟩ := List.mem_iff_getElem.1 hm
    have := (hx.orders.2 i hi).skills
    rw [nth_get hi] at this
    omega
   refine awp_for [2, 3, 4, 5, 25, 26] (fun k : Nat => [(27, .p (.int .i64 k))]) (fun _ => [instO x, rteO r, she0, scoO 0 0 0 0, .elems 1 [.fn 139, .fn 140, .fn 141]])
    (fun k => k ≤ 3 ∧ (0 < k → seqChk x r.visits = 0) ∧ (1 < k → ¬ (r.visits.any fun v => !ableB (typR x r) (nth x.orders v.order.toNat).skills) = true) ∧ (2 < k → loadB x (typR x r).cap r.visits = true)) (fun k => 3 - k) 0 ⟨by omega, by omega, by omega, by omega⟩ (Weak.mk ?_) ?_
   ·simp (disch := omega) only [instO, rteO, scoO, she0, go_sem, seval]
   ·rintro k ⟨hk, k1, k2, k3⟩
    simp (disch := omega) only [instO, rteO, scoO, she0, go_sem, seval]
    refine acond_b (fun h3 => ?_) (fun h3 => ?_) <;> (try simp only [decide_eq_true_eq, decide_eq_false_iff_not] at h3) <;> simp (disch := omega) only [Sh.out h3, go_sem, seval]
    ·by_cases hk0 : k = 0
     ·subst hk0
      have he : elt [PV.fn 139, PV.fn 140, PV.fn 141] 0 = PV.fn 139 := rfl
      simp (disch := first | omega | (simp only [List.length_cons, List.length_nil, List.length_append, List.length_map, List.length_take, List.length_drop] <;> omega)) only [he, go_sem, seval]
      refine (chk).use ?_
      simp (disch := omega) only [go_sem, seval]
      refine acond_b (fun h4 => ?_) (fun h4 => ?_) <;> (try simp only [decide_eq_true_eq, decide_eq_false_iff_not] at h4) <;> simp (disch := omega) only [Sh.out h4, go_sem, seval]
      ·have e : ruleE x r = seqChk x r.visits := by rw [ruleE, if_neg (fun h => h hty), if_pos h4]
       rw [evalT_err (e := seqChk x r.visits) (by rw [evalE, e, if_neg h4]) h4]
       exact ⟨_, _, Weak.mk (by simp (disch := omega) only [zShe, zSco, List.map_nil, go_sem, seval]), rfl, rfl⟩
      ·exact ⟨1, ⟨by omega, fun _ => by omega, by omega, by omega⟩, by omega, Weak.mk (by simp (disch := omega) only [instO, rteO, scoO, she0, go_sem, seval])⟩
     ·have h0 := k1 (by omega)
      have hsq := sqOk_of h0
      have hr0 : ruleE x r = if (r.visits.any fun v => !ableB (typR x r) (nth x.orders v.order.toNat).skills) = true then 18 else if loadB x (typR x r).cap r.visits = false then 17 else if ¬ (0 ≤ r.start ∧ r.start ≤ 4096 ∧ r.rests.length ≤ r.visits.length + 1) then 2 else 0 := by
       rw [ruleE, if_neg (fun h => h hty), if_neg (by omega)]
      by_cases hk1 : k = 1
      ·subst hk1
       have he : elt [PV.fn 139, PV.fn 140, PV.fn 141] 1 = PV.fn 140 := rfl
       simp (disch := first | omega | (simp only [List.length_cons, List.length_nil, List.length_append, List.length_map, List.length_take, List.length_drop] <;> omega)) only [he, go_sem, seval]
       refine (pRAble_c x r hty (fun v hv => by have := hsq.inr v hv; simp [inB, this.1, this.2]) hl htl (by omega) (by omega) hsk).use ?_
       simp (disch := omega) only [go_sem, seval]
       by_cases h5 : (r.visits.any fun v => !ableB (typR x r) (nth x.orders v.order.toNat).skills) = true
       ·rw [if_pos h5] at hr0 ⊢
        rw [evalT_err (e := 18) (by rw [evalE, hr0]; rfl) (by omega)]
        simp (disch := omega) only [go_sem, seval]
        exact ⟨_, _, Weak.mk (by simp (disch := omega) only [zShe, zSco, List.map_nil, go_sem, seval]), rfl, rfl⟩
       ·rw [if_neg h5]
        simp (disch := omega) only [go_sem, seval]
        exact ⟨2, ⟨by omega, fun _ => h0, fun _ => h5, by omega⟩, by omega, Weak.mk (by simp (disch := omega) only [instO, rteO, scoO, she0, go_sem, seval])⟩
      ·have hk2 : k = 2 := by omega
       subst hk2
       have he : elt [PV.fn 139, PV.fn 140, PV.fn 141] 2 = PV.fn 141 := rfl
       simp (disch := first | omega | (simp only [List.length_cons, List.length_nil, List.length_append, List.length_map, List.length_take, List.length_drop] <;> omega)) only [he, go_sem, seval]
       refine (pCFits_c x r hx hl hty h0).use ?_
       simp (disch := omega) only [go_sem, seval]
       rw [if_neg (k2 (by omega))] at hr0
       cases h5 : loadB x (typR x r).cap r.visits with
       | false =>
        rw [if_pos h5] at hr0
        rw [evalT_err (e := 17) (by rw [evalE, hr0]; rfl) (by omega)]
        simp only [Bool.false_eq_true, if_false]
        simp (disch := omega) only [go_sem, seval]
        exact ⟨_, _, Weak.mk (by simp (disch := omega) only [zShe, zSco, List.map_nil, go_sem, seval]), rfl, rfl⟩
       | true =>
        simp only [if_true]
        simp (disch := omega) only [go_sem, seval]
        exact ⟨3, ⟨by omega, fun _ => h0, fun _ => k2 (by omega), fun _ => by first | exact h5 | trivial⟩, by omega, Weak.mk (by simp (disch := omega) only [instO, rteO, scoO, she0, go_sem, seval])⟩
    ·have hk3 : k = 3 := by omega
     subst hk3
     have h0 := k1 (by omega)
     have hsq := sqOk_of h0
     have hr0 : ruleE x r = if ¬ (0 ≤ r.start ∧ r.start ≤ 4096 ∧ r.rests.length ≤ r.visits.length + 1) then 2 else 0 := by
      rw [ruleE, if_neg (fun h => h hty), if_neg (by omega), if_neg (k2 (by omega)), if_neg (by rw [k3 (by omega)]; simp)]
     have cb := pBest_c x r hx hl hrl hty h0
     have hok := trpOk_of hx hty hsq
     have hbr : bestV x r = bestR x r → (bestR x r).2 = 0 → (0 ≤ r.start ∧ r.start ≤ 4096 ∧ r.rests.length ≤ r.visits.length + 1) → (0 ≤ (bestR x r).1.fin ∧ (bestR x r).1.fin ≤ 8192) ∧ (0 ≤ (bestR x r).1.miles ∧ (bestR x r).1.miles ≤ 210000) := fun _ hz hs =>
      best_rng hok ⟨hs.1, hs.2.1⟩ (by rw [stopsF_len]; exact hs.2.2) hz
     by_cases h6 : 0 ≤ r.start ∧ r.start ≤ 4096 ∧ r.rests.length ≤ r.visits.length + 1
     ·have e : ruleE x r = 0 := by rw [hr0, if_neg (fun h => h h6)]
      have ee : evalE x r = (bestR x r).2 := by rw [evalE, if_pos e]
      have eb : bestV x r = bestR x r := by rw [bestV, if_pos h6]
      have hbr := fun hz => hbr eb hz h6
      rw [eb] at cb
      have es : evalS x r = if (bestR x r).2 = 0 then (bestR x r).1 else zShe := by rw [evalS, ee]
      have ep : evalP x r = if (bestR x r).2 = 0 then scoF x r (bestR x r).1 else zSco := by rw [evalP, ee]
      unfold evalT
      rw [ee, es, ep]
      clear ee es ep eb
      generalize bestR x r = q at *
      obtain ⟨sh, eb⟩ := q
      simp only at cb hbr ⊢
      refine useT' cb ?_
      simp (disch := omega) only [go_sem, seval]
      refine acond_b (fun h7 => ?_) (fun h7 => ?_) <;> (try simp only [decide_eq_true_eq, decide_eq_false_iff_not] at h7) <;> simp (disch := omega) only [Sh.out h7, go_sem, seval]
      ·exact ⟨_, _, Weak.mk (by simp (disch := omega) only [zShe, zSco, List.map_nil, go_sem, seval]), rfl, rfl⟩
      ·have h7' : eb = 0 := by omega
       try rw [if_pos h7', if_pos h7']
       subst h7'
       obtain ⟨g1, g2⟩ := hbr rfl
       refine awp_drawnS 5 mixed (by kernel_rfl) (by kernel_rfl) ?_
       simp (disch := omega) only [go_sem, seval]
       refine exq_call (pRoute_c x r sh hty (by omega) htl hl hsq.inr hnum.2.2.2.1 (by omega) (by omega) (by omega)) ?_
       simp (disch := omega) only [go_sem, seval]
       exact ⟨_, _, Weak.mk (by simp (disch := omega) only [go_sem, seval]), rfl, rfl⟩
     ·have e : ruleE x r = 2 := by rw [hr0, if_pos h6]
      have eb : bestV x r = (zShe, 2) := by rw [bestV, if_neg h6]
      rw [evalT_err (e := 2) (by rw [evalE, e]; rfl) (by omega)]
      rw [eb] at cb
      refine useT' cb ?_
      simp (disch := omega) only [go_sem, seval]
      exact ⟨_, _, Weak.mk (by simp (disch := omega) only [zShe, zSco, List.map_nil, go_sem, seval]), rfl, rfl⟩
theorem eval_typ {x : Inst} {r : Rte} (h : evalE x r = 0) : ruleE x r = 0 := by
 unfold evalE at h
 split at h
 ·assumption
 ·rename_i c; exact absurd h c
theorem ruleE_typ {x : Inst} {r : Rte} (h : ruleE x r = 0) : (0 ≤ r.typ ∧ r.typ < (x.types.length : Int)) ∧ seqChk x r.visits = 0 ∧ (0 ≤ r.start ∧ r.start ≤ 4096 ∧ r.rests.length ≤ r.visits.length + 1) := by
 unfold ruleE at h
 split at h
 ·simp at h
 ·rename_i c1
  split at h
  ·rename_i c2; exact absurd h c2
  ·rename_i c2
   split at h
   ·simp at h
   ·split at h
    ·simp at h
    ·split at h
     ·simp at h
     ·rename_i c5
      exact ⟨by omega, by omega, Classical.not_not.1 c5⟩
theorem eval_rng {x : Inst} {r : Rte} (hx : InstOk x) (h : evalE x r = 0) : (0 ≤ (evalS x r).fin ∧ (evalS x r).fin ≤ 8192) ∧ (0 ≤ (evalS x r).miles ∧ (evalS x r).miles ≤ 210000) := by
 obtain ⟨hty, h0, hs⟩ := ruleE_typ (eval_typ h)
 have e : evalS x r = (bestR x r).1 := by rw [evalS, if_pos h]
 have ee : (bestR x r).2 = 0 := by rw [evalE, if_pos (eval_typ h)] at h; exact h
 rw [e]
 exact best_rng (trpOk_of hx hty (sqOk_of h0)) ⟨hs.1, hs.2.1⟩ (by rw [stopsF_len]; exact hs.2.2) ee
end Go.Proofs.YtngonbhfbpnkcaaGreatDoor.K
set_option linter.unusedVariables false
set_option linter.unusedSimpArgs false
namespace Go.Proofs.YtngonbhfbpnkcaaGreatDoor.K
open Go Go.AM Go.Proofs
set_option maxRecDepth 8000
set_option maxHeartbeats 8000000
def plnO (p : Pln) : AM.Obj := .cells [.p (.list p.routes_c (p.routes.map eRte)), .p (.list p.unserved_c (p.unserved.map eI))]
end Go.Proofs.YtngonbhfbpnkcaaGreatDoor.K
set_option linter.unusedVariables false
set_option linter.unusedSimpArgs false
namespace Go.Proofs.YtngonbhfbpnkcaaGreatDoor.K
open Go Go.AM Go.Proofs
set_option maxRecDepth 8000
set_option maxHeartbeats 8000000
def errR (x : Inst) : List Rte → Int
 | [] => 0
 | r :: l => if evalE x r = 0 then errR x l else evalE x r
def rteB (r : Rte) : Prop := r.visits.length ≤ 1048576 ∧ r.rests.length ≤ 1048576
theorem errR_at {x : Inst} : ∀ {l : List Rte} {k : Nat}, k < l.length → (∀ j, j < k → evalE x (nth l j) = 0) → ¬ evalE x (nth l k) = 0 → errR x l = evalE x (nth l k)
 | r :: l, 0, _, _, h => by rw [errR, if_neg (show ¬ evalE x r = 0 from h)]; rfl
 | r :: l, k + 1, hk, h0, h => by
  rw [errR, if_pos (show evalE x r = 0 from h0 0 (by omega))]
  exact errR_at (l := l) (k := k) (by simpa using hk) (fun j hj => h0 (j + 1) (by omega)) h
theorem errR_no {x : Inst} : ∀ {l : List Rte}, (∀ j, j < l.length → evalE x (nth l j) = 0) → errR x l = 0
 | [], _ => rfl
 | r :: l, h => by
  rw [errR, if_pos (show evalE x r = 0 from h 0 (by simp))]
  exact errR_no fun j hj => h (j + 1) (by simpa using hj)
end Go.Proofs.YtngonbhfbpnkcaaGreatDoor.K
set_option linter.unusedVariables false
set_option linter.unusedSimpArgs false
namespace Go.Proofs.YtngonbhfbpnkcaaGreatDoor.K
open Go Go.AM Go.Proofs
set_option maxRecDepth 8000
set_option maxHeartbeats 8000000
theorem ord10 {x : Inst} (hx : InstOk x) : x.orders.length ≤ 10 := by have := hx.orders.1; omega
end Go.Proofs.YtngonbhfbpnkcaaGreatDoor.K
set_option linter.unusedVariables false
set_option linter.unusedSimpArgs false
namespace Go.Proofs.YtngonbhfbpnkcaaGreatDoor.K
open Go Go.AM Go.Proofs
set_option maxRecDepth 8000
set_option maxHeartbeats 8000000
structure Row where
 rt : Int
 v : Vis
 place : Int
 tm : Tim
 load_c : Bool
 load : List Int
 deriving Inhabited
def eRow (r : Row) : PV := .agg [.int .i64 r.rt, .int .i64 r.v.order, .bool r.v.drp, .int .i64 r.place, .int .i64 r.tm.arr, .int .i64 r.tm.beg, .int .i64 r.tm.dep, .bool r.tm.rest, .list r.load_c (r.load.map eI)]
@[go_sem] theorem eRow_eq (r : Row) : eRow r = .agg [.int .i64 r.rt, .int .i64 r.v.order, .bool r.v.drp, .int .i64 r.place, .int .i64 r.tm.arr, .int .i64 r.tm.beg, .int .i64 r.tm.dep, .bool r.tm.rest, .list r.load_c (r.load.map eI)] := Eq.trans rfl rfl
@[go_sem] theorem okE_eRow (l : List Row) : okE 9 (l.map eRow) = true := okE_map fun _ => rfl
structure Ttb where
 rte : Rte
 she : She
 rows_c : Bool
 rows : List Row
 deriving Inhabited
def eTtb (t : Ttb) : PV := .agg [.int .i64 t.rte.typ, .int .i64 t.rte.start, .list t.rte.rests_c (t.rte.rests.map eB), .list t.rte.visits_c (t.rte.visits.map eVis), .bool t.she.rest, .int .i64 t.she.dep, .list t.she.times_c (t.she.times.map eTim), .int .i64 t.she.fin, .int .i64 t.she.miles, .list t.rows_c (t.rows.map eRow)]
@[go_sem] theorem eTtb_eq (t : Ttb) : eTtb t = .agg [.int .i64 t.rte.typ, .int .i64 t.rte.start, .list t.rte.rests_c (t.rte.rests.map eB), .list t.rte.visits_c (t.rte.visits.map eVis), .bool t.she.rest, .int .i64 t.she.dep, .list t.she.times_c (t.she.times.map eTim), .int .i64 t.she.fin, .int .i64 t.she.miles, .list t.rows_c (t.rows.map eRow)] := Eq.trans rfl rfl
def mrowF (x : Inst) (i : Nat) (r : Rte) (k : Nat) : Row := ⟨i, nth r.visits k, (stopV x (nth r.visits k)).place, nth (evalS x r).times k, false, nth (lodsF x r.visits) (k + 1)⟩
def mrowsF (x : Inst) (i : Nat) (r : Rte) (k : Nat) : List Row := (List.range k).map (mrowF x i r)
def ttbF (x : Inst) (i : Nat) (r : Rte) : Ttb := ⟨r, evalS x r, false, mrowsF x i r r.visits.length⟩
def ttbsF (x : Inst) (l : List Rte) (k : Nat) : List Ttb := (List.range k).map fun i => ttbF x i (nth l i)
def manF (x : Inst) (l : List Rte) (k : Nat) : List Row := ((List.range k).map fun i => mrowsF x i (nth l i) (nth l i).visits.length).flatten
theorem mrowsF_succ {x : Inst} {i : Nat} {r : Rte} {k : Nat} : mrowsF x i r (k + 1) = mrowsF x i r k ++ [mrowF x i r k] := by rw [mrowsF, mrowsF, List.range_succ, List.map_append]; rfl
theorem mrowsF_len {x : Inst} {i : Nat} {r : Rte} {k : Nat} : (mrowsF x i r k).length = k := by simp [mrowsF]
theorem ttbsF_succ {x : Inst} {l : List Rte} {k : Nat} : ttbsF x l (k + 1) = ttbsF x l k ++ [ttbF x k (nth l k)] := by rw [ttbsF, ttbsF, List.range_succ, List.map_append]; rfl
theorem ttbsF_len {x : Inst} {l : List Rte} {k : Nat} : (ttbsF x l k).length = k := by simp [ttbsF]
theorem manF_succ {x : Inst} {l : List Rte} {k : Nat} : manF x l (k + 1) = manF x l k ++ mrowsF x k (nth l k) (nth l k).visits.length := by
 rw [manF, manF, List.range_succ, List.map_append, List.flatten_append]; simp
theorem evalS_len {x : Inst} {r : Rte} (h : evalE x r = 0) : (evalS x r).times.length = r.visits.length := by
 obtain ⟨_, _, hs⟩ := ruleE_typ (eval_typ h)
 have e : evalS x r = (bestR x r).1 := by rw [evalS, if_pos h]
 have ee : (bestR x r).2 = 0 := by rw [evalE, if_pos (eval_typ h)] at h; exact h
 rw [e, ← stopsF_len (x := x)]
 exact bestF_len (by rw [stopsF_len]; exact hs.2.2) ee
theorem lodsF_len {x : Inst} {l : List Vis} : (lodsF x l).length = l.length + 1 := by simp [lodsF]
def mRte (r : Rte) : AM.Obj := .cells [.p (.int .i64 r.typ), .p (.int .i64 r.start), .p (.list r.rests_c (r.rests.map eB)), .p (.list r.visits_c (r.visits.map eVis))]
def mShe (s : She) : AM.Obj := .cells [.p (.bool s.rest), .p (.int .i64 s.dep), .p (.list s.times_c (s.times.map eTim)), .p (.int .i64 s.fin), .p (.int .i64 s.miles)]
def mSco (s : Sco) : AM.Obj := .cells [.p (.int .i64 s.cost), .p (.int .i64 s.moved), .p (.int .i64 s.other), .p (.int .i64 s.work)]
def mTtb (r : Rte) (s : She) (o n : Nat) : AM.Obj := .cells [.p (.int .i64 r.typ), .p (.int .i64 r.start), .p (.list r.rests_c (r.rests.map eB)), .p (.list r.visits_c (r.visits.map eVis)), .p (.bool s.rest), .p (.int .i64 s.dep), .p (.list s.times_c (s.times.map eTim)), .p (.int .i64 s.fin), .p (.int .i64 s.miles), .sl o 0 n n]
end Go.Proofs.YtngonbhfbpnkcaaGreatDoor.K
set_option linter.unusedVariables false
set_option linter.unusedSimpArgs false
namespace Go.Proofs.YtngonbhfbpnkcaaGreatDoor.K
open Go Go.AM Go.Proofs
set_option maxRecDepth 8000
theorem seg_ge {p q : Pt} {t : Int} (h1 : p.t ≤ t) (h2 : t < q.t) (hp : p.t ≤ p.a) (hq : q.t ≤ q.a) : t ≤ segA p q t := by
 unfold segA
 have hw : 0 < q.t - p.t := by omega
 have key : (t - p.a) * (q.t - p.t) ≤ (t - p.t) * (q.a - p.a) + q.t - p.t - 1 := by
  have e : (t - p.t) * (q.a - p.a) - (t - p.a) * (q.t - p.t) = (t - p.t) * (q.a - q.t) + (p.a - p.t) * (q.t - t) := by
   simp only [Int.sub_mul, Int.mul_sub]
   rw [Int.mul_comm p.a t, Int.mul_comm p.a p.t, Int.mul_comm p.a q.t, Int.mul_comm p.t t]
   omega
  have h3 : 0 ≤ (t - p.t) * (q.a - q.t) := Int.mul_nonneg (by omega) (by omega)
  have h4 : 0 ≤ (p.a - p.t) * (q.t - t) := Int.mul_nonneg (by omega) (by omega)
  omega
 have := Int.le_ediv_of_mul_le hw key
 omega
theorem arrT_ge {l : List Pt} {t : Int} (hl : ptsOk l) : t ≤ arrT l t := by
 obtain ⟨⟨hl1, hl2⟩, hpt⟩ := hl
 unfold arrT
 split
 ·rename_i i hi
  have hm := List.mem_of_find?_eq_some hi
  have hs := List.find?_some hi
  simp at hm
  simp only [segI, Bool.and_eq_true, decide_eq_true_eq] at hs
  obtain ⟨⟨p1, p2, p3, p4⟩, _⟩ := hpt i (by omega)
  obtain ⟨⟨q1, q2, q3, q4⟩, q5⟩ := hpt (i + 1) (by omega)
  exact seg_ge hs.1 hs.2 p3 q3
 ·obtain ⟨⟨p1, p2, p3, p4⟩, _⟩ := hpt 0 (by omega)
  obtain ⟨⟨q1, q2, q3, q4⟩, _⟩ := hpt (l.length - 1) (by omega)
  split <;> omega
theorem goN_ge {n : Net} {pr f t τ : Int} (hn : netR n) (h : (goN n pr f t τ).2.2 = 0) : τ ≤ (goN n pr f t τ).1 := by
 unfold goN at h ⊢
 split at h
 ·simp at h
 ·rename_i c1
  rw [if_neg c1]
  split at h
  ·rename_i c2; rw [if_pos c2]; simp
  ·rename_i c2
   rw [if_neg c2]
   split at h
   ·rename_i c3
    rw [if_pos c3]
    have hA := findA_mem c3
    have h1 := arrT_ge (t := τ) (hn.2.2 _ hA).1
    have h2 := slowS_rng (t := τ) (fun p hp => ((hn.2.2 _ hA).2.2 p hp).2.2) _ (Nat.le_refl _)
    simp only [arrA]
    omega
   ·simp at h
def pdep (s : She) : Nat → Int
 | 0 => s.dep
 | i + 1 => (nth s.times i).dep
structure LabS (sp : List Stp) (k : Nat) (L : Lab) : Prop where
 len : L.she.times.length = k
 seg : ∀ i, i < k → ((nth L.she.times i).arr ≤ (nth L.she.times i).beg ∧ 0 ≤ (nth L.she.times i).arr ∧ (nth L.she.times i).beg ≤ 4096) ∧ pdep L.she i ≤ (nth L.she.times i).arr
 dep : ∀ i, i + 1 < k → (nth L.she.times i).beg + (nth sp i).serv ≤ (nth L.she.times i).dep
 fst : 0 < k → 0 ≤ L.she.dep
 rdy : ∀ i, i + 1 = k → L.ready = (nth L.she.times i).beg + (nth sp i).serv
 ge : 0 ≤ L.ready
structure SheOk (sp : List Stp) (s : She) : Prop where
 len : s.times.length = sp.length
 seg : ∀ i, i < sp.length → ((nth s.times i).arr ≤ (nth s.times i).beg ∧ 0 ≤ (nth s.times i).arr ∧ (nth s.times i).beg ≤ 4096) ∧ pdep s i ≤ (nth s.times i).arr
 dep : ∀ i, i < sp.length → (nth s.times i).beg + (nth sp i).serv ≤ (nth s.times i).dep
 fst : 0 ≤ s.dep
 lst : pdep s sp.length ≤ s.fin
theorem nth_setI {α : Type} [Inhabited α] {l : List α} {i j : Nat} {a : α} (h : i < l.length) : nth (l.set i a) j = if i = j then a else nth l j := by
 unfold nth
 by_cases e : i = j
 ·subst e; simp [h]
 ·simp [e, List.getD_eq_getElem?_getD, List.getElem?_set_ne e]
theorem nth_snoc {α : Type} [Inhabited α] {l : List α} {j : Nat} {a : α} (h : j < l.length) : nth (l ++ [a]) j = nth l j := by
 unfold nth
 rw [List.getD_eq_getElem?_getD, List.getD_eq_getElem?_getD, List.getElem?_append_left h]
theorem nth_last {α : Type} [Inhabited α] {l : List α} {a : α} : nth (l ++ [a]) l.length = a := by
 unfold nth
 simp [List.getD_eq_getElem?_getD]
structure MarkS (sp : List Stp) (k : Nat) (d : Int) (m : She) : Prop where
 len : m.times.length = k
 seg : ∀ i, i < k → ((nth m.times i).arr ≤ (nth m.times i).beg ∧ 0 ≤ (nth m.times i).arr ∧ (nth m.times i).beg ≤ 4096) ∧ pdep m i ≤ (nth m.times i).arr
 dep : ∀ i, i < k → (nth m.times i).beg + (nth sp i).serv ≤ (nth m.times i).dep
 fst : 0 ≤ m.dep
 cur : pdep m k = d
theorem mark_ok {sp : List Stp} {k : Nat} {L : Lab} {d : Int} {b : Bool} (h : LabS sp k L) (hd : L.ready ≤ d) : MarkS sp k d (markF k d b L.she) := by
 have hge := h.ge
 cases k with
 | zero =>
  have e : markF 0 d b L.she = { L.she with rest := b, dep := d } := by simp [markF]
  rw [e]
  exact ⟨h.len, fun i hi => by omega, fun i hi => by omega, by simp only; omega, rfl⟩
 | succ k =>
  have hl := h.len
  have hr := h.rdy k rfl
  have e : markF (k + 1) d b L.she = { L.she with times := L.she.times.set k { nth L.she.times k with dep := d, rest := b } } := by simp [markF, markT]
  rw [e]
  have hn : ∀ i, nth (L.she.times.set k { nth L.she.times k with dep := d, rest := b }) i = if k = i then { nth L.she.times k with dep := d, rest := b } else nth L.she.times i := fun i => nth_setI (by omega)
  refine ⟨by simpa using hl, fun i hi => ?_, fun i hi => ?_, h.fst (by omega), ?_⟩
  ·have hs := h.seg i hi
   have ha : (nth (L.she.times.set k { nth L.she.times k with dep := d, rest := b }) i).arr = (nth L.she.times i).arr ∧ (nth (L.she.times.set k { nth L.she.times k with dep := d, rest := b }) i).beg = (nth L.she.times i).beg := by
    rw [hn]
    split
    ·rename_i e; subst e; exact ⟨rfl, rfl⟩
    ·exact ⟨rfl, rfl⟩
   simp only
   rw [ha.1, ha.2]
   refine ⟨hs.1, ?_⟩
   cases i with
   | zero => exact hs.2
   | succ i =>
    simp only [pdep] at hs ⊢
    rw [hn, if_neg (by omega)]
    exact hs.2
  ·simp only
   rw [hn]
   split
   ·rename_i e; subst e; simp only; omega
   ·exact h.dep i (by omega)
  ·simp only [pdep]
   rw [hn, if_pos rfl]
theorem nxt_lab {x : Inst} {t : Typ} {sp : List Stp} {k : Nat} {L : Lab} {b : Bool} (hT : TrpOk x t sp) (hk : k < sp.length) (h : LabS sp k L) (he : (nxtF x t sp k L b).2 = 0) : LabS sp (k + 1) (nxtF x t sp k L b).1 := by
 have hrs := hT.rst
 have hd : L.ready ≤ depF t L b := by unfold depF; split <;> omega
 have hge := h.ge
 have hm := mark_ok (b := b) h hd
 have hgo : (goL x t sp k (depF t L b)).2.2 = 0 → depF t L b ≤ (goL x t sp k (depF t L b)).1 := fun e => goN_ge hT.net e
 have hst := hT.stp _ (nth_in hk)
 unfold nxtF at he ⊢
 generalize goL x t sp k (depF t L b) = g at *
 generalize depF t L b = d at *
 generalize sncF L b = s at *
 generalize markF k d b L.she = m at *
 have hk2 : ¬ k = sp.length := by omega
 unfold arrF at he ⊢
 simp only [if_neg hk2] at he ⊢
 split at he
 ·simp at he
 ·rename_i c1
  rw [if_neg c1]
  have hg := hgo (by omega)
  split at he
  ·simp at he
  ·rename_i c2
   rw [if_neg c2]
   split at he
   ·simp at he
   ·rename_i c3
    rw [if_neg c3]
    have hml := hm.len
    have hn : ∀ i, i < k → nth (m.times ++ [⟨g.1, max g.1 (nth sp k).opn, 0, false⟩]) i = nth m.times i := fun i hi => nth_snoc (by omega)
    have hl : nth (m.times ++ [(⟨g.1, max g.1 (nth sp k).opn, 0, false⟩ : Tim)]) k = ⟨g.1, max g.1 (nth sp k).opn, 0, false⟩ := by rw [← hml]; exact nth_last
    refine ⟨by simp [hml], fun i hi => ?_, fun i hi => ?_, fun _ => hm.fst, fun i hi => ?_, by simp only; omega⟩
    ·have hpd : pdep { m with times_c := false, times := m.times ++ [⟨g.1, max g.1 (nth sp k).opn, 0, false⟩], miles := m.miles + g.2.1 } i = pdep m i := by
      cases i with
      | zero => rfl
      | succ i => simp only [pdep]; rw [hn i (by omega)]
     simp only at hpd ⊢
     rw [hpd]
     by_cases e : i = k
     ·subst e
      rw [hl, hm.cur]
      simp only
      omega
     ·rw [hn i (by omega)]
      exact hm.seg i (by omega)
    ·simp only
     rw [hn i (by omega)]
     exact hm.dep i (by omega)
    ·have : i = k := by omega
     subst this
     simp only
     rw [hl]
theorem nxt_end {x : Inst} {t : Typ} {sp : List Stp} {L : Lab} {b : Bool} (hT : TrpOk x t sp) (h : LabS sp sp.length L) (he : (nxtF x t sp sp.length L b).2 = 0) : SheOk sp (nxtF x t sp sp.length L b).1.she := by
 have hrs := hT.rst
 have hd : L.ready ≤ depF t L b := by unfold depF; split <;> omega
 have hm := mark_ok (b := b) h hd
 have hgo : (goL x t sp sp.length (depF t L b)).2.2 = 0 → depF t L b ≤ (goL x t sp sp.length (depF t L b)).1 := fun e => goN_ge hT.net e
 unfold nxtF at he ⊢
 generalize goL x t sp sp.length (depF t L b) = g at *
 generalize depF t L b = d at *
 generalize sncF L b = s at *
 generalize markF sp.length d b L.she = m at *
 unfold arrF at he ⊢
 simp only [if_true] at he ⊢
 split at he
 ·simp at he
 ·rename_i c1
  rw [if_neg c1]
  have hg := hgo (by omega)
  split at he
  ·simp at he
  ·rename_i c2
   rw [if_neg c2]
   split at he
   ·simp at he
   ·rename_i c3
    rw [if_neg c3]
    have hpd : ∀ i, pdep { m with fin := g.1, miles := m.miles + g.2.1 } i = pdep m i := fun i => by cases i <;> rfl
    refine ⟨hm.len, fun i hi => ?_, hm.dep, hm.fst, ?_⟩
    ·rw [hpd]; exact hm.seg i hi
    ·rw [hpd, hm.cur]; exact hg
theorem run_she {x : Inst} {t : Typ} {sp : List Stp} (hT : TrpOk x t sp) : ∀ (bs : List Bool) (k : Nat) (L : Lab), LabS sp k L → k + bs.length = sp.length + 1 → 0 < bs.length → (runF x t sp k L bs).2 = 0 → SheOk sp (runF x t sp k L bs).1.she
 | [], k, L, _, _, h3, _ => by simp at h3
 | b :: bs, k, L, h1, h2, _, h => by
  rw [runF] at h ⊢
  by_cases h4 : (nxtF x t sp k L b).2 = 0
  ·simp only [h4, if_true] at h ⊢
   cases bs with
   | nil =>
    simp at h2
    subst h2
    rw [runF]
    exact nxt_end hT h1 h4
   | cons b2 bs =>
    simp at h2
    exact run_she hT (b2 :: bs) (k + 1) _ (nxt_lab hT (by omega) h1 h4) (by simp; omega) (by simp) h
  ·simp [h4] at h
theorem bestF_run {x t sp} {st : Int} {r : List Bool} (hr : r.length ≤ sp.length + 1) (h : (bestF x t sp st r).2 = 0) : ∃ bs : List Bool, bs.length = sp.length + 1 ∧ (runF x t sp 0 (labF t st) bs).2 = 0 ∧ (bestF x t sp st r).1 = (runF x t sp 0 (labF t st) bs).1.she := by
 unfold bestF at h ⊢
 cases hf : fmL finF none ((restsR r (sp.length + 1)).filterMap (runO (nxtO x t sp) 0 (labF t st))) with
 | none =>
  rw [hf] at h
  simp only at h ⊢
  exfalso
  have hm : padR r (sp.length + 1) ∈ restsR r (sp.length + 1) := by
   unfold restsR padR
   rw [fromB_next]
   simp
  have h2 : runO (nxtO x t sp) 0 (labF t st) (padR r (sp.length + 1)) = some (runF x t sp 0 (labF t st) (padR r (sp.length + 1))).1 := by rw [runF_opt, if_pos h]
  have h3 : (runF x t sp 0 (labF t st) (padR r (sp.length + 1))).1 ∈ (restsR r (sp.length + 1)).filterMap (runO (nxtO x t sp) 0 (labF t st)) := List.mem_filterMap.2 ⟨_, hm, h2⟩
  generalize (restsR r (sp.length + 1)).filterMap (runO (nxtO x t sp) 0 (labF t st)) = l at hf h3
  cases l with
  | nil => simp at h3
  | cons a l =>
   rw [fmL] at hf
   obtain ⟨z, e, _⟩ := fmL_some finF l a
   rw [e] at hf
   cases hf
 | some L =>
  simp only
  have hm := bestF_len.fmL_mem _ _ hf
  obtain ⟨bs, hbs, hrun⟩ := List.mem_filterMap.1 hm
  rw [runF_opt] at hrun
  split at hrun
  ·rename_i h5
   simp at hrun
   subst hrun
   obtain ⟨q, hq, rfl⟩ := List.mem_map.1 hbs
   have hql := bestF_len.fromB_len _ _ hq
   simp at hql
   exact ⟨r ++ q, by simp [hql]; omega, h5, rfl⟩
  ·cases hrun
theorem eval_she {x : Inst} {r : Rte} (hx : InstOk x) (h : evalE x r = 0) : SheOk (stopsF x r.visits) (evalS x r) := by
 obtain ⟨hty, h0, hs⟩ := ruleE_typ (eval_typ h)
 have e : evalS x r = (bestR x r).1 := by rw [evalS, if_pos h]
 have ee : (bestR x r).2 = 0 := by rw [evalE, if_pos (eval_typ h)] at h; exact h
 have hT := trpOk_of hx hty (sqOk_of h0)
 obtain ⟨bs, hb1, hb2, hb3⟩ := bestF_run (by rw [stopsF_len]; exact hs.2.2) ee
 have hb3 : (bestR x r).1 = _ := hb3
 rw [e, hb3]
 have hop := hT.opn
 refine run_she hT bs 0 _ ⟨rfl, fun i hi => by omega, fun i hi => by omega, fun h => by omega, fun i hi => by omega, ?_⟩ (by omega) (by omega) hb2
 simp only [labF]; omega
end Go.Proofs.YtngonbhfbpnkcaaGreatDoor.K
set_option linter.unusedVariables false
set_option linter.unusedSimpArgs false
namespace Go.Proofs.YtngonbhfbpnkcaaGreatDoor.K
open Go Go.AM Go.Proofs
set_option maxRecDepth 8000
set_option maxHeartbeats 8000000
theorem pln_rte {p : Pln} (hp : p.wf 1048576) : ∀ r ∈ p.routes, rteB r := fun r hr => by
 obtain ⟨_, _, w1, _, w2, _⟩ := hp.2.1 r hr
 exact ⟨w2, w1⟩
end Go.Proofs.YtngonbhfbpnkcaaGreatDoor.K
set_option linter.unusedVariables false
set_option linter.unusedSimpArgs false
namespace Go.Proofs.YtngonbhfbpnkcaaGreatDoor.K
open Go Go.AM Go.Proofs
set_option maxRecDepth 8000
set_option maxHeartbeats 8000000
theorem errR_iff {x : Inst} {l : List Rte} : errR x l = 0 ↔ ∀ r ∈ l, evalE x r = 0 := by
 induction l with
 | nil => simp [errR]
 | cons r l ih =>
  rw [errR]
  by_cases h : evalE x r = 0
  ·rw [if_pos h, ih]; simp [h]
  ·rw [if_neg h]; simp [h]
end Go.Proofs.YtngonbhfbpnkcaaGreatDoor.K
set_option linter.unusedVariables false
set_option linter.unusedSimpArgs false
namespace Go.Proofs.YtngonbhfbpnkcaaGreatDoor.K
open Go Go.AM Go.Proofs
set_option maxRecDepth 60000
set_option maxHeartbeats 8000000
theorem timetables_c (x : Inst) (p : Pln) (hx : InstOk x) (hr : p.routes.length ≤ 1048576) (hb : ∀ r ∈ p.routes, rteB r) :
  ACalls Tryz.prog 48 [.p (eInst x), .p (ePln p)] [] fun y H' => y = (if errR x p.routes = 0 then .tup [.p (.list false ((ttbsF x p.routes p.routes.length).map eTtb)), .p (.int .i64 0)] else .tup [.p (.list true []), .p (.int .i64 (errR x p.routes))]) ∧ H' = [] := by
 have hn := ord10 hx
 refine acalls_weak [2, 20] (fn := Tryz.f48) Tryz.func48 rfl isF48 ?_
 simp (disch := omega) only [Tryz.f48, go_sem, seval]
 refine awp_weak (Weak.nil 6 10 (by rfl) (by simp)) ?_
 refine awp_sound [20] _ _ _ _ ?_
 simp (disch := omega) only [List.set_cons_succ, List.set_cons_zero, List.cons_append, List.nil_append, List.length_cons, List.length_nil, go_sem, seval]
 refine awp_forC [12, 18] [2, 19, 20] (fun k : Nat => [(6, .sl 2 0 k k), (21, .p (.int .i64 k))]) (fun k => [instO x, plnO p, .elems 10 ((ttbsF x p.routes k).map eTtb)]) (fun k => k ≤ p.routes.length ∧ ∀ j, j < k → evalE x (nth p.routes j) = 0) (fun k => p.routes.length - k) 0 (by simp) (Weak.mk ?_) ?_
 ·simp (disch := omega) only [instO, plnO, ttbsF, List.range_zero, List.map_nil, go_sem, seval]
 ·rintro k ⟨hk, hz⟩
  simp (disch := omega) only [instO, plnO, go_sem, seval]
  refine acond_b (fun h1 => ?_) (fun h1 => ?_) <;> (try simp only [decide_eq_true_eq, decide_eq_false_iff_not] at h1) <;> simp (disch := omega) only [Sh.out h1, go_sem, seval]
  ·have hk2 : k < p.routes.length := by omega
   have hm := nth_in hk2
   obtain ⟨b1, b2⟩ := hb _ hm
   have ce := evaluate_c x (nth p.routes k) hx b1 b2
   unfold evalT at ce
   refine useT3 ce ?_
   simp (disch := omega) only [go_sem, seval]
   refine acond_b (fun h2 => ?_) (fun h2 => ?_) <;> (try simp only [decide_eq_true_eq, decide_eq_false_iff_not] at h2) <;> simp (disch := omega) only [Sh.out h2, go_sem, seval]
   ·have her := errR_at hk2 hz h2
    rw [if_neg (by rw [her]; exact h2), her]
    exact ⟨_, _, Weak.mk (by simp (disch := omega) only [go_sem, seval]), rfl, rfl⟩
   ·have hz0 : evalE x (nth p.routes k) = 0 := by omega
    obtain ⟨hty, hsq, _⟩ := ruleE_typ (eval_typ hz0)
    refine useT' (pLoads_c x (nth p.routes k) hx b1 hsq) ?_
    simp (disch := omega) only [go_sem, seval]
    refine awp_weak (Weak.nilC (o := 6) (j := 9) 9 (by rfl) (by rfl) (by simp)) ?_
    have htl := evalS_len hz0
    have hll := lodsF_len (x := x) (l := (nth p.routes k).visits)
    have hsqi := (sqOk_of hsq)
    refine awp_join [2, 6, 13, 19, 20, 21] (fun _ : Unit => []) (fun _ => [instO x, plnO p, .elems 10 ((ttbsF x p.routes k).map eTtb), mRte (nth p.routes k), mShe (evalS x (nth p.routes k)), mSco (evalP x (nth p.routes k)), mTtb (nth p.routes k) (evalS x (nth p.routes k)) 7 (nth p.routes k).visits.length, .elems 9 ((mrowsF x k (nth p.routes k) (nth p.routes k).visits.length).map eRow)]) (fun _ => True) ?_ ?_
    ·simp (disch := omega) only [List.set_cons_succ, List.set_cons_zero, List.cons_append, List.nil_append, List.length_cons, List.length_nil, go_sem, seval]
     refine awp_for [2, 6, 7, 9, 12, 13, 19, 20, 21, 49, 50] (fun q : Nat => [(51, .p (.int .i64 q))]) (fun q => [instO x, plnO p, .elems 10 ((ttbsF x p.routes k).map eTtb), mRte (nth p.routes k), mShe (evalS x (nth p.routes k)), mSco (evalP x (nth p.routes k)), mTtb (nth p.routes k) (evalS x (nth p.routes k)) 7 q, .elems 9 ((mrowsF x k (nth p.routes k) q).map eRow)]) (fun q => q ≤ (nth p.routes k).visits.length) (fun q => (nth p.routes k).visits.length - q) 0 (by simp) (Weak.mk ?_) ?_
     ·simp (disch := omega) only [instO, plnO, mRte, mShe, mSco, mTtb, mrowsF, List.range_zero, List.map_nil, go_sem, seval]
     ·intro q hq
      simp (disch := omega) only [instO, plnO, mRte, mShe, mSco, mTtb, go_sem, seval]
      refine acond_b (fun h3 => ?_) (fun h3 => ?_) <;> (try simp only [decide_eq_true_eq, decide_eq_false_iff_not] at h3) <;> simp (disch := omega) only [Sh.out h3, go_sem, seval]
      ·have hq2 : q < (nth p.routes k).visits.length := by omega
       have hvis := hsqi.vis (nth_in hq2)
       simp only [visB, Bool.and_eq_true, decide_eq_true_eq] at hvis
       have hms := mrowsF_succ (x := x) (i := k) (r := nth p.routes k) (k := q)
       have hmr : mrowF x k (nth p.routes k) q = ⟨k, nth (nth p.routes k).visits q, (stopV x (nth (nth p.routes k).visits q)).place, nth (evalS x (nth p.routes k)).times q, false, nth (lodsF x (nth p.routes k).visits) (q + 1)⟩ := rfl
       refine useT' (pStop_c x (nth (nth p.routes k).visits q) (by omega) hvis.1 hvis.2) ?_
       simp (disch := omega) only [go_sem, seval]
       refine awp_drawnS 18 mixed (by kernel_rfl) (by kernel_rfl) ?_
       simp (disch := omega) only [go_sem, seval]
       rw [if_pos ⟨mrowsF_len, by omega, by omega⟩]
       simp (disch := omega) only [mrowsF_len, decide_true, eq_self, go_sem, seval]
       refine ⟨q + 1, by omega, by omega, Weak.mk ?_⟩
       simp (disch := omega) only [instO, plnO, mRte, mShe, mSco, mTtb, hms, hmr, List.map_append, List.map_cons, List.map_nil, go_sem, seval]
      ·have hql : q = (nth p.routes k).visits.length := by omega
       subst hql
       exact ⟨(), Weak.mk (by simp (disch := omega) only [instO, plnO, mRte, mShe, mSco, mTtb, go_sem, seval])⟩
    ·intro _ _
     have hts := ttbsF_succ (x := x) (l := p.routes) (k := k)
     have htl2 := ttbsF_len (x := x) (l := p.routes) (k := k)
     refine awp_weak (Weak.fz (o := 7) (by rfl)) ?_
     refine awp_sound [] _ _ _ _ ?_
     simp (disch := omega) only [List.map_cons, List.map_nil, List.set_cons_succ, List.set_cons_zero, instO, plnO, mRte, mShe, mSco, mTtb, mrowsF_len, eq_self, go_sem, seval]
     rw [if_pos ⟨htl2, by omega, by omega⟩]
     simp (disch := omega) only [htl2, go_sem, seval]
     refine ⟨k + 1, ⟨by omega, fun j hj => ?_⟩, by omega, Weak.mk ?_⟩
     ·rcases Nat.lt_or_ge j k with h | h
      ·exact hz j h
      ·have : j = k := by omega
       subst this; exact hz0
     ·simp (disch := omega) only [instO, plnO, hts, ttbF, List.map_append, List.map_cons, List.map_nil, go_sem, seval]
  ·have hkl : k = p.routes.length := by omega
   subst hkl
   have h0 : errR x p.routes = 0 := errR_no hz
   rw [if_pos h0]
   refine awp_weak (Weak.fz (o := 2) (by rfl)) ?_
   refine awp_sound [] _ _ _ _ ?_
   simp (disch := omega) only [List.map_cons, List.map_nil, List.set_cons_succ, List.set_cons_zero, instO, plnO, ttbsF_len, eq_self, go_sem, seval]
   exact ⟨_, _, Weak.mk (by simp (disch := omega) only [go_sem, seval]), rfl, rfl⟩
end Go.Proofs.YtngonbhfbpnkcaaGreatDoor.K
set_option linter.unusedVariables false
set_option linter.unusedSimpArgs false
namespace Go.Proofs.YtngonbhfbpnkcaaGreatDoor.K
open Go Go.AM Go.Proofs
set_option maxRecDepth 60000
set_option maxHeartbeats 8000000
def manT (x : Inst) (p : Pln) : V := if errR x p.routes = 0 then .tup [.p (.list false ((manF x p.routes p.routes.length).map eRow)), .p (.int .i64 0)] else .tup [.p (.list true []), .p (.int .i64 (errR x p.routes))]
theorem manF_len {x : Inst} {l : List Rte} {k B : Nat} (hb : ∀ i, i < k → (nth l i).visits.length ≤ B) : (manF x l k).length ≤ B * k := by
 induction k with
 | zero => simp [manF]
 | succ k ih =>
  rw [manF_succ, List.length_append, mrowsF_len]
  have := ih fun i hi => hb i (by omega)
  have := hb k (by omega)
  rw [Nat.mul_succ]; omega
theorem ttbs_at {x : Inst} {l : List Rte} {n k : Nat} (h : k < n) : nth (ttbsF x l n) k = ttbF x k (nth l k) := by
 rw [nth_get (by rw [ttbsF_len]; exact h)]; simp [ttbsF]
theorem mRows_c (x : Inst) (p : Pln) (hx : InstOk x) (hr : p.routes.length ≤ 1048576) (hb : ∀ r ∈ p.routes, rteB r) :
  ACalls Tryz.prog 16 [.p (eInst x), .p (ePln p)] [] fun y H' => y = manT x p ∧ H' = [] := by
 refine acalls_weak [5, 10] (fn := Tryz.f16) Tryz.func16 rfl isF16 ?_
 have ct := timetables_c x p hx hr hb
 unfold manT
 by_cases h0 : errR x p.routes = 0
 ·simp only [if_pos h0] at ct ⊢
  simp (disch := omega) only [Tryz.f16, go_sem, seval]
  refine useT' ct ?_
  simp (disch := omega) only [go_sem, seval]
  refine awp_weak (Weak.nil 8 9 (by rfl) (by simp)) ?_
  refine awp_sound [10] _ _ _ _ ?_
  simp (disch := omega) only [List.set_cons_succ, List.set_cons_zero, List.cons_append, List.nil_append, List.length_cons, List.length_nil, ttbsF_len, go_sem, seval]
  have hl := ttbsF_len (x := x) (l := p.routes) (k := p.routes.length)
  refine awp_for [20, 21] (fun k : Nat => [(8, .sl 2 0 (manF x p.routes k).length (manF x p.routes k).length), (22, .p (.int .i64 k))]) (fun k => [instO x, plnO p, .elems 9 ((manF x p.routes k).map eRow)]) (fun k => k ≤ p.routes.length) (fun k => p.routes.length - k) 0 (by simp) (Weak.mk ?_) ?_
  ·simp (disch := omega) only [instO, plnO, manF, List.range_zero, List.map_nil, List.flatten_nil, List.length_nil, go_sem, seval]
  ·intro k hk
   simp (disch := omega) only [instO, plnO, go_sem, seval]
   refine acond_b (fun h1 => ?_) (fun h1 => ?_) <;> (try simp only [decide_eq_true_eq, decide_eq_false_iff_not] at h1) <;> simp (disch := omega) only [Sh.out h1, go_sem, seval]
   ·have hk2 : k < p.routes.length := by omega
    have hat := ttbs_at (x := x) (l := p.routes) hk2
    have hms := manF_succ (x := x) (l := p.routes) (k := k)
    have hml : (manF x p.routes k).length ≤ 1048576 * k := manF_len fun i hi => (hb _ (nth_in (by omega))).1
    have hrl := mrowsF_len (x := x) (i := k) (r := nth p.routes k) (k := (nth p.routes k).visits.length)
    have hvl := (hb _ (nth_in hk2)).1
    simp (disch := omega) only [hat, ttbF, go_sem, seval]
    rw [if_pos ⟨by rw [hrl]; omega, by rw [hrl]; omega⟩]
    simp (disch := omega) only [go_sem, seval]
    refine ⟨k + 1, by omega, by omega, Weak.mk ?_⟩
    simp (disch := omega) only [instO, plnO, hms, List.map_append, List.length_append, go_sem, seval]
   ·have hkl : k = p.routes.length := by omega
    subst hkl
    refine awp_weak (Weak.fz (o := 2) (by rfl)) ?_
    refine awp_sound [] _ _ _ _ ?_
    simp (disch := omega) only [List.map_cons, List.map_nil, List.set_cons_succ, List.set_cons_zero, instO, plnO, List.length_map, eq_self, go_sem, seval]
    exact ⟨_, _, Weak.mk (by simp (disch := omega) only [go_sem, seval]), rfl, rfl⟩
 ·simp only [if_neg h0] at ct ⊢
  simp (disch := omega) only [Tryz.f16, go_sem, seval]
  refine useT' ct ?_
  simp (disch := omega) only [go_sem, seval]
  refine acond_b (fun h1 => ?_) (fun h1 => ?_) <;> (try simp only [decide_eq_true_eq, decide_eq_false_iff_not] at h1) <;> simp (disch := omega) only [Sh.out h1, go_sem, seval]
  ·exact ⟨_, _, Weak.mk (by simp (disch := omega) only [go_sem, seval]), rfl, rfl⟩
  ·omega
end Go.Proofs.YtngonbhfbpnkcaaGreatDoor.K
set_option linter.unusedVariables false
set_option linter.unusedSimpArgs false
namespace Go.Proofs.YtngonbhfbpnkcaaGreatDoor.K
open Go Go.AM Go.Proofs
set_option maxRecDepth 60000
set_option maxHeartbeats 8000000
theorem rstop58_c (x : Inst) (v : Vis) (hv : inB x v = true) : ACalls Tryz.prog 51 [.p (eInst x), .p (eVis v)] [] fun y H' => y = .p (eStp (stopV x v)) ∧ H' = [] := by
 refine acalls_pure (fn := Tryz.f51) Tryz.func51 rfl isF51 ?_
 simp only [inB, Bool.and_eq_true, decide_eq_true_eq] at hv
 have hs : stopV x v = if v.drp = true then (nth x.orders v.order.toNat).drp else (nth x.orders v.order.toNat).pick := rfl
 rw [hs]
 generalize hd : v.drp = d at *
 cases d
 all_goals
  simp (disch := omega) only [Tryz.f51, go_sem, seval]
  rw [hd]
  simp (disch := omega) only [go_sem, seval]
def manQ (x : Inst) (l : List Rte) (k q : Nat) : List Row := manF x l k ++ mrowsF x k (nth l k) q
theorem manQ_zero {x l k} : manQ x l k 0 = manF x l k := by simp [manQ, mrowsF]
theorem manQ_all {x l k} : manQ x l k (nth l k).visits.length = manF x l (k + 1) := by rw [manF_succ]; rfl
theorem manQ_succ {x l k q} : manQ x l k (q + 1) = manQ x l k q ++ [mrowF x k (nth l k) q] := by rw [manQ, mrowsF_succ, ← List.append_assoc]; rfl
theorem manQ_len {x l k q} : (manQ x l k q).length = (manF x l k).length + q := by rw [manQ, List.length_append, mrowsF_len]
theorem rRows_c (x : Inst) (p : Pln) (hx : InstOk x) (hr : p.routes.length ≤ 1048576) (hb : ∀ r ∈ p.routes, rteB r) :
  ACalls Tryz.prog 17 [.p (eInst x), .p (ePln p)] [] fun y H' => y = manT x p ∧ H' = [] := by
 have hn := ord10 hx
 refine acalls_weak [2, 14] (fn := Tryz.f17) Tryz.func17 rfl isF17 ?_
 simp (disch := omega) only [Tryz.f17, go_sem, seval]
 refine awp_weak (Weak.nil 6 9 (by rfl) (by simp)) ?_
 refine awp_sound [14] _ _ _ _ ?_
 simp (disch := omega) only [List.set_cons_succ, List.set_cons_zero, List.cons_append, List.nil_append, List.length_cons, List.length_nil, go_sem, seval]
 refine awp_for [2, 3] (fun k : Nat => [(6, .sl 2 0 (manF x p.routes k).length (manF x p.routes k).length), (7, .p (.int .i64 k))]) (fun k => [instO x, plnO p, .elems 9 ((manF x p.routes k).map eRow)]) (fun k => k ≤ p.routes.length ∧ ∀ j, j < k → evalE x (nth p.routes j) = 0) (fun k => p.routes.length - k) 0 (by simp) (Weak.mk ?_) ?_
 ·simp (disch := omega) only [instO, plnO, manF, List.range_zero, List.map_nil, List.flatten_nil, List.length_nil, go_sem, seval]
 ·rintro k ⟨hk, hz⟩
  simp (disch := omega) only [instO, plnO, go_sem, seval]
  refine acond_b (fun h1 => ?_) (fun h1 => ?_) <;> (try simp only [decide_eq_true_eq, decide_eq_false_iff_not] at h1) <;> simp (disch := omega) only [Sh.out h1, go_sem, seval]
  ·have hk2 : k < p.routes.length := by omega
   have hm := nth_in hk2
   obtain ⟨b1, b2⟩ := hb _ hm
   have ce := evaluate21_c x (nth p.routes k) hx b1 b2
   unfold evalT at ce
   have hms := manF_succ (x := x) (l := p.routes) (k := k)
   have hml : (manF x p.routes k).length ≤ 1048576 * k := manF_len fun i hi => (hb _ (nth_in (by omega))).1
   refine useT3 ce ?_
   simp (disch := omega) only [go_sem, seval]
   refine acond_b (fun h2 => ?_) (fun h2 => ?_) <;> (try simp only [decide_eq_true_eq, decide_eq_false_iff_not] at h2) <;> simp (disch := omega) only [Sh.out h2, go_sem, seval]
   ·have her := errR_at hk2 hz h2
    rw [manT, if_neg (by rw [her]; exact h2), her]
    exact ⟨_, _, Weak.mk (by simp (disch := omega) only [go_sem, seval]), rfl, rfl⟩
   ·have hz0 : evalE x (nth p.routes k) = 0 := by omega
    obtain ⟨hty, hsq, _⟩ := ruleE_typ (eval_typ hz0)
    have htl := evalS_len hz0
    have hll := lodsF_len (x := x) (l := (nth p.routes k).visits)
    have hsqi := (sqOk_of hsq)
    refine useT' (loads17_c x (nth p.routes k) hx b1 hsq (chk16_c x _ hx b1)) ?_
    simp (disch := omega) only [go_sem, seval]
    refine awp_for [2, 3, 7, 8, 9, 12] (fun q : Nat => [(14, .p (.int .i64 q)), (6, .sl 2 0 (manQ x p.routes k q).length (manQ x p.routes k q).length)]) (fun q => [instO x, plnO p, .elems 9 ((manQ x p.routes k q).map eRow), mRte (nth p.routes k), mShe (evalS x (nth p.routes k)), mSco (evalP x (nth p.routes k))]) (fun q => q ≤ (nth p.routes k).visits.length) (fun q => (nth p.routes k).visits.length - q) 0 (by simp) (Weak.mk ?_) ?_
    ·simp (disch := omega) only [instO, plnO, mRte, mShe, mSco, manQ_zero, go_sem, seval]
    ·intro q hq
     simp (disch := omega) only [instO, plnO, mRte, mShe, mSco, go_sem, seval]
     refine acond_b (fun h3 => ?_) (fun h3 => ?_) <;> (try simp only [decide_eq_true_eq, decide_eq_false_iff_not] at h3) <;> simp (disch := omega) only [Sh.out h3, go_sem, seval]
     ·have hq2 : q < (nth p.routes k).visits.length := by omega
      have hvis := hsqi.vis (nth_in hq2)
      simp only [visB, Bool.and_eq_true, decide_eq_true_eq] at hvis
      have hmq := manQ_succ (x := x) (l := p.routes) (k := k) (q := q)
      have hmr : mrowF x k (nth p.routes k) q = ⟨k, nth (nth p.routes k).visits q, (stopV x (nth (nth p.routes k).visits q)).place, nth (evalS x (nth p.routes k)).times q, false, nth (lodsF x (nth p.routes k).visits) (q + 1)⟩ := rfl
      have hlen := manQ_len (x := x) (l := p.routes) (k := k) (q := q)
      refine awp_drawnS 27 mixed (by kernel_rfl) (by kernel_rfl) ?_
      simp (disch := omega) only [go_sem, seval]
      refine exq_call (rstop58_c x (nth (nth p.routes k).visits q) hvis.1) ?_
      simp (disch := omega) only [go_sem, seval]
      refine ⟨q + 1, by omega, by omega, Weak.mk ?_⟩
      simp (disch := omega) only [instO, plnO, mRte, mShe, mSco, hmq, hmr, List.map_append, List.map_cons, List.map_nil, List.length_append, List.length_cons, List.length_nil, go_sem, seval]
     ·have hql : q = (nth p.routes k).visits.length := by omega
      subst hql
      rw [manQ_all]
      refine ⟨k + 1, ⟨by omega, fun j hj => ?_⟩, by omega, Weak.mk ?_⟩
      ·rcases Nat.lt_or_ge j k with h | h
       ·exact hz j h
       ·have : j = k := by omega
        subst this; exact hz0
      ·simp (disch := omega) only [instO, plnO, go_sem, seval]
  ·have hkl : k = p.routes.length := by omega
   subst hkl
   have h0 : errR x p.routes = 0 := errR_no hz
   rw [manT, if_pos h0]
   refine awp_weak (Weak.fz (o := 2) (by rfl)) ?_
   refine awp_sound [] _ _ _ _ ?_
   simp (disch := omega) only [List.map_cons, List.map_nil, List.set_cons_succ, List.set_cons_zero, instO, plnO, List.length_map, eq_self, go_sem, seval]
   exact ⟨_, _, Weak.mk (by simp (disch := omega) only [go_sem, seval]), rfl, rfl⟩
end Go.Proofs.YtngonbhfbpnkcaaGreatDoor.K
set_option linter.unusedVariables false
set_option linter.unusedSimpArgs false
namespace Go.Proofs.YtngonbhfbpnkcaaGreatDoor.K
open Go Go.AM Go.Proofs
set_option maxRecDepth 60000
set_option maxHeartbeats 8000000
def awayL (now : Int) (fin : Int) : Int → List Tim → Bool
 | d, [] => decide (d ≤ now) && decide (now < fin)
 | d, t :: l => (decide (d ≤ now) && decide (now < t.arr)) || awayL now fin t.dep l
def awayS (s : She) (now : Int) : Bool := awayL now s.fin s.dep s.times
def restB (t : Tim) : Bool := t.rest
def restN (s : She) : Int := (if s.rest = true then 1 else 0) + (s.times.countP restB : Nat)
theorem awayL_at {now fin d : Int} {l : List Tim} {k : Nat} (hk : k < l.length) : awayL now fin d (l.drop k) = ((decide (d ≤ now) && decide (now < (nth l k).arr)) || awayL now fin (nth l k).dep (l.drop (k + 1))) := by
 rw [List.drop_eq_getElem_cons hk, nth_get hk]; rfl
theorem pdep_succ {s : She} {k : Nat} : pdep s (k + 1) = (nth s.times k).dep := rfl
def ttbO (t : Ttb) : AM.Obj := .cells [.p (.int .i64 t.rte.typ), .p (.int .i64 t.rte.start), .p (.list t.rte.rests_c (t.rte.rests.map eB)), .p (.list t.rte.visits_c (t.rte.visits.map eVis)), .p (.bool t.she.rest), .p (.int .i64 t.she.dep), .p (.list t.she.times_c (t.she.times.map eTim)), .p (.int .i64 t.she.fin), .p (.int .i64 t.she.miles), .p (.list t.rows_c (t.rows.map eRow))]
theorem away_c (t : Ttb) (now : Int) (hl : t.rows.length ≤ 1048576) (hn : t.rows.length = t.she.times.length) (ht : ∀ k, k < t.rows.length → (nth t.rows k).tm = nth t.she.times k) :
  ACalls Tryz.prog 53 [.p (eTtb t), .p (.int .i64 now)] [] fun y H' => y = .p (.bool (awayS t.she now)) ∧ H' = [] := by
 refine acalls_pure (fn := Tryz.f53) Tryz.func53 rfl isF53 ?_
 simp (disch := omega) only [Tryz.f53, go_sem, seval]
 refine awp_for [1, 2, 12, 13] (fun k : Nat => [(5, .p (.int .i64 (pdep t.she k))), (14, .p (.int .i64 k))]) (fun _ => [ttbO t]) (fun k => k ≤ t.rows.length ∧ awayS t.she now = awayL now t.she.fin (pdep t.she k) (t.she.times.drop k)) (fun k => t.rows.length - k) 0 ⟨by omega, rfl⟩ (Weak.mk ?_) ?_
 ·simp (disch := omega) only [ttbO, pdep, go_sem, seval]
 ·rintro k ⟨hk, ha⟩
  simp (disch := omega) only [ttbO, go_sem, seval]
  refine acond_b (fun h1 => ?_) (fun h1 => ?_) <;> (try simp only [decide_eq_true_eq, decide_eq_false_iff_not] at h1) <;> simp (disch := omega) only [Sh.out h1, go_sem, seval]
  ·have hk2 : k < t.rows.length := by omega
   have htk := ht k hk2
   rw [awayL_at (by omega)] at ha
   refine aguard_t (fun h2 => ?_) (fun h2 => ?_) <;> (try simp only [decide_eq_true_eq, decide_eq_false_iff_not] at h2) <;> simp (disch := omega) only [Sh.out h2, go_sem, seval]
   ·simp (disch := omega) only [htk, go_sem, seval]
    refine acond_b (fun h3 => ?_) (fun h3 => ?_) <;> (try simp only [decide_eq_true_eq, decide_eq_false_iff_not] at h3) <;> simp (disch := omega) only [Sh.out h3, go_sem, seval]
    ·rw [ha]; simp [h2, h3]
    ·exact ⟨k + 1, ⟨by omega, by rw [ha]; simp [h3]; rfl⟩, by omega, Weak.mk (by simp (disch := omega) only [ttbO, htk, pdep_succ, go_sem, seval])⟩
   ·refine ⟨k + 1, ⟨by omega, by rw [ha]; simp [h2]; rfl⟩, by omega, Weak.mk (by simp (disch := omega) only [ttbO, htk, pdep_succ, go_sem, seval])⟩
  ·have hkl : k = t.she.times.length := by omega
   subst hkl
   rw [List.drop_length, awayL] at ha
   rw [ha]
   refine aguard_t (fun h4 => ?_) (fun h4 => ?_) <;> (try simp only [decide_eq_true_eq, decide_eq_false_iff_not] at h4) <;> simp (disch := omega) only [Sh.out h4, go_sem, seval]
theorem moving_c (s : She) (now : Int) (hl : s.times.length ≤ 1048576) :
  ACalls Tryz.prog 54 [.p (eShe s), .p (.int .i64 now)] [] fun y H' => y = .p (.bool (awayS s now)) ∧ H' = [] := by
 refine acalls_pure (fn := Tryz.f54) Tryz.func54 rfl isF54 ?_
 simp (disch := omega) only [Tryz.f54, go_sem, seval]
 refine awp_for [1, 2] (fun k : Nat => [(5, .p (.int .i64 (pdep s k))), (6, .p (.int .i64 k))]) (fun _ => [mShe s]) (fun k => k ≤ s.times.length ∧ awayS s now = awayL now s.fin (pdep s k) (s.times.drop k)) (fun k => s.times.length - k) 0 ⟨by omega, rfl⟩ (Weak.mk ?_) ?_
 ·simp (disch := omega) only [mShe, pdep, go_sem, seval]
 ·rintro k ⟨hk, ha⟩
  simp (disch := omega) only [mShe, go_sem, seval]
  refine acond_b (fun h1 => ?_) (fun h1 => ?_) <;> (try simp only [decide_eq_true_eq, decide_eq_false_iff_not] at h1) <;> simp (disch := omega) only [Sh.out h1, go_sem, seval]
  ·have hk2 : k < s.times.length := by omega
   rw [awayL_at (by omega)] at ha
   refine aguard_t (fun h2 => ?_) (fun h2 => ?_) <;> (try simp only [decide_eq_true_eq, decide_eq_false_iff_not] at h2) <;> simp (disch := omega) only [Sh.out h2, go_sem, seval]
   ·refine acond_b (fun h3 => ?_) (fun h3 => ?_) <;> (try simp only [decide_eq_true_eq, decide_eq_false_iff_not] at h3) <;> simp (disch := omega) only [Sh.out h3, go_sem, seval]
    ·rw [ha]; simp [h2, h3]
    ·exact ⟨k + 1, ⟨by omega, by rw [ha]; simp [h3]; rfl⟩, by omega, Weak.mk (by simp (disch := omega) only [mShe, pdep_succ, go_sem, seval])⟩
   ·exact ⟨k + 1, ⟨by omega, by rw [ha]; simp [h2]; rfl⟩, by omega, Weak.mk (by simp (disch := omega) only [mShe, pdep_succ, go_sem, seval])⟩
  ·have hkl : k = s.times.length := by omega
   subst hkl
   rw [List.drop_length, awayL] at ha
   rw [ha]
   refine aguard_t (fun h4 => ?_) (fun h4 => ?_) <;> (try simp only [decide_eq_true_eq, decide_eq_false_iff_not] at h4) <;> simp (disch := omega) only [Sh.out h4, go_sem, seval]
theorem countB_succ {l : List Tim} {k : Nat} (h : k < l.length) : (((l.take (k + 1)).countP restB : Nat) : Int) = ((l.take k).countP restB : Nat) + (if (nth l k).rest = true then 1 else 0) := by
 rw [List.take_succ_eq_append_getElem h, List.countP_append, ← nth_get h]
 by_cases e : (nth l k).rest = true
 ·simp [restB, e]
 ·simp [restB, e]
theorem countB_le {l : List Tim} {k : Nat} : (l.take k).countP restB ≤ k := Nat.le_trans (List.countP_le_length) (by simp; omega)
theorem mRests_c (s : She) (hl : s.times.length ≤ 1048576) : ACalls Tryz.prog 55 [.p (eShe s)] [] fun y H' => y = .p (.int .i64 (restN s)) ∧ H' = [] := by
 refine acalls_pure (fn := Tryz.f55) Tryz.func55 rfl isF55 ?_
 simp (disch := omega) only [Tryz.f55, go_sem, seval]
 unfold restN
 generalize hb : s.rest = b
 cases b
 all_goals
  simp (disch := omega) only [go_sem, seval]
  refine awp_for [11, 12] (fun k : Nat => [(3, .p (.int .i64 ((if s.rest = true then 1 else 0) + ((s.times.take k).countP restB : Nat)))), (13, .p (.int .i64 k))]) (fun _ => [mShe s]) (fun k => k ≤ s.times.length) (fun k => s.times.length - k) 0 (by simp) (Weak.mk ?_) ?_
  ·simp (disch := omega) only [mShe, List.take_zero, List.countP_nil, hb, go_sem, seval]
  ·intro k hk
   simp (disch := omega) only [mShe, hb, go_sem, seval]
   refine acond_b (fun h1 => ?_) (fun h1 => ?_) <;> (try simp only [decide_eq_true_eq, decide_eq_false_iff_not] at h1) <;> simp (disch := omega) only [Sh.out h1, go_sem, seval]
   ·have hk2 : k < s.times.length := by omega
    have hc := countB_succ hk2
    have hcl := countB_le (l := s.times) (k := k)
    generalize he : (nth s.times k).rest = r at *
    cases r
    all_goals
     simp (disch := omega) only [go_sem, seval]
     refine ⟨k + 1, by omega, by omega, Weak.mk ?_⟩
     simp (disch := omega) only [mShe, hb, hc, go_sem, seval]
     exact congrArg (PV.int .i64) (by omega)
   ·have hkl : k = s.times.length := by omega
    subst hkl
    rw [List.take_length]
end Go.Proofs.YtngonbhfbpnkcaaGreatDoor.K
set_option linter.unusedVariables false
set_option linter.unusedSimpArgs false
namespace Go.Proofs.YtngonbhfbpnkcaaGreatDoor.K
open Go Go.AM Go.Proofs
set_option maxRecDepth 60000
set_option maxHeartbeats 8000000
def milS (x : Inst) (l : List Rte) : Nat → Int
 | 0 => 0
 | k + 1 => milS x l k + (evalS x (nth l k)).miles
def wrkS (x : Inst) (l : List Rte) : Nat → Int
 | 0 => 0
 | k + 1 => wrkS x l k + ((evalS x (nth l k)).fin - (typR x (nth l k)).opn)
def rstS (x : Inst) (l : List Rte) : Nat → Int
 | 0 => 0
 | k + 1 => rstS x l k + restN (evalS x (nth l k))
def totT (x : Inst) (p : Pln) : V := if errR x p.routes = 0 then .tup [.p (.int .i64 (milS x p.routes p.routes.length)), .p (.int .i64 (wrkS x p.routes p.routes.length)), .p (.int .i64 (rstS x p.routes p.routes.length)), .p (.int .i64 0)] else .tup [.p (.int .i64 0), .p (.int .i64 0), .p (.int .i64 0), .p (.int .i64 (errR x p.routes))]
theorem typ_opn {x : Inst} {r : Rte} (hx : InstOk x) (h : evalE x r = 0) : (0 ≤ r.typ ∧ r.typ < (x.types.length : Int)) ∧ 0 ≤ (typR x r).opn ∧ (typR x r).opn ≤ 4096 := by
 obtain ⟨hty, h0, hs⟩ := ruleE_typ (eval_typ h)
 have := (trpOk_of hx hty (sqOk_of h0)).opn
 exact ⟨hty, by omega, by omega⟩
theorem restN_rng {s : She} (h : s.times.length ≤ 1048576) : 0 ≤ restN s ∧ restN s ≤ 1048577 := by
 have := List.countP_le_length (p := restB) (l := s.times)
 unfold restN
 split <;> omega
theorem tot_rng {x : Inst} {l : List Rte} {k : Nat} (hx : InstOk x) (hz : ∀ j, j < k → evalE x (nth l j) = 0) (hv : ∀ j, j < k → (nth l j).visits.length ≤ 1048576) :
  (0 ≤ milS x l k ∧ milS x l k ≤ 210000 * k) ∧ (-(4096 * (k : Int)) ≤ wrkS x l k ∧ wrkS x l k ≤ 8192 * k) ∧ (0 ≤ rstS x l k ∧ rstS x l k ≤ 1048577 * k) := by
 induction k with
 | zero => simp [milS, wrkS, rstS]
 | succ k ih =>
  obtain ⟨i1, i2, i3⟩ := ih (fun j hj => hz j (by omega)) (fun j hj => hv j (by omega))
  have h1 := eval_rng hx (hz k (by omega))
  have h2 := typ_opn hx (hz k (by omega))
  have h3 := restN_rng (s := evalS x (nth l k)) (by rw [evalS_len (hz k (by omega))]; exact hv k (by omega))
  simp only [milS, wrkS, rstS]
  omega
theorem mTotals_c (x : Inst) (p : Pln) (hx : InstOk x) (hr : p.routes.length ≤ 1048576) (hb : ∀ r ∈ p.routes, rteB r) :
  ACalls Tryz.prog 22 [.p (eInst x), .p (ePln p)] [] fun y H' => y = totT x p ∧ H' = [] := by
 refine acalls_weak [] (fn := Tryz.f22) Tryz.func22 rfl isF22 ?_
 have ct := timetables_c x p hx hr hb
 unfold totT
 by_cases h0 : errR x p.routes = 0
 ·simp only [if_pos h0] at ct ⊢
  have hz : ∀ j, j < p.routes.length → evalE x (nth p.routes j) = 0 := fun j hj => errR_iff.1 h0 _ (nth_in hj)
  simp (disch := omega) only [Tryz.f22, go_sem, seval]
  refine useT' ct ?_
  have hl := ttbsF_len (x := x) (l := p.routes) (k := p.routes.length)
  simp (disch := omega) only [hl, go_sem, seval]
  refine awp_for [2, 24, 25] (fun k : Nat => [(10, .p (.int .i64 (milS x p.routes k))), (11, .p (.int .i64 (wrkS x p.routes k))), (12, .p (.int .i64 (rstS x p.routes k))), (26, .p (.int .i64 k))]) (fun k => [instO x, plnO p]) (fun k => k ≤ p.routes.length) (fun k => p.routes.length - k) 0 (by simp) (Weak.mk ?_) ?_
  ·simp (disch := omega) only [instO, plnO, milS, wrkS, rstS, go_sem, seval]
  ·intro k hk
   simp (disch := omega) only [instO, plnO, go_sem, seval]
   refine acond_b (fun h1 => ?_) (fun h1 => ?_) <;> (try simp only [decide_eq_true_eq, decide_eq_false_iff_not] at h1) <;> simp (disch := omega) only [Sh.out h1, go_sem, seval]
   ·have hk2 : k < p.routes.length := by omega
    have hat := ttbs_at (x := x) (l := p.routes) hk2
    obtain ⟨r1, r2, r3⟩ := tot_rng (l := p.routes) (k := k) hx (fun j hj => hz j (by omega)) (fun j hj => (hb _ (nth_in (by omega))).1)
    have h4 := eval_rng hx (hz k hk2)
    have h5 := typ_opn hx (hz k hk2)
    have hlen := evalS_len (hz k hk2)
    have hvl := (hb _ (nth_in hk2)).1
    have h6 := restN_rng (s := evalS x (nth p.routes k)) (by omega)
    have hty : (typR x (nth p.routes k)) = nth x.types (nth p.routes k).typ.toNat := rfl
    rw [hty] at h5
    simp (disch := omega) only [hat, ttbF, go_sem, seval]
    refine awp_drawnS 13 mixed (by kernel_rfl) (by kernel_rfl) ?_
    simp (disch := omega) only [go_sem, seval]
    refine (mRests_c (evalS x (nth p.routes k)) (by omega)).use ?_
    simp (disch := omega) only [go_sem, seval]
    refine ⟨k + 1, by omega, by omega, Weak.mk ?_⟩
    simp (disch := omega) only [instO, plnO, milS, wrkS, rstS, hty, go_sem, seval]
   ·have hkl : k = p.routes.length := by omega
    subst hkl
    exact ⟨_, _, Weak.mk (by simp (disch := omega) only [go_sem, seval]), rfl, rfl⟩
 ·simp only [if_neg h0] at ct ⊢
  simp (disch := omega) only [Tryz.f22, go_sem, seval]
  refine useT' ct ?_
  simp (disch := omega) only [go_sem, seval]
  refine acond_b (fun h1 => ?_) (fun h1 => ?_) <;> (try simp only [decide_eq_true_eq, decide_eq_false_iff_not] at h1) <;> simp (disch := omega) only [Sh.out h1, go_sem, seval]
  ·exact ⟨_, _, Weak.mk (by simp (disch := omega) only [go_sem, seval]), rfl, rfl⟩
  ·omega
theorem rTotals_c (x : Inst) (p : Pln) (hx : InstOk x) (hr : p.routes.length ≤ 1048576) (hb : ∀ r ∈ p.routes, rteB r) :
  ACalls Tryz.prog 23 [.p (eInst x), .p (ePln p)] [] fun y H' => y = totT x p ∧ H' = [] := by
 refine acalls_weak [] (fn := Tryz.f23) Tryz.func23 rfl isF23 ?_
 simp (disch := omega) only [Tryz.f23, go_sem, seval]
 refine awp_forC [7] [2, 3] (fun k : Nat => [(8, .p (.int .i64 (milS x p.routes k))), (9, .p (.int .i64 (wrkS x p.routes k))), (10, .p (.int .i64 (rstS x p.routes k))), (11, .p (.int .i64 k))]) (fun k => [instO x, plnO p]) (fun k => k ≤ p.routes.length ∧ ∀ j, j < k → evalE x (nth p.routes j) = 0) (fun k => p.routes.length - k) 0 (by simp) (Weak.mk ?_) ?_
 ·simp (disch := omega) only [instO, plnO, milS, wrkS, rstS, go_sem, seval]
 ·rintro k ⟨hk, hz⟩
  simp (disch := omega) only [instO, plnO, go_sem, seval]
  refine acond_b (fun h1 => ?_) (fun h1 => ?_) <;> (try simp only [decide_eq_true_eq, decide_eq_false_iff_not] at h1) <;> simp (disch := omega) only [Sh.out h1, go_sem, seval]
  ·have hk2 : k < p.routes.length := by omega
   have hm := nth_in hk2
   obtain ⟨b1, b2⟩ := hb _ hm
   have ce := evaluate21_c x (nth p.routes k) hx b1 b2
   unfold evalT at ce
   refine awp_join [2, 3, 11] (fun _ : Unit => [(8, .p (.int .i64 (milS x p.routes (k + 1)))), (9, .p (.int .i64 (wrkS x p.routes (k + 1)))), (10, .p (.int .i64 (rstS x p.routes (k + 1))))]) (fun _ => [instO x, plnO p]) (fun _ => evalE x (nth p.routes k) = 0) ?_ ?_
   ·simp (disch := omega) only [go_sem, seval]
    refine awp_drawnT [11, 12, 13, 14] 15 mixed (by kernel_rfl) (by kernel_rfl) (by kernel_rfl) (by simp) ?_
    simp (disch := omega) only [go_sem, seval]
    refine exq_callT3 ce ?_
    simp (disch := omega) only [go_sem, seval]
    refine lateT_two 11 12 _ _ _ _ (by kernel_rfl) (by simp (disch := omega) only [go_sem, seval]; exact ⟨rfl, rfl⟩) (by simp (disch := omega) only [go_sem, seval]; exact ⟨rfl, rfl⟩) ?_ ?_
    ·refine lateT_one 12 _ _ (by kernel_rfl) (by simp (disch := omega) only [go_sem, seval]; exact ⟨rfl, rfl⟩) (lateT_one 13 _ _ (by kernel_rfl) (by simp (disch := omega) only [go_sem, seval]; exact ⟨rfl, rfl⟩) (lateT_one 14 _ _ (by kernel_rfl) (by simp (disch := omega) only [go_sem, seval]; exact ⟨rfl, rfl⟩) (lateT_z ?_)))
     simp (disch := omega) only [go_sem, seval]
     refine acond_b (fun h2 => ?_) (fun h2 => ?_) <;> (try simp only [decide_eq_true_eq, decide_eq_false_iff_not] at h2) <;> simp (disch := omega) only [Sh.out h2, go_sem, seval]
     ·have her := errR_at hk2 hz h2
      rw [totT, if_neg (by rw [her]; exact h2), her]
      exact ⟨_, _, Weak.mk (by simp (disch := omega) only [go_sem, seval]), rfl, rfl⟩
     ·have hz0 : evalE x (nth p.routes k) = 0 := by omega
      obtain ⟨r1, r2, r3⟩ := tot_rng (l := p.routes) (k := k) hx (fun j hj => hz j (by omega)) (fun j hj => (hb _ (nth_in (by omega))).1)
      have h4 := eval_rng hx hz0
      have h5 := typ_opn hx hz0
      have hlen := evalS_len hz0
      have h6 := restN_rng (s := evalS x (nth p.routes k)) (by omega)
      have hty : (typR x (nth p.routes k)) = nth x.types (nth p.routes k).typ.toNat := rfl
      rw [hty] at h5
      refine awp_drawnS 15 mixed (by kernel_rfl) (by kernel_rfl) ?_
      simp (disch := omega) only [go_sem, seval]
      have hrn : restN (evalS x (nth p.routes k)) = (if (evalS x (nth p.routes k)).rest = true then 1 else 0) + ((evalS x (nth p.routes k)).times.countP restB : Nat) := rfl
      generalize hbr : (evalS x (nth p.routes k)).rest = b at *
      cases b
      all_goals
       simp (disch := omega) only [go_sem, seval]
       refine awp_for [2, 3, 8, 9, 11, 12] (fun q : Nat => [(10, .p (.int .i64 (rstS x p.routes k + ((if (evalS x (nth p.routes k)).rest = true then 1 else 0) + (((evalS x (nth p.routes k)).times.take q).countP restB : Nat))))), (15, .p (.int .i64 q))]) (fun _ => [instO x, plnO p, mShe (evalS x (nth p.routes k)), mSco (evalP x (nth p.routes k))]) (fun q => q ≤ (evalS x (nth p.routes k)).times.length) (fun q => (evalS x (nth p.routes k)).times.length - q) 0 (by simp) (Weak.mk ?_) ?_
       ·simp (disch := omega) only [instO, plnO, mShe, mSco, List.take_zero, List.countP_nil, hbr, go_sem, seval]
        all_goals exact congrArg (PV.int .i64) (by omega)
       ·intro q hq
        simp (disch := omega) only [instO, plnO, mShe, mSco, hbr, go_sem, seval]
        refine acond_b (fun h7 => ?_) (fun h7 => ?_) <;> (try simp only [decide_eq_true_eq, decide_eq_false_iff_not] at h7) <;> simp (disch := omega) only [Sh.out h7, go_sem, seval]
        ·have hq2 : q < (evalS x (nth p.routes k)).times.length := by omega
         have hc := countB_succ hq2
         have hcl := countB_le (l := (evalS x (nth p.routes k)).times) (k := q)
         generalize he : (nth (evalS x (nth p.routes k)).times q).rest = r at *
         cases r
         all_goals
          simp (disch := omega) only [go_sem, seval]
          refine ⟨q + 1, by omega, by omega, Weak.mk ?_⟩
          simp (disch := omega) only [instO, plnO, mShe, mSco, hbr, hc, go_sem, seval]
          all_goals exact congrArg (PV.int .i64) (by omega)
        ·have hql : q = (evalS x (nth p.routes k)).times.length := by omega
         subst hql
         refine ⟨(), hz0, Weak.mk ?_⟩
         simp (disch := omega) only [instO, plnO, milS, wrkS, rstS, hty, hrn, List.take_length, go_sem, seval]
         all_goals exact congrArg (PV.int .i64) (by omega)
    ·refine lateT_one 11 _ _ (by kernel_rfl) (by simp (disch := omega) only [go_sem, seval]; exact ⟨rfl, rfl⟩) (lateT_one 13 _ _ (by kernel_rfl) (by simp (disch := omega) only [go_sem, seval]; exact ⟨rfl, rfl⟩) (lateT_one 14 _ _ (by kernel_rfl) (by simp (disch := omega) only [go_sem, seval]; exact ⟨rfl, rfl⟩) (lateT_z ?_)))
     simp (disch := omega) only [go_sem, seval]
     refine acond_b (fun h2 => ?_) (fun h2 => ?_) <;> (try simp only [decide_eq_true_eq, decide_eq_false_iff_not] at h2) <;> simp (disch := omega) only [Sh.out h2, go_sem, seval]
     ·have her := errR_at hk2 hz h2
      rw [totT, if_neg (by rw [her]; exact h2), her]
      exact ⟨_, _, Weak.mk (by simp (disch := omega) only [go_sem, seval]), rfl, rfl⟩
     ·have hz0 : evalE x (nth p.routes k) = 0 := by omega
      obtain ⟨r1, r2, r3⟩ := tot_rng (l := p.routes) (k := k) hx (fun j hj => hz j (by omega)) (fun j hj => (hb _ (nth_in (by omega))).1)
      have h4 := eval_rng hx hz0
      have h5 := typ_opn hx hz0
      have hlen := evalS_len hz0
      have h6 := restN_rng (s := evalS x (nth p.routes k)) (by omega)
      have hty : (typR x (nth p.routes k)) = nth x.types (nth p.routes k).typ.toNat := rfl
      rw [hty] at h5
      refine awp_drawnS 15 mixed (by kernel_rfl) (by kernel_rfl) ?_
      simp (disch := omega) only [go_sem, seval]
      have hrn : restN (evalS x (nth p.routes k)) = (if (evalS x (nth p.routes k)).rest = true then 1 else 0) + ((evalS x (nth p.routes k)).times.countP restB : Nat) := rfl
      generalize hbr : (evalS x (nth p.routes k)).rest = b at *
      cases b
      all_goals
       simp (disch := omega) only [go_sem, seval]
       refine awp_for [2, 3, 8, 9, 11, 12] (fun q : Nat => [(10, .p (.int .i64 (rstS x p.routes k + ((if (evalS x (nth p.routes k)).rest = true then 1 else 0) + (((evalS x (nth p.routes k)).times.take q).countP restB : Nat))))), (15, .p (.int .i64 q))]) (fun _ => [instO x, plnO p, mSco (evalP x (nth p.routes k)), mShe (evalS x (nth p.routes k))]) (fun q => q ≤ (evalS x (nth p.routes k)).times.length) (fun q => (evalS x (nth p.routes k)).times.length - q) 0 (by simp) (Weak.mk ?_) ?_
       ·simp (disch := omega) only [instO, plnO, mShe, mSco, List.take_zero, List.countP_nil, hbr, go_sem, seval]
        all_goals exact congrArg (PV.int .i64) (by omega)
       ·intro q hq
        simp (disch := omega) only [instO, plnO, mShe, mSco, hbr, go_sem, seval]
        refine acond_b (fun h7 => ?_) (fun h7 => ?_) <;> (try simp only [decide_eq_true_eq, decide_eq_false_iff_not] at h7) <;> simp (disch := omega) only [Sh.out h7, go_sem, seval]
        ·have hq2 : q < (evalS x (nth p.routes k)).times.length := by omega
         have hc := countB_succ hq2
         have hcl := countB_le (l := (evalS x (nth p.routes k)).times) (k := q)
         generalize he : (nth (evalS x (nth p.routes k)).times q).rest = r at *
         cases r
         all_goals
          simp (disch := omega) only [go_sem, seval]
          refine ⟨q + 1, by omega, by omega, Weak.mk ?_⟩
          simp (disch := omega) only [instO, plnO, mShe, mSco, hbr, hc, go_sem, seval]
          all_goals exact congrArg (PV.int .i64) (by omega)
        ·have hql : q = (evalS x (nth p.routes k)).times.length := by omega
         subst hql
         refine ⟨(), hz0, Weak.mk ?_⟩
         simp (disch := omega) only [instO, plnO, milS, wrkS, rstS, hty, hrn, List.take_length, go_sem, seval]
         all_goals exact congrArg (PV.int .i64) (by omega)
   ·intro _ hz0
    refine awp_sound [] _ _ _ _ ?_
    simp (disch := omega) only [instO, plnO, go_sem, seval]
    refine ⟨k + 1, ⟨by omega, fun j hj => ?_⟩, by omega, Weak.mk (by simp (disch := omega) only [instO, plnO, go_sem, seval])⟩
    rcases Nat.lt_or_ge j k with h | h
    ·exact hz j h
    ·have : j = k := by omega
     subst this; exact hz0
  ·have hkl : k = p.routes.length := by omega
   subst hkl
   rw [totT, if_pos (errR_no hz)]
   exact ⟨_, _, Weak.mk (by simp (disch := omega) only [go_sem, seval]), rfl, rfl⟩
end Go.Proofs.YtngonbhfbpnkcaaGreatDoor.K
set_option linter.unusedVariables false
set_option linter.unusedSimpArgs false
namespace Go.Proofs.YtngonbhfbpnkcaaGreatDoor.K
open Go Go.AM Go.Proofs
set_option maxRecDepth 60000
set_option maxHeartbeats 8000000
def srvB (x : Inst) (now : Int) (r : Row) : Bool := decide (r.tm.beg ≤ now) && decide (now < r.tm.beg + (stopV x r.v).serv)
def awN (x : Inst) (now : Int) (l : List Rte) : Nat → Int
 | 0 => 0
 | k + 1 => awN x now l k + (if awayS (evalS x (nth l k)) now = true then 1 else 0)
theorem awN_rng {x now l} : ∀ k, 0 ≤ awN x now l k ∧ awN x now l k ≤ (k : Int)
 | 0 => by simp [awN]
 | k + 1 => by have := awN_rng (x := x) (now := now) (l := l) k; rw [awN]; split <;> omega
def atT (x : Inst) (p : Pln) (now : Int) : V :=
 if now < 0 ∨ 4096 < now then .tup [.p (.list true []), .p (.int .i64 0), .p (.int .i64 2)]
 else if errR x p.routes = 0 then .tup [.p (.list false (((manF x p.routes p.routes.length).filter (srvB x now)).map eRow)), .p (.int .i64 (awN x now p.routes p.routes.length)), .p (.int .i64 0)]
 else .tup [.p (.list true []), .p (.int .i64 0), .p (.int .i64 (errR x p.routes))]
structure RowOk (x : Inst) (r : Row) : Prop where
 inr : inB x r.v = true
 plc : 0 ≤ (stopV x r.v).place
 beg : 0 ≤ r.tm.beg ∧ r.tm.beg ≤ 4096
 srv : 0 ≤ (stopV x r.v).serv ∧ (stopV x r.v).serv ≤ 4096
theorem stopsF_at {x : Inst} {l : List Vis} {k : Nat} (h : k < l.length) : nth (stopsF x l) k = stopV x (nth l k) := by
 rw [nth_get (by rw [stopsF_len]; exact h), nth_get h]; simp [stopsF]
theorem mrow_ok {x : Inst} {i : Nat} {r : Rte} {q : Nat} (hx : InstOk x) (h : evalE x r = 0) (hq : q < r.visits.length) : RowOk x (mrowF x i r q) := by
 obtain ⟨hty, hsq, _⟩ := ruleE_typ (eval_typ h)
 have hvis := (sqOk_of hsq).vis (nth_in hq)
 simp only [visB, Bool.and_eq_true, decide_eq_true_eq] at hvis
 have hs := (eval_she hx h).seg q (by rw [stopsF_len]; exact hq)
 have hT := (trpOk_of hx hty (sqOk_of hsq)).stp _ (nth_in (show q < (stopsF x r.visits).length by rw [stopsF_len]; exact hq))
 rw [stopsF_at hq] at hT
 exact ⟨hvis.1, hvis.2, by simp only [mrowF]; omega, by simp only [mrowF]; omega⟩
theorem man_ok {x : Inst} {l : List Rte} {n : Nat} (hx : InstOk x) (hz : ∀ j, j < n → evalE x (nth l j) = 0) : ∀ r ∈ manF x l n, RowOk x r := fun r hr => by
 simp only [manF, List.mem_flatten, List.mem_map, List.mem_range] at hr
 obtain ⟨m, ⟨i, hi, rfl⟩, hm⟩ := hr
 simp only [mrowsF, List.mem_map, List.mem_range] at hm
 obtain ⟨q, hq, rfl⟩ := hm
 exact mrow_ok hx (hz i hi) hq
theorem fsnoc {α : Type} {f : α → Bool} {l : List α} {a : α} : (l ++ [a]).filter f = l.filter f ++ if f a = true then [a] else [] := by
 rw [List.filter_append]; congr 1
 by_cases h : f a = true
 ·simp [h]
 ·simp [h]
def manS (x : Inst) (now : Int) (l : List Rte) (k q : Nat) : List Row := (manQ x l k q).filter (srvB x now)
theorem manS_all {x now l k} : manS x now l k (nth l k).visits.length = (manF x l (k + 1)).filter (srvB x now) := by rw [manS, manQ_all]
theorem manS_zero {x now l k} : manS x now l k 0 = (manF x l k).filter (srvB x now) := by rw [manS, manQ_zero]
theorem manS_succ {x now l k q} : manS x now l k (q + 1) = manS x now l k q ++ if srvB x now (mrowF x k (nth l k) q) = true then [mrowF x k (nth l k) q] else [] := by rw [manS, manQ_succ, fsnoc]; rfl
theorem manS_len {x now l k q} : (manS x now l k q).length ≤ (manF x l k).length + q := by
 have := List.length_filter_le (srvB x now) (manQ x l k q)
 rw [manQ_len] at this
 exact this
theorem mAt_c (x : Inst) (p : Pln) (now : Int) (hx : InstOk x) (hr : p.routes.length ≤ 1048576) (hb : ∀ r ∈ p.routes, rteB r) :
  ACalls Tryz.prog 20 [.p (eInst x), .p (ePln p), .p (.int .i64 now)] [] fun y H' => y = atT x p now ∧ H' = [] := by
 refine acalls_weak [7, 21] (fn := Tryz.f20) Tryz.func20 rfl isF20 ?_
 have ct := timetables_c x p hx hr hb
 have hn := ord10 hx
 simp (disch := omega) only [Tryz.f20, go_sem, seval]
 by_cases hnow : now < 0 ∨ 4096 < now
 ·rw [atT, if_pos hnow]
  refine aguard_f (fun h1 => ?_) (fun h1 => ?_) <;> (try simp only [decide_eq_true_eq, decide_eq_false_iff_not] at h1) <;> simp (disch := omega) only [Sh.out h1, go_sem, seval]
  ·exact ⟨_, _, Weak.mk (by simp (disch := omega) only [go_sem, seval]), rfl, rfl⟩
  ·refine acond_b (fun h2 => ?_) (fun h2 => ?_) <;> (try simp only [decide_eq_true_eq, decide_eq_false_iff_not] at h2) <;> simp (disch := omega) only [Sh.out h2, go_sem, seval]
   ·exact ⟨_, _, Weak.mk (by simp (disch := omega) only [go_sem, seval]), rfl, rfl⟩
   ·omega
 ·rw [atT, if_neg hnow]
  refine aguard_f (fun h1 => ?_) (fun h1 => ?_) <;> (try simp only [decide_eq_true_eq, decide_eq_false_iff_not] at h1) <;> simp (disch := omega) only [Sh.out h1, go_sem, seval]
  ·omega
  ·refine acond_b (fun h2 => ?_) (fun h2 => ?_) <;> (try simp only [decide_eq_true_eq, decide_eq_false_iff_not] at h2) <;> simp (disch := omega) only [Sh.out h2, go_sem, seval]
   ·omega
   ·by_cases h0 : errR x p.routes = 0
    ·simp only [if_pos h0] at ct ⊢
     have hz : ∀ j, j < p.routes.length → evalE x (nth p.routes j) = 0 := fun j hj => errR_iff.1 h0 _ (nth_in hj)
     refine useT' ct ?_
     simp (disch := omega) only [go_sem, seval]
     refine awp_weak (Weak.nil 11 9 (by rfl) (by simp)) ?_
     refine awp_sound [21] _ _ _ _ ?_
     have hl := ttbsF_len (x := x) (l := p.routes) (k := p.routes.length)
     simp (disch := omega) only [List.set_cons_succ, List.set_cons_zero, List.cons_append, List.nil_append, List.length_cons, List.length_nil, hl, go_sem, seval]
     refine awp_for [2, 3, 34, 35] (fun k : Nat => [(11, .sl 2 0 (manS x now p.routes k 0).length (manS x now p.routes k 0).length), (12, .p (.int .i64 (awN x now p.routes k))), (36, .p (.int .i64 k))]) (fun k => [instO x, plnO p, .elems 9 ((manS x now p.routes k 0).map eRow)]) (fun k => k ≤ p.routes.length) (fun k => p.routes.length - k) 0 (by simp) (Weak.mk ?_) ?_
     ·simp (disch := omega) only [instO, plnO, manS, manQ, manF, mrowsF, List.range_zero, List.map_nil, List.flatten_nil, List.append_nil, List.filter_nil, List.length_nil, awN, go_sem, seval]
     ·intro k hk
      simp (disch := omega) only [instO, plnO, go_sem, seval]
      refine acond_b (fun h3 => ?_) (fun h3 => ?_) <;> (try simp only [decide_eq_true_eq, decide_eq_false_iff_not] at h3) <;> simp (disch := omega) only [Sh.out h3, go_sem, seval]
      ·have hk2 : k < p.routes.length := by omega
       have hat := ttbs_at (x := x) (l := p.routes) hk2
       have hz0 := hz k hk2
       have hml : (manF x p.routes k).length ≤ 1048576 * k := manF_len fun i hi => (hb _ (nth_in (by omega))).1
       have hvl := (hb _ (nth_in hk2)).1
       have htl := evalS_len hz0
       have haw := awN_rng (x := x) (now := now) (l := p.routes) k
       have hrl := mrowsF_len (x := x) (i := k) (r := nth p.routes k) (k := (nth p.routes k).visits.length)
       simp (disch := omega) only [hat, ttbF, go_sem, seval]
       simp (disch := omega) only [hrl, go_sem, seval]
       refine awp_for [2, 3, 12, 14, 34, 35, 36, 41, 42] (fun q : Nat => [(11, .sl 2 0 (manS x now p.routes k q).length (manS x now p.routes k q).length), (43, .p (.int .i64 q))]) (fun q => [instO x, plnO p, .elems 9 ((manS x now p.routes k q).map eRow), ttbO (ttbF x k (nth p.routes k))]) (fun q => q ≤ (nth p.routes k).visits.length) (fun q => (nth p.routes k).visits.length - q) 0 (by simp) (Weak.mk ?_) ?_
       ·simp (disch := omega) only [instO, plnO, ttbO, ttbF, go_sem, seval]
       ·intro q hq
        simp (disch := omega) only [instO, plnO, ttbO, ttbF, go_sem, seval]
        refine acond_b (fun h4 => ?_) (fun h4 => ?_) <;> (try simp only [decide_eq_true_eq, decide_eq_false_iff_not] at h4) <;> simp (disch := omega) only [Sh.out h4, go_sem, seval]
        ·have hq2 : q < (nth p.routes k).visits.length := by omega
         have hro := mrow_ok (i := k) hx hz0 hq2
         have hra : nth (mrowsF x k (nth p.routes k) (nth p.routes k).visits.length) q = mrowF x k (nth p.routes k) q := by rw [nth_get (by rw [mrowsF_len]; exact hq2)]; simp [mrowsF]
         have hms := manS_succ (x := x) (now := now) (l := p.routes) (k := k) (q := q)
         have hsl := manS_len (x := x) (now := now) (l := p.routes) (k := k) (q := q)
         generalize mrowF x k (nth p.routes k) q = w at *
         obtain ⟨w1, w2, w3, w4⟩ := hro
         simp (disch := omega) only [hrl, hra, go_sem, seval]
         refine useT' (pStop_c x w.v (by omega) w1 w2) ?_
         simp (disch := omega) only [go_sem, seval]
         have hsd : srvB x now w = (decide (w.tm.beg ≤ now) && decide (now < w.tm.beg + (stopV x w.v).serv)) := rfl
         refine aguard_t (fun h5 => ?_) (fun h5 => ?_) <;> (try simp only [decide_eq_true_eq, decide_eq_false_iff_not] at h5) <;> simp (disch := omega) only [Sh.out h5, go_sem, seval]
         ·refine acond_b (fun h6 => ?_) (fun h6 => ?_) <;> (try simp only [decide_eq_true_eq, decide_eq_false_iff_not] at h6) <;> simp (disch := omega) only [Sh.out h6, go_sem, seval]
          ·rw [hsd, if_pos (by simp [h5, h6])] at hms
           refine ⟨q + 1, by omega, by omega, Weak.mk ?_⟩
           simp (disch := omega) only [instO, plnO, ttbO, ttbF, hms, List.map_append, List.map_cons, List.map_nil, List.length_append, List.length_cons, List.length_nil, go_sem, seval]
          ·rw [hsd, if_neg (by simp [h6]), List.append_nil] at hms
           exact ⟨q + 1, by omega, by omega, Weak.mk (by simp (disch := omega) only [instO, plnO, ttbO, ttbF, hms, go_sem, seval])⟩
         ·rw [hsd, if_neg (by simp [h5]), List.append_nil] at hms
          exact ⟨q + 1, by omega, by omega, Weak.mk (by simp (disch := omega) only [instO, plnO, ttbO, ttbF, hms, go_sem, seval])⟩
        ·have hql : q = (nth p.routes k).visits.length := by omega
         subst hql
         have hma := manS_all (x := x) (now := now) (l := p.routes) (k := k)
         rw [← manS_zero] at hma
         refine (away_c (ttbF x k (nth p.routes k)) now (by simp only [ttbF]; omega) (by simp only [ttbF]; omega) (fun i hi => ?_)).use ?_
         ·simp only [ttbF, mrowsF_len] at hi ⊢
          rw [nth_get (by rw [mrowsF_len]; exact hi)]; simp [mrowsF, mrowF]
         ·have hawe : awayS (ttbF x k (nth p.routes k)).she now = awayS (evalS x (nth p.routes k)) now := rfl
          rw [hawe]
          have hnx : awN x now p.routes (k + 1) = awN x now p.routes k + (if awayS (evalS x (nth p.routes k)) now = true then 1 else 0) := rfl
          generalize awayS (evalS x (nth p.routes k)) now = a at *
          cases a
          ·simp (disch := omega) only [go_sem, seval]
           rw [if_neg (by simp)] at hnx
           exact ⟨k + 1, by omega, by omega, Weak.mk (by simp (disch := omega) only [instO, plnO, hnx, ← hma, Int.add_zero, go_sem, seval])⟩
          ·simp (disch := omega) only [go_sem, seval]
           rw [if_pos rfl] at hnx
           exact ⟨k + 1, by omega, by omega, Weak.mk (by simp (disch := omega) only [instO, plnO, hnx, ← hma, go_sem, seval])⟩
      ·have hkl : k = p.routes.length := by omega
       subst hkl
       rw [manS_zero]
       refine awp_weak (Weak.fz (o := 2) (by rfl)) ?_
       refine awp_sound [] _ _ _ _ ?_
       simp (disch := omega) only [List.map_cons, List.map_nil, List.set_cons_succ, List.set_cons_zero, instO, plnO, List.length_map, eq_self, go_sem, seval]
       rw [if_pos h0]
       exact ⟨_, _, Weak.mk (by simp (disch := omega) only [go_sem, seval]), rfl, rfl⟩
    ·simp only [if_neg h0] at ct ⊢
     refine useT' ct ?_
     simp (disch := omega) only [go_sem, seval]
     refine acond_b (fun h1 => ?_) (fun h1 => ?_) <;> (try simp only [decide_eq_true_eq, decide_eq_false_iff_not] at h1) <;> simp (disch := omega) only [Sh.out h1, go_sem, seval]
     ·exact ⟨_, _, Weak.mk (by simp (disch := omega) only [go_sem, seval]), rfl, rfl⟩
     ·omega
end Go.Proofs.YtngonbhfbpnkcaaGreatDoor.K
set_option linter.unusedVariables false
set_option linter.unusedSimpArgs false
namespace Go.Proofs.YtngonbhfbpnkcaaGreatDoor.K
open Go Go.AM Go.Proofs
set_option maxRecDepth 60000
set_option maxHeartbeats 8000000
theorem rAt_c (x : Inst) (p : Pln) (now : Int) (hx : InstOk x) (hr : p.routes.length ≤ 1048576) (hb : ∀ r ∈ p.routes, rteB r) :
  ACalls Tryz.prog 21 [.p (eInst x), .p (ePln p), .p (.int .i64 now)] [] fun y H' => y = atT x p now ∧ H' = [] := by
 refine acalls_weak [7, 13, 19] (fn := Tryz.f21) Tryz.func21 rfl isF21 ?_
 have ct := rRows_c x p hx hr hb
 unfold manT at ct
 simp (disch := omega) only [Tryz.f21, go_sem, seval]
 by_cases hnow : now < 0 ∨ 4096 < now
 ·rw [atT, if_pos hnow]
  refine aguard_f (fun h1 => ?_) (fun h1 => ?_) <;> (try simp only [decide_eq_true_eq, decide_eq_false_iff_not] at h1) <;> simp (disch := omega) only [Sh.out h1, go_sem, seval]
  ·exact ⟨_, _, Weak.mk (by simp (disch := omega) only [go_sem, seval]), rfl, rfl⟩
  ·refine acond_b (fun h2 => ?_) (fun h2 => ?_) <;> (try simp only [decide_eq_true_eq, decide_eq_false_iff_not] at h2) <;> simp (disch := omega) only [Sh.out h2, go_sem, seval]
   ·exact ⟨_, _, Weak.mk (by simp (disch := omega) only [go_sem, seval]), rfl, rfl⟩
   ·omega
 ·rw [atT, if_neg hnow]
  refine aguard_f (fun h1 => ?_) (fun h1 => ?_) <;> (try simp only [decide_eq_true_eq, decide_eq_false_iff_not] at h1) <;> simp (disch := omega) only [Sh.out h1, go_sem, seval]
  ·omega
  ·refine acond_b (fun h2 => ?_) (fun h2 => ?_) <;> (try simp only [decide_eq_true_eq, decide_eq_false_iff_not] at h2) <;> simp (disch := omega) only [Sh.out h2, go_sem, seval]
   ·omega
   ·by_cases h0 : errR x p.routes = 0
    ·simp only [if_pos h0] at ct ⊢
     have hz : ∀ j, j < p.routes.length → evalE x (nth p.routes j) = 0 := fun j hj => errR_iff.1 h0 _ (nth_in hj)
     have hok := man_ok hx hz
     have hml : (manF x p.routes p.routes.length).length ≤ 1048576 * p.routes.length := manF_len fun i hi => (hb _ (nth_in hi)).1
     refine useT' ct ?_
     generalize manF x p.routes p.routes.length = M at *
     simp (disch := omega) only [go_sem, seval]
     refine awp_weak (Weak.nil 11 9 (by rfl) (by simp)) ?_
     refine awp_sound [13, 19] _ _ _ _ ?_
     simp (disch := omega) only [List.set_cons_succ, List.set_cons_zero, List.cons_append, List.nil_append, List.length_cons, List.length_nil, go_sem, seval]
     refine awp_for [2, 3, 4, 9] (fun k : Nat => [(11, .sl 2 0 ((M.take k).filter (srvB x now)).length ((M.take k).filter (srvB x now)).length), (12, .p (.int .i64 k))]) (fun k => [instO x, plnO p, .elems 9 (((M.take k).filter (srvB x now)).map eRow)]) (fun k => k ≤ M.length) (fun k => M.length - k) 0 (by simp) (Weak.mk ?_) ?_
     ·simp (disch := omega) only [instO, plnO, List.take_zero, List.filter_nil, List.map_nil, List.length_nil, go_sem, seval]
     ·intro k hk
      simp (disch := omega) only [instO, plnO, go_sem, seval]
      refine acond_b (fun h3 => ?_) (fun h3 => ?_) <;> (try simp only [decide_eq_true_eq, decide_eq_false_iff_not] at h3) <;> simp (disch := omega) only [Sh.out h3, go_sem, seval]
      ·have hk2 : k < M.length := by omega
       obtain ⟨w1, w2, w3, w4⟩ := hok _ (nth_in hk2)
       have hfl : ((M.take k).filter (srvB x now)).length ≤ k := Nat.le_trans (List.length_filter_le _ _) (by simp; omega)
       have hfs : (M.take (k + 1)).filter (srvB x now) = (M.take k).filter (srvB x now) ++ if srvB x now (nth M k) = true then [nth M k] else [] := by
        rw [List.take_succ_eq_append_getElem hk2, fsnoc, nth_get hk2]
       refine awp_drawnA mixed (by kernel_rfl) (by kernel_rfl) ?_
       simp (disch := omega) only [go_sem, seval]
       have hsd : srvB x now (nth M k) = (decide ((nth M k).tm.beg ≤ now) && decide (now < (nth M k).tm.beg + (stopV x (nth M k).v).serv)) := rfl
       refine aguard_t (fun h5 => ?_) (fun h5 => ?_) <;> (try simp only [decide_eq_true_eq, decide_eq_false_iff_not] at h5) <;> simp (disch := omega) only [Sh.out h5, go_sem, seval]
       ·refine exq_call (rstop58_c x (nth M k).v w1) ?_
        simp (disch := omega) only [go_sem, seval]
        refine acond_b (fun h6 => ?_) (fun h6 => ?_) <;> (try simp only [decide_eq_true_eq, decide_eq_false_iff_not] at h6) <;> simp (disch := omega) only [Sh.out h6, go_sem, seval]
        ·rw [hsd, if_pos (by simp [h5, h6])] at hfs
         refine ⟨k + 1, by omega, by omega, Weak.mk ?_⟩
         simp (disch := omega) only [instO, plnO, hfs, List.map_append, List.map_cons, List.map_nil, List.length_append, List.length_cons, List.length_nil, go_sem, seval]
        ·rw [hsd, if_neg (by simp [h6]), List.append_nil] at hfs
         exact ⟨k + 1, by omega, by omega, Weak.mk (by simp (disch := omega) only [instO, plnO, hfs, go_sem, seval])⟩
       ·rw [hsd, if_neg (by simp [h5]), List.append_nil] at hfs
        exact ⟨k + 1, by omega, by omega, Weak.mk (by simp (disch := omega) only [instO, plnO, hfs, go_sem, seval])⟩
      ·have hkl : k = M.length := by omega
       subst hkl
       rw [List.take_length]
       generalize M.filter (srvB x now) = N
       refine awp_sound [16, 19] _ _ _ _ ?_
       simp (disch := omega) only [instO, plnO, go_sem, seval]
       refine awp_forC [16] [2, 3, 4, 11] (fun k : Nat => [(13, .p (.int .i64 (awN x now p.routes k))), (14, .p (.int .i64 k))]) (fun _ => [instO x, plnO p, .elems 9 (N.map eRow)]) (fun k => k ≤ p.routes.length) (fun k => p.routes.length - k) 0 (by simp) (Weak.mk ?_) ?_
       ·simp (disch := omega) only [instO, plnO, awN, go_sem, seval]
       ·intro k hk
        simp (disch := omega) only [instO, plnO, go_sem, seval]
        refine acond_b (fun h7 => ?_) (fun h7 => ?_) <;> (try simp only [decide_eq_true_eq, decide_eq_false_iff_not] at h7) <;> simp (disch := omega) only [Sh.out h7, go_sem, seval]
        ·have hk2 : k < p.routes.length := by omega
         obtain ⟨b1, b2⟩ := hb _ (nth_in hk2)
         have ce := evaluate21_c x (nth p.routes k) hx b1 b2
         unfold evalT at ce
         have haw := awN_rng (x := x) (now := now) (l := p.routes) k
         have htl := evalS_len (hz k hk2)
         have hnx : awN x now p.routes (k + 1) = awN x now p.routes k + (if awayS (evalS x (nth p.routes k)) now = true then 1 else 0) := rfl
         refine awp_join [2, 3, 4, 11, 14] (fun _ : Unit => [(13, .p (.int .i64 (awN x now p.routes (k + 1))))]) (fun _ => [instO x, plnO p, .elems 9 (N.map eRow)]) (fun _ => True) ?_ ?_
         ·simp (disch := omega) only [go_sem, seval]
          refine awp_drawnT [11, 12, 13, 14] 15 mixed (by kernel_rfl) (by kernel_rfl) (by kernel_rfl) (by simp) ?_
          simp (disch := omega) only [go_sem, seval]
          refine exq_callT3 ce ?_
          simp (disch := omega) only [go_sem, seval]
          refine lateT_two 11 12 _ _ _ _ (by kernel_rfl) (by simp (disch := omega) only [go_sem, seval]; exact ⟨rfl, rfl⟩) (by simp (disch := omega) only [go_sem, seval]; exact ⟨rfl, rfl⟩) ?_ ?_
          ·refine lateT_one 12 _ _ (by kernel_rfl) (by simp (disch := omega) only [go_sem, seval]; exact ⟨rfl, rfl⟩) (lateT_one 13 _ _ (by kernel_rfl) (by simp (disch := omega) only [go_sem, seval]; exact ⟨rfl, rfl⟩) (lateT_one 14 _ _ (by kernel_rfl) (by simp (disch := omega) only [go_sem, seval]; exact ⟨rfl, rfl⟩) (lateT_z ?_)))
           simp (disch := omega) only [go_sem, seval]
           refine (moving_c (evalS x (nth p.routes k)) now (by omega)).use ?_
           simp (disch := omega) only [go_sem, seval]
           generalize awayS (evalS x (nth p.routes k)) now = a at *
           cases a
           ·simp (disch := omega) only [go_sem, seval]
            rw [if_neg (by simp), Int.add_zero] at hnx
            exact ⟨(), Weak.mk (by simp (disch := omega) only [instO, plnO, hnx, go_sem, seval])⟩
           ·simp (disch := omega) only [go_sem, seval]
            rw [if_pos rfl] at hnx
            exact ⟨(), Weak.mk (by simp (disch := omega) only [instO, plnO, hnx, go_sem, seval])⟩
          ·refine lateT_one 11 _ _ (by kernel_rfl) (by simp (disch := omega) only [go_sem, seval]; exact ⟨rfl, rfl⟩) (lateT_one 13 _ _ (by kernel_rfl) (by simp (disch := omega) only [go_sem, seval]; exact ⟨rfl, rfl⟩) (lateT_one 14 _ _ (by kernel_rfl) (by simp (disch := omega) only [go_sem, seval]; exact ⟨rfl, rfl⟩) (lateT_z ?_)))
           simp (disch := omega) only [go_sem, seval]
           refine (moving_c (evalS x (nth p.routes k)) now (by omega)).use ?_
           simp (disch := omega) only [go_sem, seval]
           generalize awayS (evalS x (nth p.routes k)) now = a at *
           cases a
           ·simp (disch := omega) only [go_sem, seval]
            rw [if_neg (by simp), Int.add_zero] at hnx
            exact ⟨(), Weak.mk (by simp (disch := omega) only [instO, plnO, hnx, go_sem, seval])⟩
           ·simp (disch := omega) only [go_sem, seval]
            rw [if_pos rfl] at hnx
            exact ⟨(), Weak.mk (by simp (disch := omega) only [instO, plnO, hnx, go_sem, seval])⟩
         ·intro _ _
          refine awp_sound [] _ _ _ _ ?_
          simp (disch := omega) only [instO, plnO, go_sem, seval]
          exact ⟨k + 1, by omega, by omega, Weak.mk (by simp (disch := omega) only [instO, plnO, go_sem, seval])⟩
        ·have hkl : k = p.routes.length := by omega
         subst hkl
         refine awp_weak (Weak.fz (o := 2) (by rfl)) ?_
         refine awp_sound [] _ _ _ _ ?_
         simp (disch := omega) only [List.map_cons, List.map_nil, List.set_cons_succ, List.set_cons_zero, instO, plnO, List.length_map, eq_self, go_sem, seval]
         rw [if_pos h0]
         exact ⟨_, _, Weak.mk (by simp (disch := omega) only [go_sem, seval]), rfl, rfl⟩
    ·simp only [if_neg h0] at ct ⊢
     refine useT' ct ?_
     simp (disch := omega) only [go_sem, seval]
     refine acond_b (fun h1 => ?_) (fun h1 => ?_) <;> (try simp only [decide_eq_true_eq, decide_eq_false_iff_not] at h1) <;> simp (disch := omega) only [Sh.out h1, go_sem, seval]
     ·exact ⟨_, _, Weak.mk (by simp (disch := omega) only [go_sem, seval]), rfl, rfl⟩
     ·omega
end Go.Proofs.YtngonbhfbpnkcaaGreatDoor.K
