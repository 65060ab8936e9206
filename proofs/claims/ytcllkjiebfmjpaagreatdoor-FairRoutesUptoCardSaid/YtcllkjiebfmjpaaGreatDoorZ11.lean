/- Declarations that the closing texts need, part 11: joined by tools/slim.py. -/
import Derived.Test.YtcllkjiebfmjpaaGreatDoorZ10
set_option linter.unusedVariables false
set_option linter.unusedSimpArgs false
namespace Go.Proofs.YtcllkjiebfmjpaaGreatDoor.K
open Go Go.AM Go.Proofs
set_option maxRecDepth 8000
set_option maxHeartbeats 8000000
theorem SqOk.len {x : Inst} {l : List Vis} (h : SqOk x l) (hn : x.orders.length ≤ 10) : l.length ≤ 20 := by
  have h1 := List.Nodup.length_le_of_subset (l₁ := l) (l₂ := (List.range 10).flatMap fun i : Nat => [(⟨(i : Int), false⟩ : Vis), ⟨(i : Int), true⟩]) h.nd (fun v hv => by
    obtain ⟨v1, v2⟩ := h.inr v hv
    rw [List.mem_flatMap]
    refine ⟨v.order.toNat, List.mem_range.2 (by omega), ?_⟩
    obtain ⟨o, d⟩ := v
    have e : ((o.toNat : Nat) : Int) = o := by simp only at v1; omega
    cases d <;> simp [e])
  have h2 : ((List.range 10).flatMap fun i : Nat => [(⟨(i : Int), false⟩ : Vis), ⟨(i : Int), true⟩]).length = 20 := rfl
  omega
theorem SqOk.vis {x : Inst} {l : List Vis} (h : SqOk x l) {v : Vis} (hv : v ∈ l) : visB x v = true := by
  obtain ⟨v1, v2⟩ := h.inr v hv
  obtain ⟨i, hi⟩ : ∃ i : Nat, v.order = (i : Int) := ⟨v.order.toNat, by omega⟩
  have ho := h.own (i := i) ⟨v, hv, hi⟩
  have hpl : 0 ≤ (stopV x v).place := by
    unfold stopV
    rw [hi, Int.toNat_natCast]
    cases hd : v.drp with
    | true => exact ho.isD (by rw [← hi, ← hd]; exact hv)
    | false => exact ho.isP (by rw [← hi, ← hd]; exact hv)
  simp [visB, inB, v1, v2, hpl]
theorem poss_of {x : Inst} {r : Rte} (h : SqOk x r.visits) (hn : x.orders.length ≤ 10) (ht : 0 ≤ r.typ ∧ r.typ < (x.types.length : Int)) : possB x r = (decide (0 ≤ r.start) && decide (r.start ≤ 4096)) := by
  have h1 : r.visits.all (visB x) = true := List.all_eq_true.2 fun v hv => h.vis hv
  have h2 := h.len hn
  simp [possB, h1, h2, ht.1, ht.2]
theorem netR_of {n : Net} (h : netOk n) : netR n ∧ ∀ a ∈ n.arcs, 0 ≤ a.miles ∧ a.miles ≤ 10000 := by
  obtain ⟨⟨⟨h1, _⟩, h2⟩, h3⟩ := h
  have ha : ∀ a ∈ n.arcs, arcR a ∧ 0 ≤ a.miles ∧ a.miles ≤ 10000 := fun a hm => by
    obtain ⟨i, hi, rfl⟩ := List.mem_iff_getElem.1 hm
    have := h3 i hi
    unfold arcOk at this
    rw [nth_get hi] at this
    obtain ⟨⟨⟨⟨⟨_, g1⟩, _⟩, g2⟩, g3⟩, g4⟩ := this
    refine ⟨⟨g2, g3, fun p hp => ?_⟩, g1.2.2.1, g1.2.2.2.1⟩
    obtain ⟨j, hj, rfl⟩ := List.mem_iff_getElem.1 hp
    have := g4 j hj
    unfold slowOk at this
    rw [nth_get hj] at this
    simp only [tick, rng, decide_eq_true_eq] at this
    exact ⟨this.1.1, this.1.2, this.2.1.1, this.2.1.2⟩
  exact ⟨⟨by omega, by omega, fun a hm => (ha a hm).1⟩, fun a hm => (ha a hm).2⟩
theorem typ_nums {x : Inst} (hx : InstOk x) {i : Nat} (hi : i < x.types.length) : (0 ≤ (nth x.types i).opn ∧ (nth x.types i).opn ≤ (nth x.types i).cls ∧ (nth x.types i).cls ≤ 4096) ∧ (1 ≤ (nth x.types i).drive ∧ (nth x.types i).drive ≤ 4096) ∧ (0 ≤ (nth x.types i).rest ∧ (nth x.types i).rest ≤ 4096) ∧
    (0 ≤ (nth x.types i).fixed ∧ (nth x.types i).fixed ≤ 100000 ∧ 0 ≤ (nth x.types i).perMile ∧ (nth x.types i).perMile ≤ 100 ∧ 0 ≤ (nth x.types i).perTick ∧ (nth x.types i).perTick ≤ 100) ∧ (0 ≤ (nth x.types i).skills ∧ (nth x.types i).skills ≤ 1073741823) := by
  have ht := hx.types.2 i hi
  unfold typOk at ht
  obtain ⟨⟨⟨⟨⟨⟨⟨⟨_, _⟩, _⟩, _⟩, _⟩, h1⟩, h2⟩, h3⟩, h4⟩ := ht
  simp only [rng, decide_eq_true_eq] at h1 h2 h3 h4
  omega
theorem trpOk_of {x : Inst} {r : Rte} (hx : InstOk x) (ht : 0 ≤ r.typ ∧ r.typ < (x.types.length : Int)) (h : SqOk x r.visits) : TrpOk x (typR x r) (stopsF x r.visits) := by
  have hti : r.typ.toNat < x.types.length := by omega
  obtain ⟨t1, t2, t3, _⟩ := typ_nums hx hti
  obtain ⟨n1, n2⟩ := netR_of hx.net
  refine ⟨n1, n2, t1, t2, t3, fun s hs => ?_, by rw [stopsF_len]; exact h.len hx.orders.1⟩
  obtain ⟨v, hv, rfl⟩ := List.mem_map.1 hs
  obtain ⟨v1, v2⟩ := h.inr v hv
  have hi : v.order.toNat < x.orders.length := by omega
  have ho := hx.orders.2 _ hi
  have hvis := h.vis hv
  have hp := ho.pstp
  have hd := ho.dstp
  simp only [stpOk, decide_eq_true_eq] at hp hd
  simp only [visB, Bool.and_eq_true, decide_eq_true_eq] at hvis
  have h3 := hvis.2
  unfold stopV at h3 ⊢
  split
  · rename_i c; rw [if_pos c] at h3; omega
  · rename_i c; rw [if_neg c] at h3; omega
theorem runF_rng {x t sp} (h : TrpOk x t sp) : ∀ (bs : List Bool) (k : Nat) (L : Lab), k + bs.length = sp.length + 1 → LabR k L → (runF x t sp k L bs).2 = 0 → LabR (sp.length + 1) (runF x t sp k L bs).1 ∧ (bs ≠ [] → (runF x t sp k L bs).1.she.fin = (runF x t sp k L bs).1.ready)
  | [], k, L, hk, hl, h0 => by
    simp at hk; subst hk
    exact ⟨hl, fun h => absurd rfl h⟩
  | b :: bs, k, L, hk, hl, h0 => by
    simp at hk
    rw [runF] at h0 ⊢
    split at h0
    · rename_i c
      rw [if_pos c]
      obtain ⟨h1, h2⟩ := runF_rng h bs (k + 1) _ (by omega) (nxtF_ok h (by omega) hl c) h0
      refine ⟨h1, fun _ => ?_⟩
      cases bs with
      | nil =>
        simp at hk
        subst hk
        exact nxtO_fin (x := x) (t := t) (sp := sp) (y := L) (b := b) (by rw [nxtO, if_pos c]; rfl)
      | cons b2 bs => exact h2 (by simp)
    · simp at h0; rename_i c; exact absurd h0 c
theorem best_rng {x t sp} {st : Int} {r : List Bool} (h : TrpOk x t sp) (hs : 0 ≤ st ∧ st ≤ 4096) (hr : r.length ≤ sp.length + 1) (h0 : (bestF x t sp st r).2 = 0) : (0 ≤ (bestF x t sp st r).1.fin ∧ (bestF x t sp st r).1.fin ≤ 8192) ∧ (0 ≤ (bestF x t sp st r).1.miles ∧ (bestF x t sp st r).1.miles ≤ 210000) := by
  have hL0 : LabR 0 (labF t st) := ⟨by have := h.opn; simp only [labF]; omega, by simp [labF], by simp [labF, zShe]⟩
  have hl := h.len
  have key : ∀ bs ∈ restsR r (sp.length + 1), (runF x t sp 0 (labF t st) bs).2 = 0 → (0 ≤ (runF x t sp 0 (labF t st) bs).1.she.fin ∧ (runF x t sp 0 (labF t st) bs).1.she.fin ≤ 8192) ∧ (0 ≤ (runF x t sp 0 (labF t st) bs).1.she.miles ∧ (runF x t sp 0 (labF t st) bs).1.she.miles ≤ 210000) := fun bs hbs he => by
    obtain ⟨q, hq, rfl⟩ := List.mem_map.1 hbs
    have hql := bestF_len.fromB_len _ _ hq
    simp at hql
    have hne : r ++ q ≠ [] := fun e => by
      have h2 : (r ++ q).length = 0 := by rw [e]; rfl
      rw [List.length_append] at h2; omega
    obtain ⟨g1, g2⟩ := runF_rng h (r ++ q) 0 _ (by simp; omega) hL0 he
    rw [g2 hne]
    have := g1.rdy
    have := g1.mil
    omega
  unfold bestF at h0 ⊢
  cases hf : fmL finF none ((restsR r (sp.length + 1)).filterMap (runO (nxtO x t sp) 0 (labF t st))) with
  | some L =>
    simp only
    have := bestF_len.fmL_mem _ _ hf
    obtain ⟨bs, hbs, hrun⟩ := List.mem_filterMap.1 this
    rw [runF_opt] at hrun
    split at hrun
    · rename_i c; simp at hrun; subst hrun; exact key bs hbs c
    · cases hrun
  | none =>
    simp only
    simp [zShe]
theorem best18e_c (x : Inst) (r : Rte) (ho : x.orders.length ≤ 1048576) (ht : x.types.length ≤ 1048576) (hl : r.visits.length ≤ 1048576) (hbad : possB x r = false ∨ r.visits.length + 1 < r.rests.length) :
    ACalls Tryz.prog 98 [.p (eInst x), .p (eRte r)] [] fun y H' => y = .tup [.p (eShe zShe), .p (.int .i64 2)] ∧ H' = [] := by
  refine acalls_weak [] (fn := Tryz.f98) Tryz.func98 rfl isF98 ?_
  simp (disch := omega) only [Tryz.f98, go_sem, seval, reduceCtorEq, ↓reduceIte]
  refine (poss18_c x r ho ht hl).use ?_
  simp (disch := omega) only [go_sem, seval, reduceCtorEq, ↓reduceIte]
  refine aguard_f (fun h1 => ?_) (fun h1 => ?_) <;> (try simp only [decide_eq_true_eq, decide_eq_false_iff_not] at h1) <;> simp (disch := omega) only [Sh.out h1, go_sem, seval, reduceCtorEq, ↓reduceIte]
  · exact ⟨_, _, Weak.mk (by simp (disch := omega) only [zShe, List.map_nil, go_sem, seval, reduceCtorEq, ↓reduceIte]), rfl, rfl⟩
  · have h2 : r.visits.length + 1 < r.rests.length := hbad.resolve_left (by simpa using h1)
    refine acond_b (fun h3 => ?_) (fun h3 => ?_) <;> (try simp only [decide_eq_true_eq, decide_eq_false_iff_not] at h3) <;> simp (disch := omega) only [Sh.out h3, go_sem, seval, reduceCtorEq, ↓reduceIte]
    · exact ⟨_, _, Weak.mk (by simp (disch := omega) only [zShe, List.map_nil, go_sem, seval, reduceCtorEq, ↓reduceIte]), rfl, rfl⟩
    · omega
theorem chk16_c (x : Inst) (r : Rte) (hx : InstOk x) (hl : r.visits.length ≤ 1048576) : ACalls Tryz.prog 95 [.p (eInst x), .p (eRte r)] [] fun y H' => y = .p (.int .i64 (seqChk x r.visits)) ∧ H' = [] := by
  have hf := instFacts hx
  have hr := hx.rules
  obtain ⟨h1, h2⟩ := List.append_eq_nil_iff.1 hr
  have ha : x.apart.length ≤ 1048576 := by
    have h3 := (List.append_eq_nil_iff.1 h1).1
    unfold hdr at h3
    split at h3
    · simp at h3
    · omega
  have hb : x.before.length ≤ 1048576 := by
    have h3 := (List.append_eq_nil_iff.1 h2).1
    unfold hdr at h3
    split at h3
    · simp at h3
    · omega
  have := rcheck16_c x r (by have := hf.len; omega) hl ha hb hf.plc
  rwa [rchk_eq hf] at this
def evalT (x : Inst) (r : Rte) : V := .tup [.p (eShe (evalS x r)), .p (eSco (evalP x r)), .p (.int .i64 (evalE x r))]
theorem evalT_err {x : Inst} {r : Rte} {e : Int} (h : evalE x r = e) (h0 : e ≠ 0) : evalT x r = .tup [.p (eShe zShe), .p (eSco zSco), .p (.int .i64 e)] := by
  unfold evalT evalS evalP
  rw [h, if_neg h0, if_neg h0]
theorem evaluate21_c (x : Inst) (r : Rte) (hx : InstOk x) (hl : r.visits.length ≤ 1048576) (hrl : r.rests.length ≤ 1048576) : ACalls Tryz.prog 48 [.p (eInst x), .p (eRte r)] [] fun y H' => y = evalT x r ∧ H' = [] := by
  have hld := ldOk_of hx
  have htl := hld.typ
  have hol := hld.ord
  have chk := chk16_c x r hx hl
  have htb : x.types.length ≤ 6 := by have := hx.types.1; simp only [rng, decide_eq_true_eq] at this; omega
  refine acalls_weak [] (fn := Tryz.f48) Tryz.func48 rfl isF48 ?_
  simp (disch := omega) only [Tryz.f48, go_sem, seval, reduceCtorEq, ↓reduceIte]
  refine aguard_f (fun h1 => ?_) (fun h1 => ?_) <;> (try simp only [decide_eq_true_eq, decide_eq_false_iff_not] at h1) <;> simp (disch := omega) only [Sh.out h1, go_sem, seval, reduceCtorEq, ↓reduceIte]
  · have e : ruleE x r = 2 := by rw [ruleE, if_pos (by omega)]
    rw [evalT_err (e := 2) (by rw [evalE, e]; rfl) (by omega)]
    exact ⟨_, _, Weak.mk (by simp (disch := omega) only [zShe, zSco, List.map_nil, go_sem, seval, reduceCtorEq, ↓reduceIte]), rfl, rfl⟩
  · refine acond_b (fun h2 => ?_) (fun h2 => ?_) <;> (try simp only [decide_eq_true_eq, decide_eq_false_iff_not] at h2) <;> simp (disch := omega) only [Sh.out h2, go_sem, seval, reduceCtorEq, ↓reduceIte]
    · have e : ruleE x r = 2 := by rw [ruleE, if_pos (by omega)]
      rw [evalT_err (e := 2) (by rw [evalE, e]; rfl) (by omega)]
      exact ⟨_, _, Weak.mk (by simp (disch := omega) only [zShe, zSco, List.map_nil, go_sem, seval, reduceCtorEq, ↓reduceIte]), rfl, rfl⟩
    · have hty : 0 ≤ r.typ ∧ r.typ < (x.types.length : Int) := by omega
      have hti : r.typ.toNat < x.types.length := by omega
      refine (chk).use ?_
      simp (disch := omega) only [go_sem, seval, reduceCtorEq, ↓reduceIte]
      refine acond_b (fun h3 => ?_) (fun h3 => ?_) <;> (try simp only [decide_eq_true_eq, decide_eq_false_iff_not] at h3) <;> simp (disch := omega) only [Sh.out h3, go_sem, seval, reduceCtorEq, ↓reduceIte]
      · have e : ruleE x r = seqChk x r.visits := by rw [ruleE, if_neg (fun h => h hty), if_pos h3]
        rw [evalT_err (e := seqChk x r.visits) (by rw [evalE, e, if_neg h3]) h3]
        exact ⟨_, _, Weak.mk (by simp (disch := omega) only [zShe, zSco, List.map_nil, go_sem, seval, reduceCtorEq, ↓reduceIte]), rfl, rfl⟩
      · have h3' := Classical.not_not.1 h3
        have hsq := sqOk_of h3'
        have hvn : 0 < r.visits.length := by
          have := hsq.ne
          cases hv : r.visits with
          | nil => exact absurd hv this
          | cons a b => simp
        have hok := trpOk_of hx hty hsq
        have hnum := typ_nums hx hti
        have hr0 : ruleE x r = if (r.visits.any fun v => !ableB (typR x r) (nth x.orders v.order.toNat).skills) = true then 18 else if loadB x (typR x r).cap r.visits = false then 17 else if ¬ (0 ≤ r.start ∧ r.start ≤ 4096 ∧ r.rests.length ≤ r.visits.length + 1) then 2 else 0 := by
          rw [ruleE, if_neg (fun h => h hty), if_neg h3]
        have htyp : nth x.types r.typ.toNat = typR x r := rfl
        rw [htyp] at hnum
        have hf17 := fits17_c x r hx hl hty h3' chk
        have hposs := poss_of hsq hol hty
        have hsk : ∀ k, k < r.visits.length → (nth r.visits k).order.toNat < x.orders.length ∧ 0 ≤ (nth x.orders (nth r.visits k).order.toNat).skills ∧ (nth x.orders (nth r.visits k).order.toNat).skills ≤ 1073741823 := fun k hk => by
          obtain ⟨v1, v2⟩ := hsq.inr _ (nth_mem hk)
          have hi : (nth r.visits k).order.toNat < x.orders.length := by omega
          exact ⟨hi, (hx.orders.2 _ hi).skills⟩
        refine awp_for [2, 3, 4, 5] (fun k : Nat => [(8, .p (.int .i64 k))]) (fun _ => [instO x, rteO r, .cells [.p (.bool false), .p (.int .i64 0), .p (.list true []), .p (.int .i64 0), .p (.int .i64 0)], scoO 0 0 0 0])
          (fun k => k ≤ r.visits.length ∧ ∀ j, j < k → ableB (typR x r) (nth x.orders (nth r.visits j).order.toNat).skills = true) (fun k => r.visits.length - k) 0 (by simp) (Weak.mk ?_) ?_
        · simp (disch := omega) only [instO, rteO, scoO, go_sem, seval, reduceCtorEq, ↓reduceIte]
        · rintro k ⟨hk, hno⟩
          simp (disch := omega) only [instO, rteO, scoO, go_sem, seval, reduceCtorEq, ↓reduceIte]
          refine acond_b (fun h4 => ?_) (fun h4 => ?_) <;> (try simp only [decide_eq_true_eq, decide_eq_false_iff_not] at h4) <;> simp (disch := omega) only [Sh.out h4, go_sem, seval, reduceCtorEq, ↓reduceIte]
          · have hk2 : k < r.visits.length := by omega
            obtain ⟨s1, s2, s3⟩ := hsk k hk2
            obtain ⟨v1, v2⟩ := hsq.inr _ (nth_mem hk2)
            refine awp_drawnA mixed (by kernel_rfl) (by kernel_rfl) ?_
            simp (disch := omega) only [htyp, go_sem, seval, reduceCtorEq, ↓reduceIte]
            refine exq_call (able10_c (typR x r) (nth x.orders (nth r.visits k).order.toNat).skills (by omega) (by omega)) ?_
            simp (disch := omega) only [go_sem, seval, reduceCtorEq, ↓reduceIte]
            refine acond_b (fun h5 => ?_) (fun h5 => ?_) <;> (try simp only [decide_eq_true_eq, decide_eq_false_iff_not] at h5) <;> simp (disch := omega) only [Sh.out h5, go_sem, seval, reduceCtorEq, ↓reduceIte]
            · have e : ruleE x r = 18 := by
                rw [hr0, if_pos]
                exact List.any_eq_true.2 ⟨_, nth_mem hk2, h5⟩
              rw [evalT_err (e := 18) (by rw [evalE, e]; rfl) (by omega)]
              exact ⟨_, _, Weak.mk (by simp (disch := omega) only [zShe, zSco, List.map_nil, go_sem, seval, reduceCtorEq, ↓reduceIte]), rfl, rfl⟩
            · exact ⟨k + 1, ⟨by omega, upto_iff.2 ⟨hno, by simpa using h5⟩⟩, by omega, Weak.mk (by simp (disch := omega) only [instO, rteO, scoO, go_sem, seval, reduceCtorEq, ↓reduceIte])⟩
          · have hkl : k = r.visits.length := by omega
            subst hkl
            have hall : ¬ (r.visits.any fun v => !ableB (typR x r) (nth x.orders v.order.toNat).skills) = true := fun h => by
              obtain ⟨v, hv, hb⟩ := List.any_eq_true.1 h
              obtain ⟨j, hj, rfl⟩ := List.mem_iff_getElem.1 hv
              rw [← nth_get hj, hno j hj] at hb; simp at hb
            rw [if_neg hall] at hr0
            refine (hf17).use ?_
            simp (disch := omega) only [go_sem, seval, reduceCtorEq, ↓reduceIte]
            cases hlb : loadB x (typR x r).cap r.visits with
            | false =>
              have e : ruleE x r = 17 := by rw [hr0, hlb]; rfl
              simp only [Bool.false_eq_true, if_false]
              simp (disch := omega) only [go_sem, seval, reduceCtorEq, ↓reduceIte]
              rw [evalT_err (e := 17) (by rw [evalE, e]; rfl) (by omega)]
              exact ⟨_, _, Weak.mk (by simp (disch := omega) only [zShe, zSco, List.map_nil, go_sem, seval, reduceCtorEq, ↓reduceIte]), rfl, rfl⟩
            | true =>
              rw [hlb, if_neg (by simp)] at hr0
              simp only [if_true]
              simp (disch := omega) only [go_sem, seval, reduceCtorEq, ↓reduceIte]
              by_cases h6 : 0 ≤ r.start ∧ r.start ≤ 4096 ∧ r.rests.length ≤ r.visits.length + 1
              · have e : ruleE x r = 0 := by rw [hr0, if_neg (fun h => h h6)]
                have hp : possB x r = true := by rw [hposs]; simp [h6.1, h6.2.1]
                have ee : evalE x r = (bestR x r).2 := by rw [evalE, if_pos e]
                have cb := best18_c x r hok (by omega) htl hvn hp h6.2.2
                have hbr := best_rng hok ⟨h6.1, h6.2.1⟩ (by rw [stopsF_len]; exact h6.2.2)
                have hbr : (bestR x r).2 = 0 → _ := hbr
                change (bestR x r).2 = 0 → (0 ≤ (bestR x r).1.fin ∧ (bestR x r).1.fin ≤ 8192) ∧ (0 ≤ (bestR x r).1.miles ∧ (bestR x r).1.miles ≤ 210000) at hbr
                have es : evalS x r = if (bestR x r).2 = 0 then (bestR x r).1 else zShe := by rw [evalS, ee]
                have ep : evalP x r = if (bestR x r).2 = 0 then scoF x r (bestR x r).1 else zSco := by rw [evalP, ee]
                unfold evalT
                rw [ee, es, ep]
                clear ee es ep
                generalize bestR x r = q at *
                obtain ⟨sh, eb⟩ := q
                simp only at cb hbr ⊢
                refine useT' cb ?_
                simp (disch := omega) only [go_sem, seval, reduceCtorEq, ↓reduceIte]
                refine acond_b (fun h7 => ?_) (fun h7 => ?_) <;> (try simp only [decide_eq_true_eq, decide_eq_false_iff_not] at h7) <;> simp (disch := omega) only [Sh.out h7, go_sem, seval, reduceCtorEq, ↓reduceIte]
                · exact ⟨_, _, Weak.mk (by simp (disch := omega) only [zShe, zSco, List.map_nil, go_sem, seval, reduceCtorEq, ↓reduceIte]), rfl, rfl⟩
                · have h7' := Classical.not_not.1 h7
                  try rw [if_pos h7', if_pos h7']
                  subst h7'
                  obtain ⟨g1, g2⟩ := hbr rfl
                  refine awp_drawnS 5 mixed (by kernel_rfl) (by kernel_rfl) ?_
                  simp (disch := omega) only [go_sem, seval, reduceCtorEq, ↓reduceIte]
                  refine exq_call (route20_c x r sh hty (by omega) htl hl hsq.inr hnum.2.2.2.1 (by omega) (by omega) (by omega)) ?_
                  simp (disch := omega) only [go_sem, seval, reduceCtorEq, ↓reduceIte]
                  exact ⟨_, _, Weak.mk (by simp (disch := omega) only [go_sem, seval, reduceCtorEq, ↓reduceIte]), rfl, rfl⟩
              · have e : ruleE x r = 2 := by rw [hr0, if_pos h6]
                rw [evalT_err (e := 2) (by rw [evalE, e]; rfl) (by omega)]
                refine useT' (best18e_c x r (by omega) htl hl ?_) ?_
                · by_cases c1 : 0 ≤ r.start
                  · by_cases c2 : r.start ≤ 4096
                    · right; omega
                    · left; rw [hposs]; simp [c2]
                  · left; rw [hposs]; simp [c1]
                · simp (disch := omega) only [go_sem, seval, reduceCtorEq, ↓reduceIte]
                  exact ⟨_, _, Weak.mk (by simp (disch := omega) only [zShe, zSco, List.map_nil, go_sem, seval, reduceCtorEq, ↓reduceIte]), rfl, rfl⟩
end Go.Proofs.YtcllkjiebfmjpaaGreatDoor.K
set_option linter.unusedVariables false
set_option linter.unusedSimpArgs false
namespace Go.Proofs.YtcllkjiebfmjpaaGreatDoor.K
open Go Go.AM Go.Proofs
set_option maxRecDepth 8000
set_option maxHeartbeats 8000000
/-- the first place at which f holds, or -1 -/
def gIx {α : Type} (f : α → Bool) (l : List α) : Int := match l.findIdx? f with | some i => (i : Int) | none => -1
theorem gIx_at {α : Type} [Inhabited α] {f : α → Bool} {l : List α} {k : Nat} (hk : k < l.length) (h : f (nth l k) = true) (hno : ∀ j, j < k → f (nth l j) = false) : gIx f l = (k : Int) := by
  have : l.findIdx? f = some k := by
    rw [List.findIdx?_eq_some_iff_getElem]
    refine ⟨hk, by rw [← nth_get hk]; exact h, fun j hj => ?_⟩
    have h2 := hno j hj
    rw [nth_get (by omega)] at h2
    simpa using h2
  simp [gIx, this]
theorem gIx_no {α : Type} [Inhabited α] {f : α → Bool} {l : List α} (hno : ∀ j, j < l.length → f (nth l j) = false) : gIx f l = -1 := by
  have : l.findIdx? f = none := by
    rw [List.findIdx?_eq_none_iff]
    intro x hx
    obtain ⟨j, hj, rfl⟩ := List.mem_iff_getElem.1 hx
    rw [← nth_get hj]; exact hno j hj
  simp [gIx, this]
theorem gIx_ge {α : Type} {f : α → Bool} {l : List α} : decide (0 ≤ gIx f l) = l.any f := by
  unfold gIx
  cases h : l.findIdx? f with
  | none =>
    rw [List.findIdx?_eq_none_iff] at h
    have : l.any f = false := by rw [List.any_eq_false]; intro x hx; simp [h x hx]
    simp [this]
  | some i =>
    rw [List.findIdx?_eq_some_iff_getElem] at h
    obtain ⟨h1, h2, _⟩ := h
    have : l.any f = true := by rw [List.any_eq_true]; exact ⟨l[i], List.getElem_mem _, h2⟩
    simp [this]
theorem indexIL_c (l : List (List Int)) (c : Bool) (g : FuncId) (caps : List V) (H : List AM.Obj) (f : List Int → Bool) (hl : l.length ≤ 1048576) (hW : wkH H H.length H H) (hc : refBs H.length caps = true)
    (hg : ∀ v ∈ l, ACalls Tryz.prog g (.p (eIL v) :: caps) H fun x H' => x = .p (.bool (f v)) ∧ H' = H) :
    ACalls Tryz.prog 227 [.p (.list c (l.map eIL)), .fn (.func g) [] caps] H fun x H' => x = .p (.int .i64 (gIx f l)) ∧ H' = H := by
  refine acalls_of (fn := Tryz.f227) Tryz.func227 rfl isF227 (awp_sound [] _ _ _ _ ?_)
  simp (disch := omega) only [Tryz.f227, go_sem, seval, reduceCtorEq, ↓reduceIte]
  refine awp_for [0, 1, 7] (fun k : Nat => [(8, .p (.int .i64 k))]) (fun _ => H) (fun k => k ≤ l.length ∧ ∀ j, j < k → f (nth l j) = false) (fun k => l.length - k) 0 (by simp) (Weak.mk ?_) ?_
  · simp (disch := omega) only [hW, hc, go_sem, seval, reduceCtorEq, ↓reduceIte]
    simp
  · rintro k ⟨hk, hno⟩
    simp (disch := omega) only [go_sem, seval, reduceCtorEq, ↓reduceIte]
    refine acond_b (fun h => ?_) (fun h => ?_) <;> (try simp only [decide_eq_true_eq, decide_eq_false_iff_not] at h) <;> simp (disch := omega) only [Sh.out h, go_sem, seval, reduceCtorEq, ↓reduceIte]
    · have hk2 : k < l.length := by omega
      have hgk := hg (nth l k) (nth_mem hk2)
      simp (disch := omega) only [eIL_eq, go_sem, seval, reduceCtorEq, ↓reduceIte] at hgk
      refine hgk.useH ?_
      simp (disch := omega) only [go_sem, seval, reduceCtorEq, ↓reduceIte]
      refine acond_b (fun h2 => ?_) (fun h2 => ?_) <;> (try simp only [decide_eq_true_eq, decide_eq_false_iff_not] at h2) <;> simp (disch := omega) only [Sh.out h2, go_sem, seval, reduceCtorEq, ↓reduceIte]
      · rw [gIx_at hk2 h2 hno]
      · have h3 : f (nth l k) = false := by simpa using h2
        refine ⟨k + 1, ⟨by omega, upto_iff.2 ⟨hno, h3⟩⟩, by omega, Weak.mk ?_⟩
        simp (disch := omega) only [hW, hc, go_sem, seval, reduceCtorEq, ↓reduceIte]
        simp
    · have hkl : k = l.length := by omega
      subst hkl
      rw [gIx_no hno]
theorem containsIL_c (l : List (List Int)) (c : Bool) (g : FuncId) (caps : List V) (H : List AM.Obj) (f : List Int → Bool) (hl : l.length ≤ 1048576) (hW : wkH H H.length H H) (hc : refBs H.length caps = true)
    (hg : ∀ v ∈ l, ACalls Tryz.prog g (.p (eIL v) :: caps) H fun x H' => x = .p (.bool (f v)) ∧ H' = H) :
    ACalls Tryz.prog 185 [.p (.list c (l.map eIL)), .fn (.func g) [] caps] H fun x H' => x = .p (.bool (l.any f)) ∧ H' = H := by
  refine acalls_of (fn := Tryz.f185) Tryz.func185 rfl isF185 (awp_sound [] _ _ _ _ ?_)
  simp (disch := omega) only [Tryz.f185, go_sem, seval, reduceCtorEq, ↓reduceIte]
  refine (indexIL_c l c g caps H f hl hW hc hg).useH ?_
  simp (disch := omega) only [go_sem, seval, reduceCtorEq, ↓reduceIte]
  rw [gIx_ge]
theorem pSeq_c (x : Inst) (r : Rte) (hx : InstOk x) (hl : r.visits.length ≤ 1048576) : ACalls Tryz.prog 123 [.p (eInst x), .p (eRte r)] [] fun y H' => y = .p (.int .i64 (seqChk x r.visits)) ∧ H' = [] := by
  have hf := instFacts hx
  obtain ⟨h1, h2⟩ := List.append_eq_nil_iff.1 hx.rules
  have ha : x.apart.length ≤ 1048576 := by
    have h3 := (List.append_eq_nil_iff.1 h1).1
    unfold hdr at h3
    split at h3
    · simp at h3
    · omega
  have hb : x.before.length ≤ 1048576 := by
    have h3 := (List.append_eq_nil_iff.1 h2).1
    unfold hdr at h3
    split at h3
    · simp at h3
    · omega
  exact seqCheck_c x r (by have := hf.len; omega) hl ha hb
theorem ordR_of {x : Inst} {l : List Vis} (hi : Inr x l) (hn : x.orders.length ≤ 10) : ordR l = (((ordS l : Nat) : Int), 0) := by
  rw [ordR, if_pos]
  rw [List.all_eq_true]
  intro v hv
  have := hi v hv
  simp [inS]; omega
theorem rsnoc {α : Type} (f : Nat → α) (n : Nat) : (List.range n).map f ++ [f n] = (List.range (n + 1)).map f := by rw [List.range_succ, List.map_append]; rfl
theorem pLoads_c (x : Inst) (r : Rte) (hx : InstOk x) (hl : r.visits.length ≤ 1048576) (h0 : seqChk x r.visits = 0) :
    ACalls Tryz.prog 94 [.p (eInst x), .p (eRte r)] [] fun y H' => y = .tup [.p (.list false ((lodsF x r.visits).map eIL)), .p (.int .i64 0)] ∧ H' = [] := by
  have hd := ldOk_of hx
  have hsq := sqOk_of h0
  have hol := hd.ord
  have hso := seqOrders_c r hl
  rw [ordR_of hsq.inr hol] at hso
  have hD : dimsOf x.types = ((dimsOf x.types).toNat : Int) := by have := hd.dim; omega
  have cd := pDims_c x.types x.types_c hd.typ
  rw [hD] at cd
  have hst := start_aft hsq.inr hol
  have hmem : ∀ i ∈ memU ((ordS r.visits : Nat) : Int) 63, 0 ≤ i ∧ i < (x.orders.length : Int) := fun i hi => by
    rw [memS hsq.inr hol] at hi
    obtain ⟨j, hj, rfl⟩ := List.mem_map.1 hi
    have := List.mem_range.1 (List.mem_filter.1 hj).1
    omega
  have cs := start_c x ((ordS r.visits : Nat) : Int) (dimsOf x.types).toNat (by have := hd.dim; omega) (by omega) hmem (memU_len _ _) (fun o ho => by have := hd.load o ho; exact ⟨by omega, this.2⟩)
  rw [hst] at cs
  refine acalls_weak [20] (fn := Tryz.f94) Tryz.func94 rfl isF94 ?_
  simp (disch := omega) only [Tryz.f94, go_sem, seval, reduceCtorEq, ↓reduceIte]
  refine (pSeq_c x r hx hl).use ?_
  simp (disch := omega) only [go_sem, seval, reduceCtorEq, ↓reduceIte]
  simp (disch := omega) only [h0, go_sem, seval, reduceCtorEq, ↓reduceIte]
  refine useT' hso ?_
  simp (disch := omega) only [go_sem, seval, reduceCtorEq, ↓reduceIte]
  refine awp_drawnA mixed (by kernel_rfl) (by kernel_rfl) ?_
  simp (disch := omega) only [go_sem, seval, reduceCtorEq, ↓reduceIte]
  refine exq_call (cd) ?_
  simp (disch := omega) only [go_sem, seval, reduceCtorEq, ↓reduceIte]
  refine exq_call (cs) ?_
  simp (disch := omega) only [go_sem, seval, reduceCtorEq, ↓reduceIte]
  refine awp_forC [20] [2, 37, 38] (fun q : Nat × List (List Int) => [(9, .p (.list false ((aftF x r.visits q.1).map eI))), (10, .sl 2 0 q.2.length q.2.length), (39, .p (.int .i64 q.1))]) (fun q => [instO x, rteO r, .elems 1 (q.2.map eIL)]) (fun q => q.1 ≤ r.visits.length ∧ q.2 = (List.range (q.1 + 1)).map (aftF x r.visits)) (fun q => r.visits.length - q.1) (0, [aftF x r.visits 0]) (by simp) (Weak.mk ?_) ?_
  · simp (disch := omega) only [instO, rteO, List.map_nil, List.map_cons, List.length_nil, List.length_cons, List.cons_append, List.nil_append, go_sem, seval, reduceCtorEq, ↓reduceIte]
  · rintro ⟨k, o⟩ ⟨hk, ho⟩
    simp only at hk ho
    have hol2 : o.length = k + 1 := by rw [ho]; simp
    simp (disch := omega) only [instO, rteO, go_sem, seval, reduceCtorEq, ↓reduceIte]
    refine acond_b (fun h1 => ?_) (fun h1 => ?_) <;> (try simp only [decide_eq_true_eq, decide_eq_false_iff_not] at h1) <;> simp (disch := omega) only [Sh.out h1, go_sem, seval, reduceCtorEq, ↓reduceIte]
    · have hk2 : k < r.visits.length := by omega
      obtain ⟨v1, v2⟩ := hsq.inr _ (nth_mem hk2)
      have hi : (nth r.visits k).order.toNat < x.orders.length := by omega
      obtain ⟨l1, l2⟩ := hd.load _ (nth_in hi)
      have hsu := aftF_succ hsq hk2
      have hal := aftF_len (x := x) (l := r.visits) (n := k)
      have hdm := hd.dim
      have hrg : ∀ j, j < (aftF x r.visits k).length → -1073741824 ≤ nth (aftF x r.visits k) j ∧ nth (aftF x r.visits k) j ≤ 1073741824 ∧ -1073741824 ≤ nth (nth x.orders (nth r.visits k).order.toNat).load j ∧ nth (nth x.orders (nth r.visits k).order.toNat).load j ≤ 1073741824 := fun j hj => by
        have b1 := aftF_rng (x := x) (l := r.visits) (n := k) (j := j) (by omega) hd
        have b2 := l2 _ (nth_in (show j < (nth x.orders (nth r.visits k).order.toNat).load.length by omega))
        omega
      refine acond_b (fun h2 => ?_) (fun h2 => ?_) <;> (try simp only [decide_eq_true_eq, decide_eq_false_iff_not] at h2) <;> simp (disch := omega) only [Sh.out h2, go_sem, seval, reduceCtorEq, ↓reduceIte]
      · rw [if_pos h2] at hsu
        refine useT' (pSub_c (aftF x r.visits k) (nth x.orders (nth r.visits k).order.toNat).load false (nth x.orders (nth r.visits k).order.toNat).load_c (by omega) (by omega) hrg) ?_
        simp (disch := omega) only [go_sem, seval, reduceCtorEq, ↓reduceIte]
        exact ⟨(k + 1, o ++ [aftF x r.visits (k + 1)]), ⟨by simp only; omega, by simp only; rw [ho, rsnoc]⟩, by simp only; omega, Weak.mk (by simp (disch := omega) only [instO, rteO, hsu, List.length_append, List.length_cons, List.length_nil, List.map_append, List.map_cons, List.map_nil, go_sem, seval, reduceCtorEq, ↓reduceIte])⟩
      · rw [if_neg (by rw [h2]; simp)] at hsu
        refine useT' (pAdd_c (aftF x r.visits k) (nth x.orders (nth r.visits k).order.toNat).load false (nth x.orders (nth r.visits k).order.toNat).load_c (by omega) (by omega) hrg) ?_
        simp (disch := omega) only [go_sem, seval, reduceCtorEq, ↓reduceIte]
        exact ⟨(k + 1, o ++ [aftF x r.visits (k + 1)]), ⟨by simp only; omega, by simp only; rw [ho, rsnoc]⟩, by simp only; omega, Weak.mk (by simp (disch := omega) only [instO, rteO, hsu, List.length_append, List.length_cons, List.length_nil, List.map_append, List.map_cons, List.map_nil, go_sem, seval, reduceCtorEq, ↓reduceIte])⟩
    · have hkl : k = r.visits.length := by omega
      subst hkl
      refine awp_weak (Weak.fz (o := 2) (by rfl)) ?_
      refine awp_sound [] _ _ _ _ ?_
      simp (disch := omega) only [List.map_cons, List.map_nil, List.set_cons_succ, List.set_cons_zero, go_sem, seval, reduceCtorEq, ↓reduceIte]
      rw [lodsF, ← ho]
      exact ⟨_, _, Weak.mk (by simp (disch := omega) only [go_sem, seval, reduceCtorEq, ↓reduceIte]), rfl, rfl⟩
theorem fits1_c (x : Inst) (r : Rte) (a : List Int) (htl : x.types.length ≤ 1048576) (hty : 0 ≤ r.typ ∧ r.typ < (x.types.length : Int)) (ha : a.length ≤ 1048576) (hc : (typR x r).cap.length ≤ 1048576) :
    ACalls Tryz.prog 186 [.p (eIL a), .ptr 0 0, .ptr 1 0] [instO x, rteO r] fun y H' => y = .p (.bool (!fitsB a (typR x r).cap)) ∧ H' = [instO x, rteO r] := by
  have hti : r.typ.toNat < x.types.length := by omega
  refine acalls_weak [] (fn := Tryz.f186) Tryz.func186 rfl isF186 ?_
  simp (disch := omega) only [Tryz.f186, instO, rteO, go_sem, seval, reduceCtorEq, ↓reduceIte]
  refine (pFits_c a (typR x r).cap false (typR x r).cap_c ha hc).use ?_
  simp (disch := omega) only [go_sem, seval, reduceCtorEq, ↓reduceIte]
  exact ⟨_, _, Weak.mk (by simp (disch := omega) only [instO, rteO, go_sem, seval, reduceCtorEq, ↓reduceIte]), rfl, rfl⟩
theorem pCFits_c (x : Inst) (r : Rte) (hx : InstOk x) (hl : r.visits.length ≤ 1048576) (hty : 0 ≤ r.typ ∧ r.typ < (x.types.length : Int)) (h0 : seqChk x r.visits = 0) :
    ACalls Tryz.prog 125 [.p (eInst x), .p (eRte r)] [] fun y H' => y = .p (.int .i64 (if loadB x (typR x r).cap r.visits = true then 0 else 17)) ∧ H' = [] := by
  have hd := ldOk_of hx
  have htl := hd.typ
  have hti : r.typ.toNat < x.types.length := by omega
  have hcp : (typR x r).cap.length ≤ 1048576 := by
    have hcap := hx.types.2 _ hti
    unfold typOk at hcap
    obtain ⟨⟨⟨⟨⟨⟨⟨⟨_, _⟩, _⟩, _⟩, hcap⟩, _⟩, _⟩, _⟩, _⟩ := hcap
    simp only [capOk, Bool.and_eq_true, decide_eq_true_eq, rng] at hcap
    unfold typR
    omega
  have hll : (lodsF x r.visits).length = r.visits.length + 1 := by simp [lodsF]
  have hvl := (sqOk_of h0).len hd.ord
  have hall : (lodsF x r.visits).any (fun a => !fitsB a (typR x r).cap) = !loadB x (typR x r).cap r.visits := by
    rw [loadB, lodsF, List.any_map, List.not_all_eq_any_not]; rfl
  have e1 : ¬ r.typ < 0 := by omega
  have e2 : ¬ (x.types.length : Int) ≤ r.typ := by omega
  refine acalls_pure (fn := Tryz.f125) Tryz.func125 rfl isF125 ?_
  simp (disch := omega) only [Tryz.f125, e1, e2, go_sem, seval, reduceCtorEq, ↓reduceIte]
  refine useT' (pLoads_c x r hx hl h0) ?_
  simp (disch := omega) only [go_sem, seval, reduceCtorEq, ↓reduceIte]
  refine (containsIL_c (lodsF x r.visits) false 186 [.ptr 0 0, .ptr 1 0] [instO x, rteO r] (fun a => !fitsB a (typR x r).cap) (by omega) (by simp (disch := omega) only [instO, rteO, go_sem, seval, reduceCtorEq, ↓reduceIte]) (by rfl) (fun a ha => fits1_c x r a htl hty ?_ hcp)).useH ?_
  · obtain ⟨j, _, rfl⟩ := List.mem_map.1 ha
    rw [aftF_len]; have := hd.dim; omega
  · simp (disch := omega) only [instO, rteO, go_sem, seval, reduceCtorEq, ↓reduceIte]
    rw [hall]
    refine acond_b (fun h1 => ?_) (fun h1 => ?_) <;> (try simp only [decide_eq_true_eq, decide_eq_false_iff_not] at h1) <;> simp (disch := omega) only [Sh.out h1, go_sem, seval, reduceCtorEq, ↓reduceIte]
    · rw [if_neg (by simpa using h1)]
    · rw [if_pos (by simpa using h1)]
end Go.Proofs.YtcllkjiebfmjpaaGreatDoor.K
set_option linter.unusedVariables false
set_option linter.unusedSimpArgs false
namespace Go.Proofs.YtcllkjiebfmjpaaGreatDoor.K
open Go Go.AM Go.Proofs
set_option maxRecDepth 8000
set_option maxHeartbeats 8000000
@[go_sem] theorem cells_fnP {f : FuncId} : PV.cells (.fn f) = [.fn f] := Eq.trans rfl rfl
theorem fCompare_c (a b : List Int) (c d : Bool) (ha : a.length ≤ 1048576) (hb : b.length ≤ 1048576) : ACalls Tryz.prog 32 [.p (.list c (a.map eI)), .p (.list d (b.map eI))] [] fun x H' => x = .p (.int .i64 (cmpL a b)) ∧ H' = [] := by
  refine acalls_pure (fn := Tryz.f32) Tryz.func32 rfl isF32 ?_
  simp (disch := omega) only [Tryz.f32, go_sem, seval, reduceCtorEq, ↓reduceIte]
  refine (slCompare_c a b c d ha hb).use ?_
  simp (disch := omega) only [go_sem, seval, reduceCtorEq, ↓reduceIte]
/-- a route without visits is refused -/
theorem evalE0_c (x : Inst) (r : Rte) (hty : 0 ≤ r.typ ∧ r.typ < (x.types.length : Int)) (hv : r.visits = []) (ho : x.orders.length ≤ 1048576) (ht : x.types.length ≤ 1048576) (hap : x.apart.length ≤ 1048576) (hbe : x.before.length ≤ 1048576) :
    ACalls Tryz.prog 82 [.p (eInst x), .p (eRte r)] [] fun y H' => y = .tup [.p (.agg [.bool false, .int .i64 0, .list true [], .int .i64 0, .int .i64 0]), .p (.agg [.int .i64 0, .int .i64 0, .int .i64 0, .int .i64 0]), .p (.int .i64 2)] ∧ H' = [] := by
  have cs := seqCheck_c x r ho (by rw [hv]; simp) hap hbe
  have e : seqChk x r.visits = 2 := by rw [hv]; simp [seqChk]
  rw [e] at cs
  have e1 : ¬ r.typ < 0 := by omega
  have e2 : ¬ (x.types.length : Int) ≤ r.typ := by omega
  refine acalls_weak [] (fn := Tryz.f82) Tryz.func82 rfl isF82 ?_
  simp (disch := omega) only [Tryz.f82, e1, e2, go_sem, seval, reduceCtorEq, ↓reduceIte]
  refine awp_for [2, 3, 4, 5, 25, 26] (fun _ : Unit => [(27, .p (.int .i64 0))]) (fun _ => [instO x, rteO r, .cells [.p (.bool false), .p (.int .i64 0), .p (.list true []), .p (.int .i64 0), .p (.int .i64 0)], .cells [.p (.int .i64 0), .p (.int .i64 0), .p (.int .i64 0), .p (.int .i64 0)], .elems 1 [.fn 123, .fn 124, .fn 125]]) (fun _ => True) (fun _ => 0) () trivial (Weak.mk ?_) ?_
  · simp (disch := omega) only [instO, rteO, go_sem, seval, reduceCtorEq, ↓reduceIte]
  · intro _ _
    simp (disch := omega) only [instO, rteO, go_sem, seval, reduceCtorEq, ↓reduceIte]
    have he : elt [PV.fn 123, PV.fn 124, PV.fn 125] 0 = PV.fn 123 := rfl
    simp (disch := first | omega | (simp only [List.length_cons, List.length_nil, List.length_append, List.length_map, List.length_take, List.length_drop] <;> omega)) only [he, go_sem, seval, reduceCtorEq, ↓reduceIte]
    refine (cs).use ?_
    simp (disch := omega) only [go_sem, seval, reduceCtorEq, ↓reduceIte]
    exact ⟨_, _, Weak.mk (by simp (disch := omega) only [go_sem, seval, reduceCtorEq, ↓reduceIte]), rfl, rfl⟩
theorem worksE0_c (x : Inst) (r : Rte) (hty : 0 ≤ r.typ ∧ r.typ < (x.types.length : Int)) (hv : r.visits = []) (ho : x.orders.length ≤ 1048576) (ht : x.types.length ≤ 1048576) (hap : x.apart.length ≤ 1048576) (hbe : x.before.length ≤ 1048576) :
    ACalls Tryz.prog 55 [.p (eInst x), .p (eRte r)] [] fun y H' => y = .tup [.p (.int .i64 0), .p (.int .i64 2)] ∧ H' = [] := by
  refine acalls_weak [] (fn := Tryz.f55) Tryz.func55 rfl isF55 ?_
  simp (disch := omega) only [Tryz.f55, go_sem, seval, reduceCtorEq, ↓reduceIte]
  refine useT3 (evalE0_c x r hty hv ho ht hap hbe) ?_
  simp (disch := omega) only [go_sem, seval, reduceCtorEq, ↓reduceIte]
  exact ⟨_, _, Weak.mk (by simp (disch := omega) only [go_sem, seval, reduceCtorEq, ↓reduceIte]), rfl, rfl⟩
theorem fWorksE0_c (x : Inst) (p : Pln) (r : Rte) (hp : p.routes = [r]) (hty : 0 ≤ r.typ ∧ r.typ < (x.types.length : Int)) (hv : r.visits = []) (ho : x.orders.length ≤ 1048576) (ht : x.types.length ≤ 1048576) (hap : x.apart.length ≤ 1048576) (hbe : x.before.length ≤ 1048576) :
    ACalls Tryz.prog 26 [.p (eInst x), .p (ePln p)] [] fun y H' => y = .tup [.p (.list true []), .p (.int .i64 2)] ∧ H' = [] := by
  obtain ⟨c1, rs, c2, us⟩ := p
  simp only at hp
  subst hp
  refine acalls_weak [] (fn := Tryz.f26) Tryz.func26 rfl isF26 ?_
  simp (disch := omega) only [Tryz.f26, go_sem, seval, reduceCtorEq, ↓reduceIte]
  refine awp_for [2, 12, 13] (fun _ : Unit => [(14, .p (.int .i64 0))]) (fun _ => [instO x, .cells [.p (.list c1 [eRte r]), .p (.list c2 (us.map eI))]]) (fun _ => True) (fun _ => 0) () trivial (Weak.mk ?_) ?_
  · simp (disch := omega) only [instO, List.length_cons, List.length_nil, go_sem, seval, reduceCtorEq, ↓reduceIte]
  · intro _ _
    simp (disch := omega) only [instO, List.length_cons, List.length_nil, go_sem, seval, reduceCtorEq, ↓reduceIte]
    rw [aindexB_list (by omega) (by simp)]
    have he : elt [PV.agg [.int .i64 r.typ, .int .i64 r.start, .list r.rests_c (r.rests.map eB), .list r.visits_c (r.visits.map eVis)]] 0 = eRte r := rfl
    simp (disch := omega) only [he, go_sem, seval, reduceCtorEq, ↓reduceIte]
    refine useT' (worksE0_c x r hty hv ho ht hap hbe) ?_
    simp (disch := omega) only [go_sem, seval, reduceCtorEq, ↓reduceIte]
    exact ⟨_, _, Weak.mk (by simp (disch := omega) only [go_sem, seval, reduceCtorEq, ↓reduceIte]), rfl, rfl⟩
theorem ex52_c : ACalls Tryz.prog 25 [] [] fun x H' => x = .p (.bool true) ∧ H' = [] := by
  refine acalls_weak [2, 3] (fn := Tryz.f25) Tryz.func25 rfl isF25 ?_
  simp (disch := omega) only [Tryz.f25, go_sem, seval, reduceCtorEq, ↓reduceIte]
  refine awp_seq (awp_mid 1 ?_)
  simp (disch := omega) only [go_sem, seval, reduceCtorEq, ↓reduceIte]
  refine ⟨_, _, (Weak.fz (o := 0) (by rfl)).trans (Weak.fz (o := 2) (by rfl)), ?_⟩
  simp (disch := omega) only [List.map_cons, List.map_nil, List.set_cons_succ, List.set_cons_zero, List.cons_append, List.nil_append, go_sem, seval, reduceCtorEq, ↓reduceIte]
  refine awp_weak (Weak.fz (o := 3) (by rfl)) ?_
  refine awp_sound [3] _ _ _ _ ?_
  simp (disch := omega) only [List.map_cons, List.map_nil, List.set_cons_succ, List.set_cons_zero, go_sem, seval, reduceCtorEq, ↓reduceIte]
  refine awp_seq (awp_mid 3 ?_)
  simp (disch := omega) only [go_sem, seval, reduceCtorEq, ↓reduceIte]
  refine ⟨_, _, Weak.fz (o := 4) (by rfl), ?_⟩
  simp (disch := omega) only [List.map_cons, List.map_nil, List.set_cons_succ, List.set_cons_zero, List.cons_append, List.nil_append, go_sem, seval, reduceCtorEq, ↓reduceIte]
  refine useT' (fWorksE0_c ⟨⟨false, [[65]], true, []⟩, false, [⟨[118], 2, 0, 0, false, [5], 0, 0, 0, 100, 100, 0, 0, 0, 0⟩], true, [], true, [], true, []⟩ ⟨false, [⟨0, 0, true, [], true, []⟩], true, []⟩ ⟨0, 0, true, [], true, []⟩ rfl (by decide) rfl (by decide) (by decide) (by decide) (by decide)) ?_
  simp (disch := omega) only [go_sem, seval, reduceCtorEq, ↓reduceIte]
  refine awp_sound [] _ _ _ _ ?_
  simp (disch := omega) only [go_sem, seval, reduceCtorEq, ↓reduceIte]
  have k1 : cmpL [40, 30] [40, 20, 10] = 1 := by decide
  have k2 : cmpL [40, 30] [50] = -1 := by decide
  have k3 : cmpL [1] [1, 0] = -1 := by decide
  have k4 : sprL [40, 30] = 10 := by decide
  have k5 : sprL [] = 0 := by decide
  refine ACalls.view (fCompare_c [40, 30] [40, 20, 10] false false (by decide) (by decide)) (by simp [vws, vw, oat, eI]) (by rfl) ?_
  simp (disch := omega) only [k1, go_sem, seval, reduceCtorEq, ↓reduceIte]
  refine ACalls.view (fCompare_c [40, 30] [50] false false (by decide) (by decide)) (by simp [vws, vw, oat, eI]) (by rfl) ?_
  simp (disch := omega) only [k2, go_sem, seval, reduceCtorEq, ↓reduceIte]
  refine ACalls.view (fCompare_c [1] [1, 0] false false (by decide) (by decide)) (by simp [vws, vw, oat, eI]) (by rfl) ?_
  simp (disch := omega) only [k3, go_sem, seval, reduceCtorEq, ↓reduceIte]
  refine ACalls.view (spread_c [40, 30] false (by decide) (by decide)) (by simp [vws, vw, oat, eI]) (by rfl) ?_
  simp (disch := omega) only [k4, go_sem, seval, reduceCtorEq, ↓reduceIte]
  refine ACalls.view (spread_c [] true (by decide) (by decide)) (by simp [vws, vw, oat]) (by rfl) ?_
  simp (disch := omega) only [k5, go_sem, seval, reduceCtorEq, ↓reduceIte]
  exact ⟨_, _, Weak.mk (by simp (disch := omega) only [go_sem, seval, reduceCtorEq, ↓reduceIte]), rfl, rfl⟩
end Go.Proofs.YtcllkjiebfmjpaaGreatDoor.K
set_option linter.unusedVariables false
set_option linter.unusedSimpArgs false
namespace Go.Proofs.YtcllkjiebfmjpaaGreatDoor.K
open Go Go.AM Go.Proofs
set_option maxRecDepth 8000
set_option maxHeartbeats 8000000
def eTrp (x : Inst) (t : Typ) (r : Rte) (c : Bool) (sp : List Stp) : PV := .agg [.list x.net.places_c (x.net.places.map eS), .list x.net.arcs_c (x.net.arcs.map eArc), .list x.types_c (x.types.map eTyp), .list x.orders_c (x.orders.map eOrd), .list x.apart_c (x.apart.map eP), .list x.before_c (x.before.map eP), .str t.name, .int .i64 t.count, .int .i64 t.src, .int .i64 t.dst, .list t.cap_c (t.cap.map eI), .int .i64 t.skills, .int .i64 t.prof, .int .i64 t.opn, .int .i64 t.cls, .int .i64 t.drive, .int .i64 t.rest, .int .i64 t.fixed, .int .i64 t.perMile, .int .i64 t.perTick, .int .i64 r.typ, .int .i64 r.start, .list r.rests_c (r.rests.map eB), .list r.visits_c (r.visits.map eVis), .list c (sp.map eStp)]
@[go_sem] theorem eTrp_eq (x : Inst) (t : Typ) (r : Rte) (c : Bool) (sp : List Stp) : eTrp x t r c sp = .agg [.list x.net.places_c (x.net.places.map eS), .list x.net.arcs_c (x.net.arcs.map eArc), .list x.types_c (x.types.map eTyp), .list x.orders_c (x.orders.map eOrd), .list x.apart_c (x.apart.map eP), .list x.before_c (x.before.map eP), .str t.name, .int .i64 t.count, .int .i64 t.src, .int .i64 t.dst, .list t.cap_c (t.cap.map eI), .int .i64 t.skills, .int .i64 t.prof, .int .i64 t.opn, .int .i64 t.cls, .int .i64 t.drive, .int .i64 t.rest, .int .i64 t.fixed, .int .i64 t.perMile, .int .i64 t.perTick, .int .i64 r.typ, .int .i64 r.start, .list r.rests_c (r.rests.map eB), .list r.visits_c (r.visits.map eVis), .list c (sp.map eStp)] := Eq.trans rfl rfl
def trpH (x : Inst) (t : Typ) (r : Rte) : List V := [.p (.list x.net.places_c (x.net.places.map eS)), .p (.list x.net.arcs_c (x.net.arcs.map eArc)), .p (.list x.types_c (x.types.map eTyp)), .p (.list x.orders_c (x.orders.map eOrd)), .p (.list x.apart_c (x.apart.map eP)), .p (.list x.before_c (x.before.map eP)), .p (.str t.name), .p (.int .i64 t.count), .p (.int .i64 t.src), .p (.int .i64 t.dst), .p (.list t.cap_c (t.cap.map eI)), .p (.int .i64 t.skills), .p (.int .i64 t.prof), .p (.int .i64 t.opn), .p (.int .i64 t.cls), .p (.int .i64 t.drive), .p (.int .i64 t.rest), .p (.int .i64 t.fixed), .p (.int .i64 t.perMile), .p (.int .i64 t.perTick), .p (.int .i64 r.typ), .p (.int .i64 r.start), .p (.list r.rests_c (r.rests.map eB)), .p (.list r.visits_c (r.visits.map eVis))]
def trpO (x : Inst) (t : Typ) (r : Rte) (c : Bool) (sp : List Stp) : AM.Obj := .cells [.p (.list x.net.places_c (x.net.places.map eS)), .p (.list x.net.arcs_c (x.net.arcs.map eArc)), .p (.list x.types_c (x.types.map eTyp)), .p (.list x.orders_c (x.orders.map eOrd)), .p (.list x.apart_c (x.apart.map eP)), .p (.list x.before_c (x.before.map eP)), .p (.str t.name), .p (.int .i64 t.count), .p (.int .i64 t.src), .p (.int .i64 t.dst), .p (.list t.cap_c (t.cap.map eI)), .p (.int .i64 t.skills), .p (.int .i64 t.prof), .p (.int .i64 t.opn), .p (.int .i64 t.cls), .p (.int .i64 t.drive), .p (.int .i64 t.rest), .p (.int .i64 t.fixed), .p (.int .i64 t.perMile), .p (.int .i64 t.perTick), .p (.int .i64 r.typ), .p (.int .i64 r.start), .p (.list r.rests_c (r.rests.map eB)), .p (.list r.visits_c (r.visits.map eVis)), .p (.list c (sp.map eStp))]
def ztrO : AM.Obj := .cells [.p (.list true []), .p (.list true []), .p (.list true []), .p (.list true []), .p (.list true []), .p (.list true []), .p (.str []), .p (.int .i64 0), .p (.int .i64 0), .p (.int .i64 0), .p (.list true []), .p (.int .i64 0), .p (.int .i64 0), .p (.int .i64 0), .p (.int .i64 0), .p (.int .i64 0), .p (.int .i64 0), .p (.int .i64 0), .p (.int .i64 0), .p (.int .i64 0), .p (.int .i64 0), .p (.int .i64 0), .p (.list true []), .p (.list true []), .p (.list true [])]
def eLab (L : Lab) : PV := .agg [.int .i64 L.ready, .int .i64 L.since, .bool L.she.rest, .int .i64 L.she.dep, .list L.she.times_c (L.she.times.map eTim), .int .i64 L.she.fin, .int .i64 L.she.miles]
@[go_sem] theorem eLab_eq (L : Lab) : eLab L = .agg [.int .i64 L.ready, .int .i64 L.since, .bool L.she.rest, .int .i64 L.she.dep, .list L.she.times_c (L.she.times.map eTim), .int .i64 L.she.fin, .int .i64 L.she.miles] := Eq.trans rfl rfl
@[go_sem] theorem allS_eLab (l : List Lab) : allS 7 (l.map eLab) = true := allS_map (f := eLab) (S := 7) (fun _ => rfl) l
@[go_sem] theorem okE_eLab (l : List Lab) : okE 7 (l.map eLab) = true := okE_map fun _ => rfl
def labO (L : Lab) : AM.Obj := .cells [.p (.int .i64 L.ready), .p (.int .i64 L.since), .p (.bool L.she.rest), .p (.int .i64 L.she.dep), .p (.list L.she.times_c (L.she.times.map eTim)), .p (.int .i64 L.she.fin), .p (.int .i64 L.she.miles)]
theorem cloneT_c (l : List Tim) (c : Bool) (hl : l.length ≤ 1048576) : ACalls Tryz.prog 247 [.p (.list c (l.map eTim))] [] fun x H' => x = .sl 0 0 l.length l.length ∧ H' = [.elems 4 (l.map eTim)] := by
  suffices hh : ACalls Tryz.prog 247 [.p (.list c (l.map eTim))] [] fun x H' => ∃ m : List Tim, m = l ∧ x = .sl 0 0 m.length m.length ∧ H' = [.elems 4 (m.map eTim)] by
    refine hh.mono fun x H' h => ?_
    obtain ⟨m, rfl, h1, h2⟩ := h
    exact ⟨h1, h2⟩
  refine acalls_weak [1] (fn := Tryz.f247) Tryz.func247 rfl isF247 ?_
  simp (disch := omega) only [Tryz.f247, go_sem, seval, reduceCtorEq, ↓reduceIte]
  refine awp_seq (awp_seq (awp_opN 1 rfl rfl ?_))
  refine ⟨_, opn_nil (e := 60) rfl Tryz.underlying96 rfl (fun _ => rfl), ?_⟩
  rintro _ ⟨b, rfl, hb⟩
  simp (disch := omega) only [go_sem, seval, reduceCtorEq, ↓reduceIte]
  refine awp_sound [] _ _ _ _ ?_
  cases b with
  | true =>
    have hn : l = [] := by simpa using hb rfl
    subst hn
    simp (disch := omega) only [go_sem, seval, reduceCtorEq, ↓reduceIte]
    exact ⟨_, _, Weak.ofNil 0 4 rfl (by simp) (Weak.mk (by simp (disch := omega) only [go_sem, seval, reduceCtorEq, ↓reduceIte])), [], rfl, rfl, rfl⟩
  | false =>
    simp (disch := omega) only [go_sem, seval, reduceCtorEq, ↓reduceIte]
    refine awp_sound [] _ _ _ _ ?_
    simp (disch := omega) only [go_sem, seval, reduceCtorEq, ↓reduceIte]
    exact ⟨.sl 0 0 l.length l.length, [.elems 4 (l.map eTim)], Weak.mk (by simp (disch := omega) only [go_sem, seval, reduceCtorEq, ↓reduceIte]), l, rfl, rfl, rfl⟩
theorem begin_l_c (x : Inst) (t : Typ) (r : Rte) (c : Bool) (sp : List Stp) : ACalls Tryz.prog 189 [.p (eTrp x t r c sp)] [] fun y H' => y = .p (eLab (labF t r.start)) ∧ H' = [] := by
  refine acalls_weak [] (fn := Tryz.f189) Tryz.func189 rfl isF189 ?_
  simp (disch := omega) only [Tryz.f189, go_sem, seval, reduceCtorEq, ↓reduceIte]
  exact ⟨_, _, Weak.mk (by simp (disch := omega) only [labF, zShe, List.map_nil, go_sem, seval, reduceCtorEq, ↓reduceIte]), rfl, rfl⟩
theorem pplace_c (x : Inst) (t : Typ) (r : Rte) (c : Bool) (sp : List Stp) (k : Nat) (hk : k ≤ sp.length) (hl : sp.length ≤ 1048576) : ACalls Tryz.prog 249 [.p (eTrp x t r c sp), .p (.int .i64 (k : Nat))] [] fun y H' => y = .p (.int .i64 (plcF t sp k)) ∧ H' = [] := by
  refine acalls_pure (fn := Tryz.f249) Tryz.func249 rfl isF249 ?_
  simp (disch := omega) only [Tryz.f249, go_sem, seval, reduceCtorEq, ↓reduceIte]
  refine acond_b (fun h => ?_) (fun h => ?_) <;> (try simp only [decide_eq_true_eq, decide_eq_false_iff_not] at h) <;> simp (disch := omega) only [Sh.out h, go_sem, seval, reduceCtorEq, ↓reduceIte]
  · have : k = 0 := by omega
    rw [plcF, if_pos this]
  · have e1 : ((k : Int) - 1).toNat = k - 1 := by omega
    have h2 : ¬ k = 0 := by omega
    rw [plcF, if_neg h2]
    done
theorem plan_c (x : Inst) (r : Rte) (hx : InstOk x) (hty : 0 ≤ r.typ ∧ r.typ < (x.types.length : Int)) (h0 : seqChk x r.visits = 0) (hs : 0 ≤ r.start ∧ r.start ≤ 4096) :
    ACalls Tryz.prog 188 [.p (eInst x), .p (eRte r)] [] fun y H' => y = .tup [.p (eTrp x (typR x r) r false (stopsF x r.visits)), .p (.bool true)] ∧ H' = [] := by
  have hd := ldOk_of hx
  have hsq := sqOk_of h0
  have hol := hd.ord
  have htl := hd.typ
  have hvl := hsq.len hol
  have e1 : ¬ r.typ < 0 := by omega
  have e2 : ¬ (x.types.length : Int) ≤ r.typ := by omega
  have e3 : ¬ r.start < 0 := by omega
  have e4 : ¬ 4096 < r.start := by omega
  have e5 : ¬ 20 < (r.visits.length : Int) := by omega
  refine acalls_weak [12] (fn := Tryz.f188) Tryz.func188 rfl isF188 ?_
  simp (disch := omega) only [Tryz.f188, e1, e2, e3, e4, e5, go_sem, seval, reduceCtorEq, ↓reduceIte]
  refine awp_drawnM [9] 10 mixed (by kernel_rfl) (by kernel_rfl) (by kernel_rfl) (by simp) ?_
  simp (disch := omega) only [go_sem, seval, reduceCtorEq, ↓reduceIte]
  refine lateR_cons _ _ (by simp (disch := omega) only [go_sem, seval, reduceCtorEq, ↓reduceIte]; exact ⟨rfl, rfl⟩) ?_
  simp (disch := omega) only [go_sem, seval, reduceCtorEq, ↓reduceIte]
  refine awp_forC [12] [2, 4, 6, 49, 50] (fun q : Nat × List Stp => [(51, .p (.int .i64 q.1))])
    (fun q => [instO x, rteO r, ztrO, .cells (trpH x (typR x r) r ++ [.sl 4 0 q.2.length q.2.length]), .elems 4 (q.2.map eStp)])
    (fun q => q.1 ≤ r.visits.length ∧ q.2 = (stopsF x r.visits).take q.1) (fun q => r.visits.length - q.1) (0, []) (by simp) ((Weak.nilC (o := 3) (j := 24) 4 rfl rfl (by simp)).trans (Weak.mk ?_)) ?_
  · simp (disch := omega) only [instO, rteO, ztrO, trpH, typR, List.map_nil, List.length_nil, List.set_cons_succ, List.set_cons_zero, List.cons_append, List.nil_append, go_sem, seval, reduceCtorEq, ↓reduceIte]
  · rintro ⟨k, o⟩ ⟨hk, ho⟩
    simp only at hk ho
    have hol2 : o.length = k := by rw [ho]; simp [stopsF_len]; omega
    simp (disch := omega) only [instO, rteO, ztrO, trpH, go_sem, seval, reduceCtorEq, ↓reduceIte]
    refine acond_b (fun h1 => ?_) (fun h1 => ?_) <;> (try simp only [decide_eq_true_eq, decide_eq_false_iff_not] at h1) <;> simp (disch := omega) only [Sh.out h1, go_sem, seval, reduceCtorEq, ↓reduceIte]
    · have hk2 : k < r.visits.length := by omega
      have hvis := hsq.vis (nth_mem hk2)
      simp only [visB, Bool.and_eq_true, decide_eq_true_eq] at hvis
      have hsn : o ++ [stopV x (nth r.visits k)] = (stopsF x r.visits).take (k + 1) := by
        rw [ho, List.take_succ_eq_append_getElem (by rw [stopsF_len]; exact hk2), ← nth_get, stopsF_nth hk2]
      have hnp : ¬ (stopV x (nth r.visits k)).place < 0 := by omega
      refine useT' (pStop_c x (nth r.visits k) (by omega) hvis.1 hvis.2) ?_
      simp (disch := omega) only [hnp, go_sem, seval, reduceCtorEq, ↓reduceIte]
      exact ⟨(k + 1, o ++ [stopV x (nth r.visits k)]), ⟨by simp only; omega, hsn⟩, by simp only; omega, Weak.mk (by simp (disch := omega) only [instO, rteO, ztrO, trpH, List.length_append, List.length_cons, List.length_nil, List.map_append, List.map_cons, List.map_nil, List.cons_append, List.nil_append, go_sem, seval, reduceCtorEq, ↓reduceIte])⟩
    · have hkl : k = r.visits.length := by omega
      subst hkl
      have hso : o = stopsF x r.visits := by rw [ho, ← stopsF_len (x := x) (l := r.visits), List.take_length]
      subst hso
      refine awp_weak (Weak.fz (o := 4) (by rfl)) ?_
      refine awp_sound [] _ _ _ _ ?_
      simp (disch := omega) only [List.map_cons, List.map_nil, List.set_cons_succ, List.set_cons_zero, go_sem, seval, reduceCtorEq, ↓reduceIte]
      exact ⟨_, _, Weak.mk (by simp (disch := omega) only [go_sem, seval, reduceCtorEq, ↓reduceIte]), rfl, rfl⟩
end Go.Proofs.YtcllkjiebfmjpaaGreatDoor.K
set_option linter.unusedVariables false
set_option linter.unusedSimpArgs false
namespace Go.Proofs.YtcllkjiebfmjpaaGreatDoor.K
open Go Go.AM Go.Proofs
set_option maxRecDepth 8000
set_option maxHeartbeats 8000000
/-- a sheet in the making, in a label -/
def shO (rd sn : Int) (m : She) : AM.Obj := .cells [.p (.int .i64 rd), .p (.int .i64 sn), .p (.bool m.rest), .p (.int .i64 m.dep), .sl 4 0 m.times.length m.times.length, .p (.int .i64 m.fin), .p (.int .i64 m.miles)]
theorem exq_callT3 {P : Program} {H : List AM.Obj} {f ars} {a b d : PV} {B : V → Prop} {t} (h : ACalls P f ars [] fun x H' => x = .tup [.p a, .p b, .p d] ∧ H' = []) (k : B (.tup [.p a, .p b, .p d])) (ha : refBs 0 ars = true := by rfl) :
    exq (fun y => ACalls P f ars H (hide (hide (fun x H' => x = y ∧ H' = H) ⟨⟩) ⟨⟩)) (hide B t) :=
  ⟨.tup [.p a, .p b, .p d], (h.behind ha H).mono fun x H' hq => by
    obtain ⟨y, H1, ⟨rfl, rfl⟩, rfl, rfl⟩ := hq
    simp [shV, shVs, hide], k⟩
theorem next_c (x : Inst) (t : Typ) (r : Rte) (c : Bool) (sp : List Stp) (hok : TrpOk x t sp) (k : Nat) (hk : k ≤ sp.length) (hs1 : 0 < sp.length) (L : Lab) (hL : LabR k L) (hlen : L.she.times.length = k) (hclip : 0 < k → L.she.times_c = false) (b : Bool) :
    ACalls Tryz.prog 228 [.p (eTrp x t r c sp), .p (eLab L), .p (.int .i64 (k : Nat)), .p (.bool b)] [] fun y H' => y = .tup [.p (eLab (nxtF x t sp k L b).1), .p (.int .i64 (nxtF x t sp k L b).2)] ∧ H' = [] := by
  have hd := depF_rng hok hL b
  have hsn := sncF_rng hL b
  have hg := goL_rng hok hL b
  have hmi := hL.mil
  have hrd := hL.rdy
  have hsnL := hL.snc
  have hsl := hok.len
  have hrst := hok.rst
  unfold nxtF
  have hmm := @markF_miles k (depF t L b) b L.she
  have hmf := @markF_fin k (depF t L b) b L.she
  have hml := @markF_len k (depF t L b) b L.she
  refine acalls_weak [2, 7, 14, 31] (fn := Tryz.f228) Tryz.func228 rfl isF228 ?_
  simp (disch := omega) only [Tryz.f228, go_sem, seval, reduceCtorEq, ↓reduceIte]
  refine awp_drawnA mixed (by kernel_rfl) (by kernel_rfl) ?_
  simp (disch := omega) only [go_sem, seval, reduceCtorEq, ↓reduceIte]
  refine awp_join [2, 3, 4, 5, 8] (fun _ : Unit => [(10, .p (.int .i64 (depF t L b))), (11, .p (.int .i64 (sncF L b)))]) (fun _ => [trpO x t r c sp, labO L, labO zLab]) (fun _ => True) ?_ ?_
  · simp (disch := omega) only [go_sem, seval, reduceCtorEq, ↓reduceIte]
    refine acond_b (fun h => ?_) (fun h => ?_) <;> (try simp only [decide_eq_true_eq, decide_eq_false_iff_not] at h) <;> simp (disch := omega) only [Sh.out h, go_sem, seval, reduceCtorEq, ↓reduceIte]
    · subst h
      exact ⟨(), Weak.mk (by simp (disch := omega) only [trpO, labO, zLab, zShe, depF, sncF, List.map_nil, go_sem, seval, reduceCtorEq, ↓reduceIte])⟩
    · subst h
      exact ⟨(), Weak.mk (by simp (disch := omega) only [trpO, labO, zLab, zShe, depF, sncF, List.map_nil, go_sem, seval, reduceCtorEq, ↓reduceIte])⟩
  · intro _ _
    refine awp_sound [7, 14, 31] _ _ _ _ ?_
    simp (disch := omega) only [trpO, labO, zLab, zShe, List.map_nil, go_sem, seval, reduceCtorEq, ↓reduceIte]
    refine (cloneT_c L.she.times L.she.times_c (by omega)).useF ?_
    simp (disch := omega) only [go_sem, seval, reduceCtorEq, ↓reduceIte]
    generalize hM : markF k (depF t L b) b L.she = M at *
    refine awp_join [2, 4, 8, 10, 11, 12] (fun _ : Unit => []) (fun _ => [trpO x t r c sp, labO L, labO zLab, shO 0 0 M, .elems 4 (M.times.map eTim)]) (fun _ => True) ?_ ?_
    · simp (disch := omega) only [go_sem, seval, reduceCtorEq, ↓reduceIte]
      refine acond_b (fun h => ?_) (fun h => ?_) <;> (try simp only [decide_eq_true_eq, decide_eq_false_iff_not] at h) <;> simp (disch := omega) only [Sh.out h, go_sem, seval, reduceCtorEq, ↓reduceIte]
      · have hk0 : k = 0 := by omega
        subst hk0
        have e : M = { L.she with rest := b, dep := depF t L b } := by rw [← hM, markF, if_pos rfl]
        rw [e]
        exact ⟨(), Weak.mk (by simp (disch := omega) only [trpO, labO, zLab, zShe, shO, List.map_nil, go_sem, seval, reduceCtorEq, ↓reduceIte])⟩
      · have e1 : ((k : Int) - 1).toNat = k - 1 := by omega
        have hk1 : k - 1 < L.she.times.length := by omega
        have hset1 : (L.she.times.map eTim).set (k - 1) (PV.agg [.int .i64 (nth L.she.times (k - 1)).arr, .int .i64 (nth L.she.times (k - 1)).beg, .int .i64 (nth L.she.times (k - 1)).dep, .bool b]) = (L.she.times.set (k - 1) { nth L.she.times (k - 1) with rest := b }).map eTim := by
          rw [List.map_set]; rfl
        have hn1 : nth (L.she.times.set (k - 1) { nth L.she.times (k - 1) with rest := b }) (k - 1) = { nth L.she.times (k - 1) with rest := b } := by
          rw [nth_get (by simpa using hk1)]; simp
        have hl1 : (L.she.times.set (k - 1) { nth L.she.times (k - 1) with rest := b }).length = L.she.times.length := by simp
        have hMt : M.times = (L.she.times.set (k - 1) { nth L.she.times (k - 1) with rest := b }).set (k - 1) { nth (L.she.times.set (k - 1) { nth L.she.times (k - 1) with rest := b }) (k - 1) with dep := depF t L b } := by
          rw [hn1, List.set_set, ← hM, markF, if_neg (by omega)]; rfl
        have hM2 : M.rest = L.she.rest ∧ M.dep = L.she.dep := by rw [← hM, markF, if_neg (by omega)]; exact ⟨rfl, rfl⟩
        simp (disch := first | omega | (simp only [List.length_cons, List.length_nil, List.length_append, List.length_map, List.length_take, List.length_drop] <;> omega)) only [e1, go_sem, seval, reduceCtorEq, ↓reduceIte]
        rw [hset1]
        generalize L.she.times.set (k - 1) { nth L.she.times (k - 1) with rest := b } = l1 at *
        simp (disch := first | omega | (simp only [List.length_cons, List.length_nil, List.length_append, List.length_map, List.length_take, List.length_drop] <;> omega)) only [e1, hl1, eq_self, decide_true, go_sem, seval, reduceCtorEq, ↓reduceIte]
        refine ⟨(), Weak.mk ?_⟩
        simp (disch := omega) only [trpO, labO, zLab, zShe, shO, List.map_nil, hM2.1, hM2.2, hmm, hmf, hml, go_sem, seval, reduceCtorEq, ↓reduceIte]
        rw [hMt, List.map_set]
        rfl
    · intro _ _
      refine awp_sound [14, 31] _ _ _ _ ?_
      simp (disch := omega) only [trpO, labO, zLab, zShe, shO, List.map_nil, go_sem, seval, reduceCtorEq, ↓reduceIte]
      refine awp_join [2, 4, 8, 10, 11, 12, 13] (fun _ : Unit => [(14, .p (.int .i64 (toF t sp k)))]) (fun _ => [trpO x t r c sp, labO L, labO zLab, shO 0 0 M, .elems 4 (M.times.map eTim)]) (fun _ => True) ?_ ?_
      · simp (disch := omega) only [go_sem, seval, reduceCtorEq, ↓reduceIte]
        refine acond_b (fun h => ?_) (fun h => ?_) <;> (try simp only [decide_eq_true_eq, decide_eq_false_iff_not] at h) <;> simp (disch := omega) only [Sh.out h, go_sem, seval, reduceCtorEq, ↓reduceIte]
        · have e : toF t sp k = (nth sp k).place := by rw [toF, if_neg (by omega)]
          exact ⟨(), Weak.mk (by simp (disch := omega) only [trpO, labO, zLab, zShe, shO, List.map_nil, e, go_sem, seval, reduceCtorEq, ↓reduceIte])⟩
        · have e : toF t sp k = t.dst := by rw [toF, if_pos (by omega)]
          exact ⟨(), Weak.mk (by simp (disch := omega) only [trpO, labO, zLab, zShe, shO, List.map_nil, e, go_sem, seval, reduceCtorEq, ↓reduceIte])⟩
      · intro _ _
        refine awp_sound [31] _ _ _ _ ?_
        simp (disch := omega) only [trpO, labO, zLab, zShe, shO, List.map_nil, go_sem, seval, reduceCtorEq, ↓reduceIte]
        refine awp_drawnA mixed (by kernel_rfl) (by kernel_rfl) ?_
        simp (disch := omega) only [go_sem, seval, reduceCtorEq, ↓reduceIte]
        refine exq_call (pplace_c x t r c sp k hk (by omega)) ?_
        simp (disch := omega) only [go_sem, seval, reduceCtorEq, ↓reduceIte]
        refine exq_callT3 (pGo_c x.net t.prof (plcF t sp k) (toF t sp k) (depF t L b) hok.net (by omega)) ?_
        simp (disch := omega) only [go_sem, seval, reduceCtorEq, ↓reduceIte]
        have hG : goN x.net t.prof (plcF t sp k) (toF t sp k) (depF t L b) = goL x t sp k (depF t L b) := rfl
        rw [hG]
        clear hG
        generalize goL x t sp k (depF t L b) = g at *
        generalize depF t L b = d at *
        generalize sncF L b = s at *
        refine acond_b (fun h1 => ?_) (fun h1 => ?_) <;> (try simp only [decide_eq_true_eq, decide_eq_false_iff_not] at h1) <;> simp (disch := omega) only [Sh.out h1, go_sem, seval, reduceCtorEq, ↓reduceIte]
        · have e : arrF t sp k g d s M = (zLab, 12) := by rw [arrF, if_pos h1]
          rw [e]
          exact ⟨_, _, Weak.mk (by simp (disch := omega) only [zLab, zShe, List.map_nil, go_sem, seval, reduceCtorEq, ↓reduceIte]), rfl, rfl⟩
        · refine acond_b (fun h2 => ?_) (fun h2 => ?_) <;> (try simp only [decide_eq_true_eq, decide_eq_false_iff_not] at h2) <;> simp (disch := omega) only [Sh.out h2, go_sem, seval, reduceCtorEq, ↓reduceIte]
          · refine acond_b (fun h3 => ?_) (fun h3 => ?_) <;> (try simp only [decide_eq_true_eq, decide_eq_false_iff_not] at h3) <;> simp (disch := omega) only [Sh.out h3, go_sem, seval, reduceCtorEq, ↓reduceIte]
            · have e : arrF t sp k g d s M = (zLab, 15) := by rw [arrF, if_neg h1, if_pos (by omega), if_pos h3]
              rw [e]
              exact ⟨_, _, Weak.mk (by simp (disch := omega) only [zLab, zShe, List.map_nil, go_sem, seval, reduceCtorEq, ↓reduceIte]), rfl, rfl⟩
            · refine awp_weak (Weak.fz (o := 4) (by rfl)) ?_
              refine awp_sound [] _ _ _ _ ?_
              simp (disch := omega) only [List.map_cons, List.map_nil, List.set_cons_succ, List.set_cons_zero, go_sem, seval, reduceCtorEq, ↓reduceIte]
              refine acond_b (fun h4 => ?_) (fun h4 => ?_) <;> (try simp only [decide_eq_true_eq, decide_eq_false_iff_not] at h4) <;> simp (disch := omega) only [Sh.out h4, go_sem, seval, reduceCtorEq, ↓reduceIte]
              · have e : arrF t sp k g d s M = (zLab, 16) := by rw [arrF, if_neg h1, if_pos (by omega), if_neg h3, if_pos h4]
                rw [e]
                exact ⟨_, _, Weak.mk (by simp (disch := omega) only [zLab, zShe, List.map_nil, go_sem, seval, reduceCtorEq, ↓reduceIte]), rfl, rfl⟩
              · have e : arrF t sp k g d s M = (⟨g.1, s + g.1 - d, { M with fin := g.1, miles := M.miles + g.2.1 }⟩, 0) := by rw [arrF, if_neg h1, if_pos (by omega), if_neg h3, if_neg h4]
                have hMc : M.times_c = false := by
                  rw [← hM, markF, if_neg (by omega)]
                  exact hclip (by omega)
                rw [e]
                exact ⟨_, _, Weak.mk (by simp (disch := omega) only [hMc, go_sem, seval, reduceCtorEq, ↓reduceIte]), rfl, rfl⟩
          · have h2' : ¬ k = sp.length := by omega
            have hkl : k < sp.length := by omega
            have hstp := hok.stp _ (nth_in hkl)
            refine useT' (begin_c (nth sp k) g.1) ?_
            unfold begF
            by_cases h3 : (nth sp k).cls < max g.1 (nth sp k).opn
            · have e : arrF t sp k g d s M = (zLab, 14) := by rw [arrF, if_neg h1, if_neg h2', if_pos h3]
              rw [e, if_pos h3]
              simp (disch := omega) only [go_sem, seval, reduceCtorEq, ↓reduceIte]
              exact ⟨_, _, Weak.mk (by simp (disch := omega) only [zLab, zShe, List.map_nil, go_sem, seval, reduceCtorEq, ↓reduceIte]), rfl, rfl⟩
            · rw [if_neg h3]
              simp (disch := omega) only [go_sem, seval, reduceCtorEq, ↓reduceIte]
              refine awp_weak (Weak.fz (o := 4) (by rfl)) ?_
              refine awp_sound [] _ _ _ _ ?_
              simp (disch := omega) only [List.map_cons, List.map_nil, List.set_cons_succ, List.set_cons_zero, go_sem, seval, reduceCtorEq, ↓reduceIte]
              refine acond_b (fun h4 => ?_) (fun h4 => ?_) <;> (try simp only [decide_eq_true_eq, decide_eq_false_iff_not] at h4) <;> simp (disch := omega) only [Sh.out h4, go_sem, seval, reduceCtorEq, ↓reduceIte]
              · have e : arrF t sp k g d s M = (zLab, 16) := by rw [arrF, if_neg h1, if_neg h2', if_neg h3, if_pos h4]
                rw [e]
                exact ⟨_, _, Weak.mk (by simp (disch := omega) only [zLab, zShe, List.map_nil, go_sem, seval, reduceCtorEq, ↓reduceIte]), rfl, rfl⟩
              · have e : arrF t sp k g d s M = (⟨max g.1 (nth sp k).opn + (nth sp k).serv, s + g.1 - d, { M with times_c := false, times := M.times ++ [⟨g.1, max g.1 (nth sp k).opn, 0, false⟩], miles := M.miles + g.2.1 }⟩, 0) := by rw [arrF, if_neg h1, if_neg h2', if_neg h3, if_neg h4]
                rw [e]
                exact ⟨_, _, Weak.mk (by simp (disch := omega) only [go_sem, seval, reduceCtorEq, ↓reduceIte]), rfl, rfl⟩
end Go.Proofs.YtcllkjiebfmjpaaGreatDoor.K
set_option linter.unusedVariables false
set_option linter.unusedSimpArgs false
namespace Go.Proofs.YtcllkjiebfmjpaaGreatDoor.K
open Go Go.AM Go.Proofs
set_option maxRecDepth 8000
set_option maxHeartbeats 8000000
theorem nxtF_clip {x t sp k L b} (hs : 0 < sp.length) (hc : 0 < k → L.she.times_c = false) (he : (nxtF x t sp k L b).2 = 0) : (nxtF x t sp k L b).1.she.times_c = false := by
  have hm : 0 < k → (markF k (depF t L b) b L.she).times_c = false := fun h => by rw [markF, if_neg (by omega)]; exact hc h
  unfold nxtF at he ⊢
  generalize goL x t sp k (depF t L b) = g at *
  generalize depF t L b = d at *
  generalize sncF L b = s at *
  generalize markF k d b L.she = m at *
  unfold arrF at he ⊢
  split at he
  · simp at he
  · rename_i c1
    rw [if_neg c1]
    split at he
    · rename_i c2
      rw [if_pos c2]
      split at he
      · simp at he
      · rename_i c3
        rw [if_neg c3]
        split at he
        · simp at he
        · rename_i c4
          rw [if_neg c4]
          exact hm (by omega)
    · rename_i c2
      rw [if_neg c2]
      split at he
      · simp at he
      · rename_i c3
        rw [if_neg c3]
        split at he
        · simp at he
        · rename_i c4
          rw [if_neg c4]
/-- what labels behind k visits are like -/
structure LabO (n k : Nat) (L : Lab) : Prop where
  rng : LabR k L
  len : k ≤ n → L.she.times.length = k
  clip : 0 < k → L.she.times_c = false
theorem labO_next {x t sp k L b} (hok : TrpOk x t sp) (hs : 0 < sp.length) (hk : k ≤ sp.length) (h : LabO sp.length k L) (he : (nxtF x t sp k L b).2 = 0) : LabO sp.length (k + 1) (nxtF x t sp k L b).1 :=
  ⟨nxtF_ok hok hk h.rng he, fun hk2 => nxtF_times (h.len hk) he (by omega), fun _ => nxtF_clip hs h.clip he⟩
theorem labO_zero {x t sp} (hok : TrpOk x t sp) {st : Int} (hst : 0 ≤ st ∧ st ≤ 4096) : LabO sp.length 0 (labF t st) :=
  ⟨⟨by have := hok.opn; simp only [labF]; omega, by simp [labF], by simp [labF, zShe]⟩, fun _ => rfl, fun h => by omega⟩
theorem next_ok (x : Inst) (t : Typ) (r : Rte) (c : Bool) (sp : List Stp) (hok : TrpOk x t sp) (k : Nat) (hk : k ≤ sp.length) (hs1 : 0 < sp.length) (L : Lab) (hL : LabO sp.length k L) (b : Bool) :
    ACalls Tryz.prog 228 [.p (eTrp x t r c sp), .p (eLab L), .p (.int .i64 (k : Nat)), .p (.bool b)] [] fun y H' => y = .tup [.p (eLab (nxtF x t sp k L b).1), .p (.int .i64 (nxtF x t sp k L b).2)] ∧ H' = [] :=
  next_c x t r c sp hok k hk hs1 L hL.rng (hL.len hk) hL.clip b
theorem run_c (x : Inst) (t : Typ) (r : Rte) (c : Bool) (sp : List Stp) (hok : TrpOk x t sp) (hs1 : 0 < sp.length) (hst : 0 ≤ r.start ∧ r.start ≤ 4096) (bs : List Bool) (d : Bool) (hb : bs.length = sp.length + 1) :
    ACalls Tryz.prog 191 [.p (eTrp x t r c sp), .p (.list d (bs.map eB))] [] fun y H' => y = .tup [.p (eShe (runF x t sp 0 (labF t r.start) bs).1.she), .p (.int .i64 (runF x t sp 0 (labF t r.start) bs).2)] ∧ H' = [] := by
  have hsl := hok.len
  refine acalls_weak [] (fn := Tryz.f191) Tryz.func191 rfl isF191 ?_
  simp (disch := omega) only [Tryz.f191, go_sem, seval, reduceCtorEq, ↓reduceIte]
  refine (begin_l_c x t r c sp).use ?_
  simp (disch := omega) only [go_sem, seval, reduceCtorEq, ↓reduceIte]
  refine awp_for [2, 4, 6, 13, 14] (fun q : Nat × Lab => [(15, .p (.int .i64 q.1))]) (fun q => [trpO x t r c sp, .cells [.p (.bool false), .p (.int .i64 0), .p (.list true []), .p (.int .i64 0), .p (.int .i64 0)], labO q.2])
    (fun q => q.1 ≤ bs.length ∧ runF x t sp 0 (labF t r.start) bs = runF x t sp q.1 q.2 (bs.drop q.1) ∧ LabO sp.length q.1 q.2) (fun q => bs.length - q.1) (0, labF t r.start) ⟨by simp, by simp, labO_zero hok hst⟩ (Weak.mk ?_) ?_
  · simp (disch := omega) only [trpO, labO, go_sem, seval, reduceCtorEq, ↓reduceIte]
  · rintro ⟨k, L⟩ ⟨hk, hrun, hL⟩
    simp only at hk hrun hL
    simp (disch := omega) only [trpO, labO, go_sem, seval, reduceCtorEq, ↓reduceIte]
    refine acond_b (fun h1 => ?_) (fun h1 => ?_) <;> (try simp only [decide_eq_true_eq, decide_eq_false_iff_not] at h1) <;> simp (disch := omega) only [Sh.out h1, go_sem, seval, reduceCtorEq, ↓reduceIte]
    · have hk2 : k < bs.length := by omega
      have hdrop : bs.drop k = nth bs k :: bs.drop (k + 1) := by rw [List.drop_eq_getElem_cons hk2, nth_get hk2]
      rw [hdrop, runF] at hrun
      have cn := next_ok x t r c sp hok k (by omega) hs1 L hL (nth bs k)
      have hL2 := labO_next (x := x) (t := t) (b := nth bs k) hok hs1 (by omega) hL
      generalize nxtF x t sp k L (nth bs k) = N at *
      refine useT' cn ?_
      simp (disch := omega) only [go_sem, seval, reduceCtorEq, ↓reduceIte]
      refine acond_b (fun h2 => ?_) (fun h2 => ?_) <;> (try simp only [decide_eq_true_eq, decide_eq_false_iff_not] at h2) <;> simp (disch := omega) only [Sh.out h2, go_sem, seval, reduceCtorEq, ↓reduceIte]
      · rw [hrun, if_neg h2]
        exact ⟨_, _, Weak.mk (by simp (disch := omega) only [zLab, zShe, List.map_nil, go_sem, seval, reduceCtorEq, ↓reduceIte]), rfl, rfl⟩
      · rw [if_pos (by omega)] at hrun
        exact ⟨(k + 1, N.1), ⟨by simp only; omega, hrun, hL2 (by omega)⟩, by simp only; omega, Weak.mk (by simp (disch := omega) only [trpO, labO, go_sem, seval, reduceCtorEq, ↓reduceIte])⟩
    · have hkl : k = bs.length := by omega
      subst hkl
      rw [List.drop_length, runF] at hrun
      rw [hrun]
      exact ⟨_, _, Weak.mk (by simp (disch := omega) only [go_sem, seval, reduceCtorEq, ↓reduceIte]), rfl, rfl⟩
theorem beats_c (l m : Lab) : ACalls Tryz.prog 231 [.p (eLab l), .p (eLab m)] [] fun y H' => y = .p (.bool (beatsF l m)) ∧ H' = [] := by
  refine acalls_pure (fn := Tryz.f231) Tryz.func231 rfl isF231 ?_
  simp (disch := omega) only [Tryz.f231, go_sem, seval, reduceCtorEq, ↓reduceIte]
  refine aguard_t (fun h => ?_) (fun h => ?_) <;> (try simp only [decide_eq_true_eq, decide_eq_false_iff_not] at h) <;> simp (disch := omega) only [Sh.out h, go_sem, seval, reduceCtorEq, ↓reduceIte]
  · simp [beatsF, h]
  · simp [beatsF, h]
end Go.Proofs.YtcllkjiebfmjpaaGreatDoor.K
set_option linter.unusedVariables false
set_option linter.unusedSimpArgs false
namespace Go.Proofs.YtcllkjiebfmjpaaGreatDoor.K
open Go Go.AM Go.Proofs
set_option maxRecDepth 8000
set_option maxHeartbeats 8000000
/-- the heap in which labels are compared -/
def gH (x : Inst) (t : Typ) (r : Rte) (c : Bool) (sp : List Stp) (o : List Lab) (f z : Lab) : List AM.Obj := [trpO x t r c sp, .dead, .elems 7 (o.map eLab), labO f, labO z]
theorem grow1_c (x : Inst) (t : Typ) (r : Rte) (c : Bool) (sp : List Stp) (o : List Lab) (f z m : Lab) : ACalls Tryz.prog 230 [.p (eLab m), .ptr 4 0] (gH x t r c sp o f z) fun y H' => y = .p (.bool (beatsF m z)) ∧ H' = gH x t r c sp o f z := by
  refine acalls_weak [] (fn := Tryz.f230) Tryz.func230 rfl isF230 ?_
  simp (disch := omega) only [Tryz.f230, gH, trpO, labO, go_sem, seval, reduceCtorEq, ↓reduceIte]
  refine (beats_c m z).use ?_
  simp (disch := omega) only [go_sem, seval, reduceCtorEq, ↓reduceIte]
  exact ⟨_, _, Weak.mk (by simp (disch := omega) only [gH, trpO, labO, go_sem, seval, reduceCtorEq, ↓reduceIte]), rfl, rfl⟩
theorem indexLab_c (x : Inst) (t : Typ) (r : Rte) (c : Bool) (sp : List Stp) (o : List Lab) (f z : Lab) (hl : o.length ≤ 2097152) :
    ACalls Tryz.prog 251 [.sl 2 0 o.length o.length, .fn (.func 230) [] [.ptr 4 0]] (gH x t r c sp o f z) fun y H' => y = .p (.int .i64 (gIx (fun m => beatsF m z) o)) ∧ H' = gH x t r c sp o f z := by
  refine acalls_weak [] (fn := Tryz.f251) Tryz.func251 rfl isF251 ?_
  simp (disch := omega) only [Tryz.f251, gH, trpO, labO, go_sem, seval, reduceCtorEq, ↓reduceIte]
  refine awp_for [0, 1, 7] (fun k : Nat => [(8, .p (.int .i64 k))]) (fun _ => gH x t r c sp o f z) (fun k => k ≤ o.length ∧ ∀ j, j < k → beatsF (nth o j) z = false) (fun k => o.length - k) 0 (by simp) (Weak.mk ?_) ?_
  · simp (disch := omega) only [gH, trpO, labO, go_sem, seval, reduceCtorEq, ↓reduceIte]
  · rintro k ⟨hk, hno⟩
    simp (disch := omega) only [gH, trpO, labO, go_sem, seval, reduceCtorEq, ↓reduceIte]
    refine acond_b (fun h => ?_) (fun h => ?_) <;> (try simp only [decide_eq_true_eq, decide_eq_false_iff_not] at h) <;> simp (disch := omega) only [Sh.out h, go_sem, seval, reduceCtorEq, ↓reduceIte]
    · have hk2 : k < o.length := by omega
      have hg := grow1_c x t r c sp o f z (nth o k)
      simp (disch := first | omega | (simp only [List.length_cons, List.length_nil, List.length_append, List.length_map, List.length_take, List.length_drop] <;> omega)) only [elt_map hk2, hk2, go_sem, seval, reduceCtorEq, ↓reduceIte]
      simp (disch := omega) only [gH, trpO, labO, go_sem, seval, reduceCtorEq, ↓reduceIte] at hg
      refine hg.useH ?_
      simp (disch := omega) only [go_sem, seval, reduceCtorEq, ↓reduceIte]
      refine acond_b (fun h2 => ?_) (fun h2 => ?_) <;> (try simp only [decide_eq_true_eq, decide_eq_false_iff_not] at h2) <;> simp (disch := omega) only [Sh.out h2, go_sem, seval, reduceCtorEq, ↓reduceIte]
      · rw [gIx_at (f := fun m => beatsF m z) hk2 h2 hno]
        exact ⟨_, _, Weak.mk (by simp (disch := omega) only [gH, trpO, labO, go_sem, seval, reduceCtorEq, ↓reduceIte]), rfl, rfl⟩
      · exact ⟨k + 1, ⟨by omega, upto_iff.2 ⟨hno, by simpa using h2⟩⟩, by omega, Weak.mk (by simp (disch := omega) only [gH, trpO, labO, go_sem, seval, reduceCtorEq, ↓reduceIte])⟩
    · have hkl : k = o.length := by omega
      subst hkl
      rw [gIx_no hno]
      exact ⟨_, _, Weak.mk (by simp (disch := omega) only [gH, trpO, labO, go_sem, seval, reduceCtorEq, ↓reduceIte]), rfl, rfl⟩
theorem containsLab_c (x : Inst) (t : Typ) (r : Rte) (c : Bool) (sp : List Stp) (o : List Lab) (f z : Lab) (hl : o.length ≤ 2097152) :
    ACalls Tryz.prog 229 [.sl 2 0 o.length o.length, .fn (.func 230) [] [.ptr 4 0]] (gH x t r c sp o f z) fun y H' => y = .p (.bool (o.any fun m => beatsF m z)) ∧ H' = gH x t r c sp o f z := by
  refine acalls_weak [] (fn := Tryz.f229) Tryz.func229 rfl isF229 ?_
  simp (disch := omega) only [Tryz.f229, go_sem, seval, reduceCtorEq, ↓reduceIte]
  refine (indexLab_c x t r c sp o f z hl).useH ?_
  simp (disch := omega) only [go_sem, seval, reduceCtorEq, ↓reduceIte]
  rw [gIx_ge]
  exact ⟨_, _, Weak.mk (by simp (disch := omega) only [gH, trpO, labO, go_sem, seval, reduceCtorEq, ↓reduceIte]), rfl, rfl⟩
/-- the candidates that are left: of the label f, those of the choices bs; of the labels l, all -/
def cndF (x : Inst) (t : Typ) (sp : List Stp) (r : List Bool) (k : Nat) (f : Lab) (bs : List Bool) (l : List Lab) : List Lab := bs.filterMap (nxtO x t sp k f) ++ candL (nxtO x t sp) (chF r) k l
theorem grow_c (x : Inst) (t : Typ) (r : Rte) (c : Bool) (sp : List Stp) (hok : TrpOk x t sp) (hs1 : 0 < sp.length) (k : Nat) (hk : k ≤ sp.length) (hrl : r.rests.length ≤ 1048576) (l : List Lab) (d : Bool) (hl : l.length ≤ 1048576) (hL : ∀ L ∈ l, LabO sp.length k L) :
    ACalls Tryz.prog 190 [.p (eTrp x t r c sp), .p (.list d (l.map eLab)), .p (.int .i64 (k : Nat))] [] fun y H' => y = .p (.list false ((pruneL beatsF [] (candL (nxtO x t sp) (chF r.rests) k l)).map eLab)) ∧ H' = [] := by
  have hsl := hok.len
  refine acalls_weak [2, 16] (fn := Tryz.f190) Tryz.func190 rfl isF190 ?_
  simp (disch := omega) only [Tryz.f190, go_sem, seval, reduceCtorEq, ↓reduceIte]
  refine awp_weak (Weak.fz (o := 1) (by rfl)) ?_
  simp (disch := omega) only [List.map_cons, List.map_nil, List.set_cons_succ, List.set_cons_zero, go_sem, seval, reduceCtorEq, ↓reduceIte]
  refine awp_join [1, 2, 3] (fun cb : Bool => [(7, .p (.list cb ((chF r.rests k).map eB)))]) (fun _ => [trpO x t r c sp, .dead]) (fun _ => True) ?_ ?_
  · simp (disch := omega) only [go_sem, seval, reduceCtorEq, ↓reduceIte]
    refine acond_b (fun h => ?_) (fun h => ?_) <;> (try simp only [decide_eq_true_eq, decide_eq_false_iff_not] at h) <;> simp (disch := omega) only [Sh.out h, go_sem, seval, reduceCtorEq, ↓reduceIte]
    · have hk2 : k < r.rests.length := by omega
      have e : chF r.rests k = (r.rests.take (k + 1)).drop k := by
        rw [chF, List.getElem?_eq_getElem hk2, List.take_succ_eq_append_getElem hk2, List.drop_left' (by simp; omega)]
      exact ⟨r.rests_c && decide ((k : Int) + 1 = (r.rests.length : Int)), Weak.mk (by simp (disch := omega) only [trpO, e, go_sem, seval, reduceCtorEq, ↓reduceIte])⟩
    · have e : chF r.rests k = [false, true] := by rw [chF, List.getElem?_eq_none (by omega)]
      exact ⟨false, Weak.mk (by simp (disch := omega) only [trpO, e, List.map_cons, List.map_nil, go_sem, seval, reduceCtorEq, ↓reduceIte])⟩
  · intro cb _
    have hch : (chF r.rests k).length ≤ 2 := by unfold chF; split <;> simp
    refine awp_sound [16] _ _ _ _ ?_
    simp (disch := omega) only [trpO, go_sem, seval, reduceCtorEq, ↓reduceIte]
    refine awp_forC [16] [2, 3, 7, 29, 30] (fun q : Nat × List Lab => [(8, .sl 2 0 q.2.length q.2.length), (31, .p (.int .i64 q.1))]) (fun q => [trpO x t r c sp, .dead, .elems 7 (q.2.map eLab)])
      (fun q => q.1 ≤ l.length ∧ pruneL beatsF [] (candL (nxtO x t sp) (chF r.rests) k l) = pruneL beatsF q.2 (candL (nxtO x t sp) (chF r.rests) k (l.drop q.1)) ∧ q.2.length ≤ 2 * q.1) (fun q => l.length - q.1) (0, []) (by simp) (Weak.ofNil 8 7 rfl (by simp) (Weak.mk ?_)) ?_
    · simp (disch := omega) only [trpO, List.map_nil, List.length_nil, go_sem, seval, reduceCtorEq, ↓reduceIte]
    · rintro ⟨i, o⟩ ⟨hi, hpr, hol⟩
      simp only at hi hpr hol
      simp (disch := omega) only [trpO, go_sem, seval, reduceCtorEq, ↓reduceIte]
      refine acond_b (fun h1 => ?_) (fun h1 => ?_) <;> (try simp only [decide_eq_true_eq, decide_eq_false_iff_not] at h1) <;> simp (disch := omega) only [Sh.out h1, go_sem, seval, reduceCtorEq, ↓reduceIte]
      · have hi2 : i < l.length := by omega
        have hLi := hL _ (nth_in hi2)
        have hdrop : l.drop i = nth l i :: l.drop (i + 1) := by rw [List.drop_eq_getElem_cons hi2, nth_get hi2]
        rw [hdrop] at hpr
        have hpr : pruneL beatsF [] (candL (nxtO x t sp) (chF r.rests) k l) = pruneL beatsF o (cndF x t sp r.rests k (nth l i) ((chF r.rests k).drop 0) (l.drop (i + 1))) := hpr
        refine awp_for [2, 3, 7, 10, 29, 30, 31, 35, 36] (fun q : Nat × List Lab => [(8, .sl 2 0 q.2.length q.2.length), (37, .p (.int .i64 q.1))]) (fun q => [trpO x t r c sp, .dead, .elems 7 (q.2.map eLab), labO (nth l i)])
          (fun q => q.1 ≤ (chF r.rests k).length ∧ pruneL beatsF [] (candL (nxtO x t sp) (chF r.rests) k l) = pruneL beatsF q.2 (cndF x t sp r.rests k (nth l i) ((chF r.rests k).drop q.1) (l.drop (i + 1))) ∧ q.2.length ≤ 2 * i + q.1) (fun q => (chF r.rests k).length - q.1) (0, o) ⟨by simp, hpr, hol⟩ (Weak.mk ?_) ?_
        · simp (disch := omega) only [trpO, labO, go_sem, seval, reduceCtorEq, ↓reduceIte]
        · clear hpr hol
          rintro ⟨j, o⟩ ⟨hj, hpr, hol⟩
          simp only at hj hpr hol
          simp (disch := omega) only [trpO, labO, go_sem, seval, reduceCtorEq, ↓reduceIte]
          refine acond_b (fun h2 => ?_) (fun h2 => ?_) <;> (try simp only [decide_eq_true_eq, decide_eq_false_iff_not] at h2) <;> simp (disch := omega) only [Sh.out h2, go_sem, seval, reduceCtorEq, ↓reduceIte]
          · have hj2 : j < (chF r.rests k).length := by omega
            have hd2 : (chF r.rests k).drop j = nth (chF r.rests k) j :: (chF r.rests k).drop (j + 1) := by rw [List.drop_eq_getElem_cons hj2, nth_get hj2]
            have cn := next_ok x t r c sp hok k hk hs1 (nth l i) hLi (nth (chF r.rests k) j)
            have ho2 : nxtO x t sp k (nth l i) (nth (chF r.rests k) j) = if (nxtF x t sp k (nth l i) (nth (chF r.rests k) j)).2 = 0 then some (nxtF x t sp k (nth l i) (nth (chF r.rests k) j)).1 else none := rfl
            rw [hd2, cndF, List.filterMap_cons, ho2] at hpr
            generalize nxtF x t sp k (nth l i) (nth (chF r.rests k) j) = N at *
            refine useT' cn ?_
            simp (disch := omega) only [go_sem, seval, reduceCtorEq, ↓reduceIte]
            refine aguard_t (fun h3 => ?_) (fun h3 => ?_) <;> (try simp only [decide_eq_true_eq, decide_eq_false_iff_not] at h3) <;> simp (disch := omega) only [Sh.out h3, go_sem, seval, reduceCtorEq, ↓reduceIte]
            · have hcl := containsLab_c x t r c sp o (nth l i) N.1 (by omega)
              simp (disch := omega) only [gH, trpO, labO, go_sem, seval, reduceCtorEq, ↓reduceIte] at hcl
              refine hcl.useH ?_
              simp (disch := omega) only [go_sem, seval, reduceCtorEq, ↓reduceIte]
              rw [if_pos h3] at hpr
              have hpr : pruneL beatsF [] (candL (nxtO x t sp) (chF r.rests) k l) = if (o.any fun m => beatsF m N.1) = true then pruneL beatsF o (cndF x t sp r.rests k (nth l i) ((chF r.rests k).drop (j + 1)) (l.drop (i + 1))) else pruneL beatsF (o ++ [N.1]) (cndF x t sp r.rests k (nth l i) ((chF r.rests k).drop (j + 1)) (l.drop (i + 1))) := hpr
              refine acond_b (fun h4 => ?_) (fun h4 => ?_) <;> (try simp only [decide_eq_true_eq, decide_eq_false_iff_not] at h4) <;> simp (disch := omega) only [Sh.out h4, go_sem, seval, reduceCtorEq, ↓reduceIte]
              · rw [if_neg (by simpa using h4)] at hpr
                exact ⟨(j + 1, o ++ [N.1]), ⟨by simp only; omega, hpr, by simp; omega⟩, by simp only; omega, Weak.mk (by simp (disch := omega) only [trpO, labO, List.length_append, List.length_cons, List.length_nil, List.map_append, List.map_cons, List.map_nil, go_sem, seval, reduceCtorEq, ↓reduceIte])⟩
              · rw [if_pos (by simpa using h4)] at hpr
                exact ⟨(j + 1, o), ⟨by simp only; omega, hpr, by simp only; omega⟩, by simp only; omega, Weak.mk (by simp (disch := omega) only [trpO, labO, go_sem, seval, reduceCtorEq, ↓reduceIte])⟩
            · rw [if_neg h3] at hpr
              exact ⟨(j + 1, o), ⟨by simp only; omega, hpr, by simp only; omega⟩, by simp only; omega, Weak.mk (by simp (disch := omega) only [trpO, labO, go_sem, seval, reduceCtorEq, ↓reduceIte])⟩
          · have hjl : j = (chF r.rests k).length := by omega
            subst hjl
            rw [List.drop_length, cndF, List.filterMap_nil, List.nil_append] at hpr
            exact ⟨(i + 1, o), ⟨by simp only; omega, hpr, by simp only; omega⟩, by simp only; omega, Weak.mk (by simp (disch := omega) only [trpO, go_sem, seval, reduceCtorEq, ↓reduceIte])⟩
      · have hil : i = l.length := by omega
        subst hil
        have e : candL (nxtO x t sp) (chF r.rests) k [] = [] := rfl
        rw [List.drop_length, e, pruneL] at hpr
        rw [hpr]
        refine awp_weak (Weak.fz (o := 2) (by rfl)) ?_
        refine awp_sound [] _ _ _ _ ?_
        simp (disch := omega) only [List.map_cons, List.map_nil, List.set_cons_succ, List.set_cons_zero, go_sem, seval, reduceCtorEq, ↓reduceIte]
        exact ⟨_, _, Weak.mk (by simp (disch := omega) only [go_sem, seval, reduceCtorEq, ↓reduceIte]), rfl, rfl⟩
end Go.Proofs.YtcllkjiebfmjpaaGreatDoor.K
set_option linter.unusedVariables false
set_option linter.unusedSimpArgs false
namespace Go.Proofs.YtcllkjiebfmjpaaGreatDoor.K
open Go Go.AM Go.Proofs
set_option maxRecDepth 8000
set_option maxHeartbeats 8000000
def eZtr : PV := .agg [.list true [], .list true [], .list true [], .list true [], .list true [], .list true [], .str [], .int .i64 0, .int .i64 0, .int .i64 0, .list true [], .int .i64 0, .int .i64 0, .int .i64 0, .int .i64 0, .int .i64 0, .int .i64 0, .int .i64 0, .int .i64 0, .int .i64 0, .int .i64 0, .int .i64 0, .list true [], .list true [], .list true []]
theorem planE_c (x : Inst) (r : Rte) (hty : 0 ≤ r.typ ∧ r.typ < (x.types.length : Int)) (htl : x.types.length ≤ 1048576) (hvl : r.visits.length ≤ 20) (hs : ¬ (0 ≤ r.start ∧ r.start ≤ 4096)) :
    ACalls Tryz.prog 188 [.p (eInst x), .p (eRte r)] [] fun y H' => y = .tup [.p eZtr, .p (.bool false)] ∧ H' = [] := by
  have e1 : ¬ r.typ < 0 := by omega
  have e2 : ¬ (x.types.length : Int) ≤ r.typ := by omega
  refine acalls_weak [] (fn := Tryz.f188) Tryz.func188 rfl isF188 ?_
  simp (disch := omega) only [Tryz.f188, e1, e2, go_sem, seval, reduceCtorEq, ↓reduceIte]
  refine aguard_f (fun h1 => ?_) (fun h1 => ?_) <;> (try simp only [decide_eq_true_eq, decide_eq_false_iff_not] at h1) <;> simp (disch := omega) only [Sh.out h1, go_sem, seval, reduceCtorEq, ↓reduceIte]
  · exact ⟨_, _, Weak.mk (by simp (disch := omega) only [eZtr, go_sem, seval, reduceCtorEq, ↓reduceIte]), rfl, rfl⟩
  · refine aguard_f (fun h2 => ?_) (fun h2 => ?_) <;> (try simp only [decide_eq_true_eq, decide_eq_false_iff_not] at h2) <;> simp (disch := omega) only [Sh.out h2, go_sem, seval, reduceCtorEq, ↓reduceIte]
    · exact ⟨_, _, Weak.mk (by simp (disch := omega) only [eZtr, go_sem, seval, reduceCtorEq, ↓reduceIte]), rfl, rfl⟩
    · omega
theorem runF_bad {x t sp} : ∀ (bs : List Bool) (k : Nat) (L : Lab), ¬ (runF x t sp k L bs).2 = 0 → (runF x t sp k L bs).1 = zLab
  | [], k, L, h => by simp [runF] at h
  | b :: bs, k, L, h => by
    rw [runF] at h ⊢
    split
    · rename_i c
      rw [if_pos c] at h
      exact runF_bad bs (k + 1) _ h
    · rfl
theorem fromB_rep (n : Nat) : List.replicate n false ∈ fromB (List.replicate n false) := by
  rw [fromB_next]; simp
theorem fmL_none {l : List Lab} (h : fmL finF none l = none) : l = [] := by
  cases l with
  | nil => rfl
  | cons a l =>
    obtain ⟨z, hz, _⟩ := fmL_some (fin := finF) l a
    have : fmL finF none (a :: l) = fmL finF (some a) l := rfl
    rw [this, hz] at h; cases h
theorem best_none {x t sp} {st : Int} {r : List Bool} (h : fmL finF none ((restsR r (sp.length + 1)).filterMap (runO (nxtO x t sp) 0 (labF t st))) = none) : ¬ (runF x t sp 0 (labF t st) (padR r (sp.length + 1))).2 = 0 := fun h0 => by
  have h1 := fmL_none h
  have h2 : padR r (sp.length + 1) ∈ restsR r (sp.length + 1) := List.mem_map.2 ⟨_, fromB_rep _, rfl⟩
  have h3 := List.filterMap_eq_nil_iff.1 h1 _ h2
  rw [runF_opt, if_pos h0] at h3
  cases h3
theorem best_none2 {x t sp} {st : Int} {r : List Bool} (hr : r.length ≤ sp.length + 1) (h : fmL finF none (iterL beatsF (nxtO x t sp) (chF r) (sp.length + 1) 0 [labF t st]) = none) : ¬ (runF x t sp 0 (labF t st) (padR r (sp.length + 1))).2 = 0 :=
  best_none (by rw [labels_fm, reachL, ext_rests r _ hr] at h; exact h)
/-- the schedule that ends first, or the error -/
def bestV (x : Inst) (r : Rte) : She × Int := if 0 ≤ r.start ∧ r.start ≤ 4096 ∧ r.rests.length ≤ r.visits.length + 1 then bestR x r else (zShe, 2)
theorem candL_ok {x t sp} {ch : Nat → List Bool} {k : Nat} {l : List Lab} (hok : TrpOk x t sp) (hs : 0 < sp.length) (hk : k ≤ sp.length) (h : ∀ L ∈ l, LabO sp.length k L) : ∀ L ∈ pruneL beatsF [] (candL (nxtO x t sp) ch k l), LabO sp.length (k + 1) L := fun L hL => by
  have h1 := prune_sub beatsF _ _ L hL
  rw [List.nil_append] at h1
  obtain ⟨a, ha, hb⟩ := List.mem_flatMap.1 h1
  obtain ⟨b, _, hn⟩ := List.mem_filterMap.1 hb
  rw [nxtO] at hn
  split at hn
  · rename_i c
    simp at hn; subst hn
    exact labO_next hok hs hk (h a ha) c
  · cases hn
theorem prune_len : ∀ (c out : List Lab), (pruneL beatsF out c).length ≤ out.length + c.length
  | [], out => by simp [pruneL]
  | x :: c, out => by
    rw [pruneL]
    split
    · have := prune_len c out; simp; omega
    · have := prune_len c (out ++ [x]); simp at this ⊢; omega
theorem candL_len {x t sp} {r : List Bool} {k : Nat} : ∀ l : List Lab, (candL (nxtO x t sp) (chF r) k l).length ≤ 2 * l.length
  | [] => by simp [candL]
  | a :: l => by
    have ih := candL_len (x := x) (t := t) (sp := sp) (r := r) (k := k) l
    have h1 : (candL (nxtO x t sp) (chF r) k (a :: l)) = (chF r k).filterMap (nxtO x t sp k a) ++ candL (nxtO x t sp) (chF r) k l := rfl
    have h2 := List.length_filterMap_le (nxtO x t sp k a) (chF r k)
    have h3 : (chF r k).length ≤ 2 := by unfold chF; split <;> simp
    rw [h1, List.length_append, List.length_cons]; omega
theorem pBest_c (x : Inst) (r : Rte) (hx : InstOk x) (hl : r.visits.length ≤ 1048576) (hrl : r.rests.length ≤ 1048576) (hty : 0 ≤ r.typ ∧ r.typ < (x.types.length : Int)) (h0 : seqChk x r.visits = 0) :
    ACalls Tryz.prog 126 [.p (eInst x), .p (eRte r)] [] fun y H' => y = .tup [.p (eShe (bestV x r).1), .p (.int .i64 (bestV x r).2)] ∧ H' = [] := by
  have hd := ldOk_of hx
  have hsq := sqOk_of h0
  have hol := hd.ord
  have htl := hd.typ
  have hvl := hsq.len hol
  have hok := trpOk_of hx hty hsq
  have hsl : (stopsF x r.visits).length = r.visits.length := stopsF_len
  have hs1 : 0 < (stopsF x r.visits).length := by
    rw [hsl]
    have := hsq.ne
    cases hv : r.visits with
    | nil => exact absurd hv this
    | cons a b => simp
  refine acalls_weak [6, 13, 14] (fn := Tryz.f126) Tryz.func126 rfl isF126 ?_
  simp (disch := omega) only [Tryz.f126, go_sem, seval, reduceCtorEq, ↓reduceIte]
  by_cases hs : 0 ≤ r.start ∧ r.start ≤ 4096
  · refine useT' (plan_c x r hx hty h0 hs) ?_
    simp (disch := omega) only [go_sem, seval, reduceCtorEq, ↓reduceIte]
    refine acond_b (fun h1 => ?_) (fun h1 => ?_) <;> (try simp only [decide_eq_true_eq, decide_eq_false_iff_not] at h1) <;> simp (disch := omega) only [Sh.out h1, go_sem, seval, reduceCtorEq, ↓reduceIte]
    · have e : bestV x r = (zShe, 2) := by rw [bestV, if_neg (by omega)]
      rw [e]
      exact ⟨_, _, Weak.mk (by simp (disch := omega) only [zShe, List.map_nil, go_sem, seval, reduceCtorEq, ↓reduceIte]), rfl, rfl⟩
    · have hrs : r.rests.length ≤ r.visits.length + 1 := by omega
      have e : bestV x r = bestR x r := by rw [bestV, if_pos ⟨hs.1, hs.2, hrs⟩]
      have hbn := @best_none2 x (typR x r) (stopsF x r.visits) r.start r.rests (by rw [hsl]; exact hrs)
      rw [e, bestR, bestF_labels (by rw [hsl]; exact hrs)]
      refine (begin_l_c x (typR x r) r false (stopsF x r.visits)).use ?_
      simp (disch := omega) only [go_sem, seval, reduceCtorEq, ↓reduceIte]
      generalize hT : typR x r = t at *
      generalize hS : stopsF x r.visits = sp at *
      refine awp_weak (Weak.fz (o := 4) (by rfl)) ?_
      refine awp_sound [13, 14] _ _ _ _ ?_
      simp (disch := omega) only [List.map_cons, List.map_nil, List.set_cons_succ, List.set_cons_zero, go_sem, seval, reduceCtorEq, ↓reduceIte]
      refine awp_forC [13, 14] [3, 4, 6, 8, 38] (fun q : Nat × List Lab => [(9, .p (.list false (q.2.map eLab))), (39, .p (.int .i64 q.1))]) (fun _ => [instO x, rteO r, .cells [.p (.bool false), .p (.int .i64 0), .p (.list true []), .p (.int .i64 0), .p (.int .i64 0)], trpO x t r false sp, .dead])
        (fun q => q.1 ≤ sp.length + 1 ∧ iterL beatsF (nxtO x t sp) (chF r.rests) (sp.length + 1) 0 [labF t r.start] = iterL beatsF (nxtO x t sp) (chF r.rests) (sp.length + 1 - q.1) q.1 q.2 ∧ (∀ L ∈ q.2, LabO sp.length q.1 L) ∧ q.2.length ≤ 2 ^ q.1) (fun q => sp.length + 1 - q.1) (0, [labF t r.start]) ⟨by simp, by simp, fun L hL => by simp at hL; subst hL; exact labO_zero hok hs, by simp⟩ (Weak.mk ?_) ?_
      · simp (disch := omega) only [instO, rteO, trpO, List.map_cons, List.map_nil, List.set_cons_succ, List.set_cons_zero, List.cons_append, List.nil_append, go_sem, seval, reduceCtorEq, ↓reduceIte]
      · rintro ⟨k, l⟩ ⟨hk, hit, hlo, hll⟩
        simp only at hk hit hlo hll
        simp (disch := omega) only [instO, rteO, trpO, go_sem, seval, reduceCtorEq, ↓reduceIte]
        refine acond_b (fun h2 => ?_) (fun h2 => ?_) <;> (try simp only [decide_eq_true_eq, decide_eq_false_iff_not] at h2) <;> simp (disch := omega) only [Sh.out h2, go_sem, seval, reduceCtorEq, ↓reduceIte]
        · have hk2 : k ≤ sp.length := by omega
          have hp20 : 2 ^ k ≤ 2 ^ 20 := Nat.pow_le_pow_right (by omega) (by omega)
          refine (grow_c x t r false sp hok hs1 k hk2 hrl l false (by omega) hlo).use ?_
          simp (disch := omega) only [go_sem, seval, reduceCtorEq, ↓reduceIte]
          have hn : iterL beatsF (nxtO x t sp) (chF r.rests) (sp.length + 1 - k) k l = iterL beatsF (nxtO x t sp) (chF r.rests) (sp.length + 1 - (k + 1)) (k + 1) (pruneL beatsF [] (candL (nxtO x t sp) (chF r.rests) k l)) := by
            have e : sp.length + 1 - k = (sp.length + 1 - (k + 1)) + 1 := by omega
            rw [e, iterL]
          have hln := prune_len (candL (nxtO x t sp) (chF r.rests) k l) []
          have hln2 := candL_len (x := x) (t := t) (sp := sp) (r := r.rests) (k := k) l
          exact ⟨(k + 1, pruneL beatsF [] (candL (nxtO x t sp) (chF r.rests) k l)), ⟨by simp only; omega, hit.trans hn, candL_ok hok hs1 hk2 hlo, by simp at hln; simp only [Nat.pow_succ]; omega⟩, by simp only; omega, Weak.mk (by simp (disch := omega) only [instO, rteO, trpO, List.set_cons_succ, List.set_cons_zero, go_sem, seval, reduceCtorEq, ↓reduceIte])⟩
        · have hkn : k = sp.length + 1 := by omega
          subst hkn
          rw [Nat.sub_self, iterL] at hit
          rw [hit] at hbn ⊢
          clear hit
          refine acond_b (fun h3 => ?_) (fun h3 => ?_) <;> (try simp only [decide_eq_true_eq, decide_eq_false_iff_not] at h3) <;> simp (disch := omega) only [Sh.out h3, go_sem, seval, reduceCtorEq, ↓reduceIte]
          · have hl0 : l = [] := List.eq_nil_of_length_eq_zero (by omega)
            subst hl0
            have hbn := hbn rfl
            refine awp_seq (awp_opS 3 rfl rfl ?_)
            simp (disch := omega) only [go_sem, seval, reduceCtorEq, ↓reduceIte]
            refine ⟨_, _, ops_copy (e := 4) rfl Tryz.underlying53 (by kernel_rfl) rfl rfl rfl ?_ ?_ ?_, ?_⟩
            · simp
            · simp; omega
            · intro q hq
              obtain ⟨b, _, rfl⟩ := List.mem_map.1 hq
              rfl
            · have hpl : (padR r.rests (sp.length + 1)).length = sp.length + 1 := by simp [padR]; omega
              have hpad : r.rests.map eB ++ (PV.bool false :: List.replicate r.visits.length (PV.bool false)).drop (r.rests.map eB).length = (padR r.rests (sp.length + 1)).map eB := by
                rw [padR, List.map_append, ← List.replicate_succ, List.drop_replicate, List.map_replicate, hsl, List.length_map]; rfl
              have hcr := run_c x t r false sp hok hs1 hs (padR r.rests (sp.length + 1)) false hpl
              have hbad := runF_bad _ _ _ hbn
              rw [hbad] at hcr
              simp only [List.set_cons_succ, List.set_cons_zero]
              rw [hpad]
              generalize hRP : padR r.rests (sp.length + 1) = rp at *
              refine awp_weak (Weak.fz (o := 5) (by rfl)) ?_
              refine awp_sound [] _ _ _ _ ?_
              simp (disch := omega) only [List.map_cons, List.map_nil, List.set_cons_succ, List.set_cons_zero, go_sem, seval, reduceCtorEq, ↓reduceIte]
              rw [if_pos (by omega)]
              refine useT' hcr ?_
              simp (disch := omega) only [go_sem, seval, reduceCtorEq, ↓reduceIte]
              have hfm0 : fmL finF none ([] : List Lab) = none := rfl
              rw [hfm0]
              exact ⟨_, _, Weak.mk (by simp (disch := omega) only [zLab, zShe, List.map_nil, go_sem, seval, reduceCtorEq, ↓reduceIte]), rfl, rfl⟩
          · cases l with
            | nil => simp at h3
            | cons l0 l =>
              have e0 : elt ((l0 :: l).map eLab) 0 = eLab l0 := rfl
              have hn0 : nth (l0 :: l) 0 = l0 := rfl
              simp (disch := first | omega | (simp only [List.length_cons, List.length_nil, List.length_append, List.length_map, List.length_take, List.length_drop] <;> omega)) only [e0, hn0, List.take_length, go_sem, seval, reduceCtorEq, ↓reduceIte]
              have hfm : fmL finF none (l0 :: l) = fmL finF (some l0) l := rfl
              rw [hfm]
              have hlen : l.length ≤ 2097152 := by
                have hp20 : 2 ^ (sp.length + 1) ≤ 2 ^ 21 := Nat.pow_le_pow_right (by omega) (by omega)
                simp at hll; omega
              refine awp_for [4, 12, 65, 66] (fun q : Nat × Lab => [(67, .p (.int .i64 q.1))]) (fun q => [instO x, rteO r, .cells [.p (.bool false), .p (.int .i64 0), .p (.list true []), .p (.int .i64 0), .p (.int .i64 0)], trpO x t r false sp, .dead, labO q.2])
                (fun q => q.1 ≤ l.length ∧ fmL finF (some l0) l = fmL finF (some q.2) (l.drop q.1)) (fun q => l.length - q.1) (0, l0) (by simp) (Weak.mk ?_) ?_
              · simp (disch := omega) only [instO, rteO, trpO, labO, List.set_cons_succ, List.set_cons_zero, hn0, go_sem, seval, reduceCtorEq, ↓reduceIte]
              · rintro ⟨i, m⟩ ⟨hi, hm⟩
                simp only at hi hm
                simp (disch := omega) only [instO, rteO, trpO, labO, List.take_length, go_sem, seval, reduceCtorEq, ↓reduceIte]
                refine acond_b (fun h4 => ?_) (fun h4 => ?_) <;> (try simp only [decide_eq_true_eq, decide_eq_false_iff_not] at h4) <;> simp (disch := omega) only [Sh.out h4, go_sem, seval, reduceCtorEq, ↓reduceIte]
                · have hi2 : i < l.length := by omega
                  have hdrop : l.drop i = nth l i :: l.drop (i + 1) := by rw [List.drop_eq_getElem_cons hi2, nth_get hi2]
                  rw [hdrop, fmL] at hm
                  refine acond_b (fun h5 => ?_) (fun h5 => ?_) <;> (try simp only [decide_eq_true_eq, decide_eq_false_iff_not] at h5) <;> simp (disch := omega) only [Sh.out h5, go_sem, seval, reduceCtorEq, ↓reduceIte]
                  · rw [if_pos (show finF (nth l i) < finF m from h5)] at hm
                    exact ⟨(i + 1, nth l i), ⟨by simp only; omega, hm⟩, by simp only; omega, Weak.mk (by simp (disch := omega) only [instO, rteO, trpO, labO, go_sem, seval, reduceCtorEq, ↓reduceIte])⟩
                  · rw [if_neg (show ¬ finF (nth l i) < finF m from h5)] at hm
                    exact ⟨(i + 1, m), ⟨by simp only; omega, hm⟩, by simp only; omega, Weak.mk (by simp (disch := omega) only [instO, rteO, trpO, labO, go_sem, seval, reduceCtorEq, ↓reduceIte])⟩
                · have hil : i = l.length := by omega
                  subst hil
                  rw [List.drop_length, fmL] at hm
                  rw [hm]
                  exact ⟨_, _, Weak.mk (by simp (disch := omega) only [go_sem, seval, reduceCtorEq, ↓reduceIte]), rfl, rfl⟩
  · have e : bestV x r = (zShe, 2) := by rw [bestV, if_neg (fun h => hs ⟨h.1, h.2.1⟩)]
    rw [e]
    refine useT' (planE_c x r hty htl hvl hs) ?_
    simp (disch := omega) only [eZtr, go_sem, seval, reduceCtorEq, ↓reduceIte]
    exact ⟨_, _, Weak.mk (by simp (disch := omega) only [zShe, List.map_nil, go_sem, seval, reduceCtorEq, ↓reduceIte]), rfl, rfl⟩
end Go.Proofs.YtcllkjiebfmjpaaGreatDoor.K
set_option linter.unusedVariables false
set_option linter.unusedSimpArgs false
namespace Go.AM
open Go.RowKit
theorem mput_eII (k v : Int) (l : List (Int × Int)) : ∃ l', mput (.int .i64 k) (.int .i64 v) (l.map eII) = l'.map eII ∧ (∀ q, mget l' q = if q = k then v else mget l q) ∧ l'.length ≤ l.length + 1 := by
  unfold mput
  rw [mfind_eII]
  cases hm : mix l k with
  | none =>
    refine ⟨l ++ [(k, v)], by simp [eII], fun q => ?_, by simp⟩
    have e1 : mix (l ++ [(k, v)]) k = some l.length := by
      unfold mix at hm ⊢
      rw [List.findIdx?_append, hm]; simp
    by_cases hq : q = k
    · subst hq; simp [mget, e1]
    · rw [if_neg hq]
      unfold mget
      have e3 : mix (l ++ [(k, v)]) q = mix l q := by
        unfold mix
        rw [List.findIdx?_append]
        cases hc : l.findIdx? (fun p => decide (q = p.1)) <;> simp [hq]
      rw [e3]
      cases hc : mix l q with
      | none => rfl
      | some i =>
        unfold mix at hc
        rw [List.findIdx?_eq_some_iff_getElem] at hc
        obtain ⟨hi, _⟩ := hc
        simp only
        rw [List.getElem?_append_left hi]
  | some i =>
    refine ⟨l.set i (k, v), by rw [List.map_set]; simp [eII], ?_, by simp⟩
    have hH : oat [.map (l.map eII)] 0 = .map (l.map eII) := rfl
    have := mstore_int (H := [.map (l.map eII)]) (o := 0) (l := l) (k := k) (i := i) (v := v) (K := fun _ _ => ∀ q, mget (l.set i (k, v)) q = if q = k then v else mget l q) hH hm fun h => h
    unfold amstore at this
    obtain ⟨u, q1, _⟩ := mix_some hm
    have e1 : (l.map eII)[i]? = some (eII (k, u)) := by rw [List.getElem?_map, q1]; rfl
    simp only [hH, Int.natCast_nonneg, if_true, Int.toNat_natCast, e1, mst] at this
    exact this
theorem mput_int {P : Program} {H : List Obj} {t : TypeId} {o : Nat} {l : List (Int × Int)} {k v : Int} {K : V → List Obj → Prop} (hT : mapT P t = some (.int .i64, some (.int .i64 0))) (hH : oat H o = .map (l.map eII))
    (h : ∀ l' : List (Int × Int), (∀ q, mget l' q = if q = k then v else mget l q) → K .junk (H.set o (.map (l'.map eII)))) : mst (amput P H t (.mp o) (.p (.int .i64 k)) (.p (.int .i64 v))) K := by
  obtain ⟨kt, et, h1, h2, h3⟩ := mapT_inv hT
  obtain ⟨l', e, hg, _⟩ := mput_eII k v l
  simp only [amput, h1, mapAt_eII h2 hH, Option.map_some, mst, e]
  exact h l' hg
end Go.AM
namespace Go.Proofs.YtcllkjiebfmjpaaGreatDoor.K
open Go Go.AM Go.Proofs
set_option maxRecDepth 8000
set_option maxHeartbeats 8000000
/-- how often an order is visited by the first k visits -/
def cntF (l : List Vis) (k : Nat) (q : Int) : Int := ((l.take k).countP fun v => decide (v.order = q) : Nat)
theorem cntF_succ {l : List Vis} {k : Nat} (h : k < l.length) (q : Int) : cntF l (k + 1) q = if q = (nth l k).order then cntF l k q + 1 else cntF l k q := by
  unfold cntF
  rw [List.take_succ_eq_append_getElem h, List.countP_append, nth_get h]
  by_cases c : l[k].order = q
  · rw [if_pos c.symm]; simp [c]
  · rw [if_neg (fun e => c e.symm)]; simp [c]
theorem cntF_rng {l : List Vis} {k : Nat} (h : k ≤ l.length) (q : Int) : 0 ≤ cntF l k q ∧ cntF l k q ≤ k := by
  unfold cntF
  have := List.countP_le_length (p := fun v : Vis => decide (v.order = q)) (l := l.take k)
  rw [List.length_take] at this
  omega
theorem cntF_first {l : List Vis} {k : Nat} : firstB l k = decide (cntF l k (nth l k).order = 0) := by
  unfold firstB cntF
  rw [Bool.eq_iff_iff]
  simp only [Bool.not_eq_true', decide_eq_true_eq]
  rw [List.any_eq_false]
  have : ((List.countP (fun v => decide (v.order = (nth l k).order)) (l.take k) : Nat) : Int) = 0 ↔ List.countP (fun v => decide (v.order = (nth l k).order)) (l.take k) = 0 := by omega
  rw [this, List.countP_eq_zero]
theorem pForeign_c (a b : Int) : ACalls Tryz.prog 192 [.p (.int .i64 a), .p (.int .i64 b)] [] fun y H' => y = .p (.bool (foreign a b)) ∧ H' = [] := by
  refine acalls_pure (fn := Tryz.f192) Tryz.func192 rfl isF192 ?_
  simp (disch := omega) only [Tryz.f192, go_sem, seval, reduceCtorEq, ↓reduceIte]
  refine aguard_t (fun h => ?_) (fun h => ?_) <;> (try simp only [decide_eq_true_eq, decide_eq_false_iff_not] at h) <;> simp (disch := omega) only [Sh.out h, go_sem, seval, reduceCtorEq, ↓reduceIte]
  · simp [foreign, h]
  · simp only [Classical.not_not] at h
    simp [foreign, h]
theorem pRoute_c (x : Inst) (r : Rte) (s : She) (hty : 0 ≤ r.typ ∧ r.typ < (x.types.length : Int)) (ho : x.orders.length ≤ 1048576) (ht : x.types.length ≤ 1048576) (hl : r.visits.length ≤ 1048576) (hv : Inr x r.visits)
    (hc : 0 ≤ (typR x r).fixed ∧ (typR x r).fixed ≤ 100000 ∧ 0 ≤ (typR x r).perMile ∧ (typR x r).perMile ≤ 100 ∧ 0 ≤ (typR x r).perTick ∧ (typR x r).perTick ≤ 100) (ho2 : 0 ≤ (typR x r).opn ∧ (typR x r).opn ≤ 4096)
    (hf : -4096 ≤ s.fin ∧ s.fin ≤ 8192) (hm : 0 ≤ s.miles ∧ s.miles ≤ 1000000) :
    ACalls Tryz.prog 127 [.p (eInst x), .p (eRte r), .p (eShe s)] [] fun y H' => y = .p (eSco (scoF x r s)) ∧ H' = [] := by
  have hti : r.typ.toNat < x.types.length := by omega
  have hT : mapT Tryz.prog 251 = some (.int .i64, some (.int .i64 0)) := by kernel_rfl
  unfold scoF
  have htd : nth x.types r.typ.toNat = typR x r := rfl
  generalize typR x r = t at *
  have e1 : ¬ r.typ < 0 := by omega
  have e2 : ¬ (x.types.length : Int) ≤ r.typ := by omega
  have p1 : 0 ≤ t.perMile * s.miles ∧ t.perMile * s.miles ≤ 100 * 1000000 := ⟨Int.mul_nonneg (by omega) (by omega), Int.mul_le_mul (by omega) (by omega) (by omega) (by omega)⟩
  have hW : -8192 ≤ s.fin - t.opn ∧ s.fin - t.opn ≤ 8192 := by omega
  have p2 : -819200 ≤ t.perTick * (s.fin - t.opn) ∧ t.perTick * (s.fin - t.opn) ≤ 819200 := by
    generalize s.fin - t.opn = w at hW
    have a1 := Int.mul_le_mul_of_nonneg_left hW.2 (show 0 ≤ t.perTick by omega)
    have a2 := Int.mul_le_mul_of_nonneg_left hW.1 (show 0 ≤ t.perTick by omega)
    omega
  have p3 : -128 ≤ (s.fin - t.opn).tdiv 64 ∧ (s.fin - t.opn).tdiv 64 ≤ 128 := by
    generalize s.fin - t.opn = w at hW
    rcases Int.le_total 0 w with h | h
    · rw [Int.tdiv_eq_ediv_of_nonneg h]; omega
    · have : w.tdiv 64 = -((-w) / 64) := by rw [← Int.tdiv_eq_ediv_of_nonneg (by omega), Int.neg_tdiv, Int.neg_neg]
      rw [this]; omega
  have p4 : 0 ≤ (s.fin - t.opn).tdiv 64 * (s.fin - t.opn).tdiv 64 ∧ (s.fin - t.opn).tdiv 64 * (s.fin - t.opn).tdiv 64 ≤ 16384 := by
    generalize (s.fin - t.opn).tdiv 64 = q at p3
    refine ⟨?_, ?_⟩
    · rcases Int.le_total 0 q with h | h
      · exact Int.mul_nonneg h h
      · exact Int.mul_nonneg_of_nonpos_of_nonpos h h
    · rcases Int.le_total 0 q with h | h
      · have := Int.mul_le_mul p3.2 p3.2 h (by omega); omega
      · have h2 : 0 ≤ -q := by omega
        have := Int.mul_le_mul (show -q ≤ 128 by omega) (show -q ≤ 128 by omega) h2 (by omega)
        rw [Int.neg_mul_neg] at this; omega
  refine acalls_pure (fn := Tryz.f127) Tryz.func127 rfl isF127 ?_
  simp (disch := omega) only [Tryz.f127, e1, e2, htd, go_sem, seval, reduceCtorEq, ↓reduceIte]
  refine awp_for [3, 4, 6, 10, 11, 59, 60] (fun q : Nat × List (Int × Int) => [(61, .p (.int .i64 q.1))]) (fun q => [instO x, rteO r, .cells [.p (.bool s.rest), .p (.int .i64 s.dep), .p (.list s.times_c (s.times.map eTim)), .p (.int .i64 s.fin), .p (.int .i64 s.miles)], scoO 0 0 0 0, typO t, scoO (t.fixed + t.perMile * s.miles + t.perTick * (s.fin - t.opn)) (chgF x r.visits r.typ q.1).1 (chgF x r.visits r.typ q.1).2 ((s.fin - t.opn).tdiv 64 * (s.fin - t.opn).tdiv 64), .map (q.2.map eII)])
    (fun q => q.1 ≤ r.visits.length ∧ ∀ n, mget q.2 n = cntF r.visits q.1 n) (fun q => r.visits.length - q.1) (0, []) ⟨by simp, fun n => rfl⟩ (Weak.mk ?_) ?_
  · simp (disch := omega) only [instO, rteO, typO, scoO, chgF, go_sem, seval, reduceCtorEq, ↓reduceIte]
  · rintro ⟨k, m⟩ ⟨hk, hmg⟩
    simp only at hk hmg
    have hch := chgF_rng (x := x) (l := r.visits) (t := r.typ) k
    simp (disch := omega) only [instO, rteO, typO, scoO, go_sem, seval, reduceCtorEq, ↓reduceIte]
    refine acond_b (fun h1 => ?_) (fun h1 => ?_) <;> (try simp only [decide_eq_true_eq, decide_eq_false_iff_not] at h1) <;> simp (disch := omega) only [Sh.out h1, go_sem, seval, reduceCtorEq, ↓reduceIte]
    · have hk2 : k < r.visits.length := by omega
      obtain ⟨v1, v2⟩ := hv _ (nth_mem hk2)
      have e3 : ¬ (nth r.visits k).order < 0 := by omega
      have e4 : ¬ (x.orders.length : Int) ≤ (nth r.visits k).order := by omega
      have v3 : (nth r.visits k).order.toNat < x.orders.length := by omega
      have hcs := cntF_succ hk2
      have hcr := cntF_rng hk (nth r.visits k).order
      have hfi := cntF_first (l := r.visits) (k := k)
      have hch2 : chgF x r.visits r.typ (k + 1) = _ := chgF.eq_2 x r.visits r.typ k
      refine look_int hT rfl ?_
      rw [hmg]
      simp (disch := omega) only [go_sem, seval, reduceCtorEq, ↓reduceIte]
      refine mput_int hT rfl fun m' hm' => ?_
      have hmg' : ∀ n, mget m' n = cntF r.visits (k + 1) n := fun n => by rw [hm', hcs, hmg]; split <;> simp_all
      simp (disch := omega) only [e3, e4, List.set_cons_succ, List.set_cons_zero, go_sem, seval, reduceCtorEq, ↓reduceIte]
      refine look_int hT rfl ?_
      rw [hm', if_pos rfl]
      simp (disch := omega) only [go_sem, seval, reduceCtorEq, ↓reduceIte]
      refine acond_b (fun h2 => ?_) (fun h2 => ?_) <;> (try simp only [decide_eq_true_eq, decide_eq_false_iff_not] at h2) <;> simp (disch := omega) only [Sh.out h2, go_sem, seval, reduceCtorEq, ↓reduceIte]
      · have h3 : ¬ firstB r.visits k = true := by rw [hfi]; simp; omega
        rw [if_neg h3] at hch2
        exact ⟨(k + 1, m'), ⟨by simp only; omega, hmg'⟩, by simp only; omega, Weak.mk (by simp (disch := omega) only [instO, rteO, typO, scoO, hch2, go_sem, seval, reduceCtorEq, ↓reduceIte])⟩
      · have h3 : firstB r.visits k = true := by rw [hfi]; simp; omega
        rw [if_pos h3] at hch2
        refine (pForeign_c (nth x.orders (nth r.visits k).order.toNat).now r.typ).use ?_
        simp (disch := omega) only [go_sem, seval, reduceCtorEq, ↓reduceIte]
        refine acond_b (fun h4 => ?_) (fun h4 => ?_) <;> (try simp only [decide_eq_true_eq, decide_eq_false_iff_not] at h4) <;> simp (disch := omega) only [Sh.out h4, go_sem, seval, reduceCtorEq, ↓reduceIte]
        · rw [if_pos h4] at hch2
          refine (pForeign_c (nth x.orders (nth r.visits k).order.toNat).last r.typ).use ?_
          simp (disch := omega) only [go_sem, seval, reduceCtorEq, ↓reduceIte]
          refine acond_b (fun h5 => ?_) (fun h5 => ?_) <;> (try simp only [decide_eq_true_eq, decide_eq_false_iff_not] at h5) <;> simp (disch := omega) only [Sh.out h5, go_sem, seval, reduceCtorEq, ↓reduceIte]
          · rw [if_pos h5] at hch2
            exact ⟨(k + 1, m'), ⟨by simp only; omega, hmg'⟩, by simp only; omega, Weak.mk (by simp (disch := omega) only [instO, rteO, typO, scoO, hch2, go_sem, seval, reduceCtorEq, ↓reduceIte])⟩
          · rw [if_neg (by rw [h5]; simp)] at hch2
            exact ⟨(k + 1, m'), ⟨by simp only; omega, hmg'⟩, by simp only; omega, Weak.mk (by simp (disch := omega) only [instO, rteO, typO, scoO, hch2, Int.add_zero, go_sem, seval, reduceCtorEq, ↓reduceIte])⟩
        · rw [if_neg (by rw [h4]; simp)] at hch2
          refine (pForeign_c (nth x.orders (nth r.visits k).order.toNat).last r.typ).use ?_
          simp (disch := omega) only [go_sem, seval, reduceCtorEq, ↓reduceIte]
          refine acond_b (fun h5 => ?_) (fun h5 => ?_) <;> (try simp only [decide_eq_true_eq, decide_eq_false_iff_not] at h5) <;> simp (disch := omega) only [Sh.out h5, go_sem, seval, reduceCtorEq, ↓reduceIte]
          · rw [if_pos h5] at hch2
            exact ⟨(k + 1, m'), ⟨by simp only; omega, hmg'⟩, by simp only; omega, Weak.mk (by simp (disch := omega) only [instO, rteO, typO, scoO, hch2, Int.add_zero, go_sem, seval, reduceCtorEq, ↓reduceIte])⟩
          · rw [if_neg (by rw [h5]; simp)] at hch2
            exact ⟨(k + 1, m'), ⟨by simp only; omega, hmg'⟩, by simp only; omega, Weak.mk (by simp (disch := omega) only [instO, rteO, typO, scoO, hch2, Int.add_zero, go_sem, seval, reduceCtorEq, ↓reduceIte])⟩
    · have hkl : k = r.visits.length := by omega
      subst hkl
      rfl
end Go.Proofs.YtcllkjiebfmjpaaGreatDoor.K
set_option linter.unusedVariables false
set_option linter.unusedSimpArgs false
namespace Go.Proofs.YtcllkjiebfmjpaaGreatDoor.K
open Go Go.AM Go.Proofs
set_option maxRecDepth 8000
set_option maxHeartbeats 8000000
@[go_sem] theorem cells_fnQ {f : FuncId} : (PV.fn f).cells = [.fn f] := Eq.trans rfl rfl
def she0 : AM.Obj := .cells [.p (.bool false), .p (.int .i64 0), .p (.list true []), .p (.int .i64 0), .p (.int .i64 0)]
theorem evaluate_c (x : Inst) (r : Rte) (hx : InstOk x) (hl : r.visits.length ≤ 1048576) (hrl : r.rests.length ≤ 1048576) : ACalls Tryz.prog 82 [.p (eInst x), .p (eRte r)] [] fun y H' => y = evalT x r ∧ H' = [] := by
  have hld := ldOk_of hx
  have htl := hld.typ
  have hol := hld.ord
  have chk := pSeq_c x r hx hl
  have htb : x.types.length ≤ 6 := by have := hx.types.1; simp only [rng, decide_eq_true_eq] at this; omega
  refine acalls_weak [] (fn := Tryz.f82) Tryz.func82 rfl isF82 ?_
  simp (disch := omega) only [Tryz.f82, go_sem, seval, reduceCtorEq, ↓reduceIte]
  refine aguard_f (fun h1 => ?_) (fun h1 => ?_) <;> (try simp only [decide_eq_true_eq, decide_eq_false_iff_not] at h1) <;> simp (disch := omega) only [Sh.out h1, go_sem, seval, reduceCtorEq, ↓reduceIte]
  · have e : ruleE x r = 2 := by rw [ruleE, if_pos (by omega)]
    rw [evalT_err (e := 2) (by rw [evalE, e]; rfl) (by omega)]
    exact ⟨_, _, Weak.mk (by simp (disch := omega) only [zShe, zSco, List.map_nil, go_sem, seval, reduceCtorEq, ↓reduceIte]), rfl, rfl⟩
  · refine acond_b (fun h2 => ?_) (fun h2 => ?_) <;> (try simp only [decide_eq_true_eq, decide_eq_false_iff_not] at h2) <;> simp (disch := omega) only [Sh.out h2, go_sem, seval, reduceCtorEq, ↓reduceIte]
    · have e : ruleE x r = 2 := by rw [ruleE, if_pos (by omega)]
      rw [evalT_err (e := 2) (by rw [evalE, e]; rfl) (by omega)]
      exact ⟨_, _, Weak.mk (by simp (disch := omega) only [zShe, zSco, List.map_nil, go_sem, seval, reduceCtorEq, ↓reduceIte]), rfl, rfl⟩
    · have hty : 0 ≤ r.typ ∧ r.typ < (x.types.length : Int) := by omega
      have hti : r.typ.toNat < x.types.length := by omega
      have hnum := typ_nums hx hti
      have htyp : nth x.types r.typ.toNat = typR x r := rfl
      rw [htyp] at hnum
      have hsk : ∀ o ∈ x.orders, o.skills < 9223372036854775808 := fun o hm => by
        obtain ⟨i, hi, rfl⟩ := List.mem_iff_getElem.1 hm
        have := (hx.orders.2 i hi).skills
        rw [nth_get hi] at this
        omega
      refine awp_for [2, 3, 4, 5, 25, 26] (fun k : Nat => [(27, .p (.int .i64 k))]) (fun _ => [instO x, rteO r, she0, scoO 0 0 0 0, .elems 1 [.fn 123, .fn 124, .fn 125]])
        (fun k => k ≤ 3 ∧ (0 < k → seqChk x r.visits = 0) ∧ (1 < k → ¬ (r.visits.any fun v => !ableB (typR x r) (nth x.orders v.order.toNat).skills) = true) ∧ (2 < k → loadB x (typR x r).cap r.visits = true)) (fun k => 3 - k) 0 ⟨by omega, by omega, by omega, by omega⟩ (Weak.mk ?_) ?_
      · simp (disch := omega) only [instO, rteO, scoO, she0, go_sem, seval, reduceCtorEq, ↓reduceIte]
      · rintro k ⟨hk, k1, k2, k3⟩
        simp (disch := omega) only [instO, rteO, scoO, she0, go_sem, seval, reduceCtorEq, ↓reduceIte]
        refine acond_b (fun h3 => ?_) (fun h3 => ?_) <;> (try simp only [decide_eq_true_eq, decide_eq_false_iff_not] at h3) <;> simp (disch := omega) only [Sh.out h3, go_sem, seval, reduceCtorEq, ↓reduceIte]
        · by_cases hk0 : k = 0
          · subst hk0
            have he : elt [PV.fn 123, PV.fn 124, PV.fn 125] 0 = PV.fn 123 := rfl
            simp (disch := first | omega | (simp only [List.length_cons, List.length_nil, List.length_append, List.length_map, List.length_take, List.length_drop] <;> omega)) only [he, go_sem, seval, reduceCtorEq, ↓reduceIte]
            refine (chk).use ?_
            simp (disch := omega) only [go_sem, seval, reduceCtorEq, ↓reduceIte]
            refine acond_b (fun h4 => ?_) (fun h4 => ?_) <;> (try simp only [decide_eq_true_eq, decide_eq_false_iff_not] at h4) <;> simp (disch := omega) only [Sh.out h4, go_sem, seval, reduceCtorEq, ↓reduceIte]
            · have e : ruleE x r = seqChk x r.visits := by rw [ruleE, if_neg (fun h => h hty), if_pos h4]
              rw [evalT_err (e := seqChk x r.visits) (by rw [evalE, e, if_neg h4]) h4]
              exact ⟨_, _, Weak.mk (by simp (disch := omega) only [zShe, zSco, List.map_nil, go_sem, seval, reduceCtorEq, ↓reduceIte]), rfl, rfl⟩
            · exact ⟨1, ⟨by omega, fun _ => by omega, by omega, by omega⟩, by omega, Weak.mk (by simp (disch := omega) only [instO, rteO, scoO, she0, go_sem, seval, reduceCtorEq, ↓reduceIte])⟩
          · have h0 := k1 (by omega)
            have hsq := sqOk_of h0
            have hr0 : ruleE x r = if (r.visits.any fun v => !ableB (typR x r) (nth x.orders v.order.toNat).skills) = true then 18 else if loadB x (typR x r).cap r.visits = false then 17 else if ¬ (0 ≤ r.start ∧ r.start ≤ 4096 ∧ r.rests.length ≤ r.visits.length + 1) then 2 else 0 := by
              rw [ruleE, if_neg (fun h => h hty), if_neg (by omega)]
            by_cases hk1 : k = 1
            · subst hk1
              have he : elt [PV.fn 123, PV.fn 124, PV.fn 125] 1 = PV.fn 124 := rfl
              simp (disch := first | omega | (simp only [List.length_cons, List.length_nil, List.length_append, List.length_map, List.length_take, List.length_drop] <;> omega)) only [he, go_sem, seval, reduceCtorEq, ↓reduceIte]
              refine (pRAble_c x r hty (fun v hv => by have := hsq.inr v hv; simp [inB, this.1, this.2]) hl htl (by omega) (by omega) hsk).use ?_
              simp (disch := omega) only [go_sem, seval, reduceCtorEq, ↓reduceIte]
              by_cases h5 : (r.visits.any fun v => !ableB (typR x r) (nth x.orders v.order.toNat).skills) = true
              · rw [if_pos h5] at hr0 ⊢
                rw [evalT_err (e := 18) (by rw [evalE, hr0]; rfl) (by omega)]
                simp (disch := omega) only [go_sem, seval, reduceCtorEq, ↓reduceIte]
                exact ⟨_, _, Weak.mk (by simp (disch := omega) only [zShe, zSco, List.map_nil, go_sem, seval, reduceCtorEq, ↓reduceIte]), rfl, rfl⟩
              · rw [if_neg h5]
                simp (disch := omega) only [go_sem, seval, reduceCtorEq, ↓reduceIte]
                exact ⟨2, ⟨by omega, fun _ => h0, fun _ => h5, by omega⟩, by omega, Weak.mk (by simp (disch := omega) only [instO, rteO, scoO, she0, go_sem, seval, reduceCtorEq, ↓reduceIte])⟩
            · have hk2 : k = 2 := by omega
              subst hk2
              have he : elt [PV.fn 123, PV.fn 124, PV.fn 125] 2 = PV.fn 125 := rfl
              simp (disch := first | omega | (simp only [List.length_cons, List.length_nil, List.length_append, List.length_map, List.length_take, List.length_drop] <;> omega)) only [he, go_sem, seval, reduceCtorEq, ↓reduceIte]
              refine (pCFits_c x r hx hl hty h0).use ?_
              simp (disch := omega) only [go_sem, seval, reduceCtorEq, ↓reduceIte]
              rw [if_neg (k2 (by omega))] at hr0
              cases h5 : loadB x (typR x r).cap r.visits with
              | false =>
                rw [if_pos h5] at hr0
                rw [evalT_err (e := 17) (by rw [evalE, hr0]; rfl) (by omega)]
                simp only [Bool.false_eq_true, if_false]
                simp (disch := omega) only [go_sem, seval, reduceCtorEq, ↓reduceIte]
                exact ⟨_, _, Weak.mk (by simp (disch := omega) only [zShe, zSco, List.map_nil, go_sem, seval, reduceCtorEq, ↓reduceIte]), rfl, rfl⟩
              | true =>
                simp only [if_true]
                simp (disch := omega) only [go_sem, seval, reduceCtorEq, ↓reduceIte]
                exact ⟨3, ⟨by omega, fun _ => h0, fun _ => k2 (by omega), fun _ => by first | exact h5 | trivial⟩, by omega, Weak.mk (by simp (disch := omega) only [instO, rteO, scoO, she0, go_sem, seval, reduceCtorEq, ↓reduceIte])⟩
        · have hk3 : k = 3 := by omega
          subst hk3
          have h0 := k1 (by omega)
          have hsq := sqOk_of h0
          have hr0 : ruleE x r = if ¬ (0 ≤ r.start ∧ r.start ≤ 4096 ∧ r.rests.length ≤ r.visits.length + 1) then 2 else 0 := by
            rw [ruleE, if_neg (fun h => h hty), if_neg (by omega), if_neg (k2 (by omega)), if_neg (by rw [k3 (by omega)]; simp)]
          have cb := pBest_c x r hx hl hrl hty h0
          have hok := trpOk_of hx hty hsq
          have hbr : bestV x r = bestR x r → (bestR x r).2 = 0 → (0 ≤ r.start ∧ r.start ≤ 4096 ∧ r.rests.length ≤ r.visits.length + 1) → (0 ≤ (bestR x r).1.fin ∧ (bestR x r).1.fin ≤ 8192) ∧ (0 ≤ (bestR x r).1.miles ∧ (bestR x r).1.miles ≤ 210000) := fun _ hz hs =>
            best_rng hok ⟨hs.1, hs.2.1⟩ (by rw [stopsF_len]; exact hs.2.2) hz
          by_cases h6 : 0 ≤ r.start ∧ r.start ≤ 4096 ∧ r.rests.length ≤ r.visits.length + 1
          · have e : ruleE x r = 0 := by rw [hr0, if_neg (fun h => h h6)]
            have ee : evalE x r = (bestR x r).2 := by rw [evalE, if_pos e]
            have eb : bestV x r = bestR x r := by rw [bestV, if_pos h6]
            have hbr := fun hz => hbr eb hz h6
            rw [eb] at cb
            have es : evalS x r = if (bestR x r).2 = 0 then (bestR x r).1 else zShe := by rw [evalS, ee]
            have ep : evalP x r = if (bestR x r).2 = 0 then scoF x r (bestR x r).1 else zSco := by rw [evalP, ee]
            unfold evalT
            rw [ee, es, ep]
            clear ee es ep eb
            generalize bestR x r = q at *
            obtain ⟨sh, eb⟩ := q
            simp only at cb hbr ⊢
            refine useT' cb ?_
            simp (disch := omega) only [go_sem, seval, reduceCtorEq, ↓reduceIte]
            refine acond_b (fun h7 => ?_) (fun h7 => ?_) <;> (try simp only [decide_eq_true_eq, decide_eq_false_iff_not] at h7) <;> simp (disch := omega) only [Sh.out h7, go_sem, seval, reduceCtorEq, ↓reduceIte]
            · exact ⟨_, _, Weak.mk (by simp (disch := omega) only [zShe, zSco, List.map_nil, go_sem, seval, reduceCtorEq, ↓reduceIte]), rfl, rfl⟩
            · have h7' : eb = 0 := by omega
              try rw [if_pos h7', if_pos h7']
              subst h7'
              obtain ⟨g1, g2⟩ := hbr rfl
              refine awp_drawnS 5 mixed (by kernel_rfl) (by kernel_rfl) ?_
              simp (disch := omega) only [go_sem, seval, reduceCtorEq, ↓reduceIte]
              refine exq_call (pRoute_c x r sh hty (by omega) htl hl hsq.inr hnum.2.2.2.1 (by omega) (by omega) (by omega)) ?_
              simp (disch := omega) only [go_sem, seval, reduceCtorEq, ↓reduceIte]
              exact ⟨_, _, Weak.mk (by simp (disch := omega) only [go_sem, seval, reduceCtorEq, ↓reduceIte]), rfl, rfl⟩
          · have e : ruleE x r = 2 := by rw [hr0, if_pos h6]
            have eb : bestV x r = (zShe, 2) := by rw [bestV, if_neg h6]
            rw [evalT_err (e := 2) (by rw [evalE, e]; rfl) (by omega)]
            rw [eb] at cb
            refine useT' cb ?_
            simp (disch := omega) only [go_sem, seval, reduceCtorEq, ↓reduceIte]
            exact ⟨_, _, Weak.mk (by simp (disch := omega) only [zShe, zSco, List.map_nil, go_sem, seval, reduceCtorEq, ↓reduceIte]), rfl, rfl⟩
/-- the working time of a route -/
def workF (x : Inst) (r : Rte) : Int := if evalE x r = 0 then (evalS x r).fin - (typR x r).opn else 0
theorem eval_typ {x : Inst} {r : Rte} (h : evalE x r = 0) : ruleE x r = 0 := by
  unfold evalE at h
  split at h
  · assumption
  · rename_i c; exact absurd h c
theorem ruleE_typ {x : Inst} {r : Rte} (h : ruleE x r = 0) : (0 ≤ r.typ ∧ r.typ < (x.types.length : Int)) ∧ seqChk x r.visits = 0 ∧ (0 ≤ r.start ∧ r.start ≤ 4096 ∧ r.rests.length ≤ r.visits.length + 1) := by
  unfold ruleE at h
  split at h
  · simp at h
  · rename_i c1
    split at h
    · rename_i c2; exact absurd h c2
    · rename_i c2
      split at h
      · simp at h
      · split at h
        · simp at h
        · split at h
          · simp at h
          · rename_i c5
            exact ⟨by omega, by omega, Classical.not_not.1 c5⟩
theorem eval_rng {x : Inst} {r : Rte} (hx : InstOk x) (h : evalE x r = 0) : (0 ≤ (evalS x r).fin ∧ (evalS x r).fin ≤ 8192) ∧ (0 ≤ (evalS x r).miles ∧ (evalS x r).miles ≤ 210000) := by
  obtain ⟨hty, h0, hs⟩ := ruleE_typ (eval_typ h)
  have e : evalS x r = (bestR x r).1 := by rw [evalS, if_pos h]
  have ee : (bestR x r).2 = 0 := by rw [evalE, if_pos (eval_typ h)] at h; exact h
  rw [e]
  exact best_rng (trpOk_of hx hty (sqOk_of h0)) ⟨hs.1, hs.2.1⟩ (by rw [stopsF_len]; exact hs.2.2) ee
theorem pWorks_c (x : Inst) (r : Rte) (hx : InstOk x) (hl : r.visits.length ≤ 1048576) (hrl : r.rests.length ≤ 1048576) : ACalls Tryz.prog 55 [.p (eInst x), .p (eRte r)] [] fun y H' => y = .tup [.p (.int .i64 (workF x r)), .p (.int .i64 (evalE x r))] ∧ H' = [] := by
  have ce := evaluate_c x r hx hl hrl
  have htb : x.types.length ≤ 6 := by have := hx.types.1; simp only [rng, decide_eq_true_eq] at this; omega
  refine acalls_weak [] (fn := Tryz.f55) Tryz.func55 rfl isF55 ?_
  simp (disch := omega) only [Tryz.f55, go_sem, seval, reduceCtorEq, ↓reduceIte]
  unfold evalT at ce
  refine useT3 ce ?_
  simp (disch := omega) only [go_sem, seval, reduceCtorEq, ↓reduceIte]
  refine acond_b (fun h1 => ?_) (fun h1 => ?_) <;> (try simp only [decide_eq_true_eq, decide_eq_false_iff_not] at h1) <;> simp (disch := omega) only [Sh.out h1, go_sem, seval, reduceCtorEq, ↓reduceIte]
  · rw [workF, if_neg h1]
    exact ⟨_, _, Weak.mk (by simp (disch := omega) only [go_sem, seval, reduceCtorEq, ↓reduceIte]), rfl, rfl⟩
  · have h0 : evalE x r = 0 := by omega
    obtain ⟨hty, _, _⟩ := ruleE_typ (eval_typ h0)
    have hti : r.typ.toNat < x.types.length := by omega
    have hnum := typ_nums hx hti
    have hg := eval_rng hx h0
    have htyp : nth x.types r.typ.toNat = typR x r := rfl
    rw [htyp] at hnum
    rw [workF, if_pos h0]
    refine awp_drawnA mixed (by kernel_rfl) (by kernel_rfl) ?_
    simp (disch := omega) only [htyp, go_sem, seval, reduceCtorEq, ↓reduceIte]
    exact ⟨_, _, Weak.mk (by simp (disch := omega) only [h0, go_sem, seval, reduceCtorEq, ↓reduceIte]), rfl, rfl⟩
end Go.Proofs.YtcllkjiebfmjpaaGreatDoor.K
set_option linter.unusedVariables false
set_option linter.unusedSimpArgs false
namespace Go.Proofs.YtcllkjiebfmjpaaGreatDoor.K
open Go Go.AM Go.Proofs
set_option maxRecDepth 8000
set_option maxHeartbeats 8000000
def plnO (p : Pln) : AM.Obj := .cells [.p (.list p.routes_c (p.routes.map eRte)), .p (.list p.unserved_c (p.unserved.map eI))]
/-- the heap in which a list of ints is sorted -/
def srtH (x : Inst) (p : Pln) (l : List Int) : List AM.Obj := [instO x, plnO p, .elems 1 (l.map eI)]
def swpL (l : List Int) (j : Nat) : List Int := (l.set j (nth l (j - 1))).set (j - 1) (nth l j)
theorem swpL_len {l : List Int} {j : Nat} : (swpL l j).length = l.length := by simp [swpL]
theorem swpL_perm {l : List Int} {j : Nat} (h : j < l.length) : (swpL l j).Perm l := by
  have h1 : j - 1 < l.length := by omega
  rw [swpL, nth_get h, nth_get h1]
  exact List.set_set_perm h h1
theorem swpL_nth {l : List Int} {j q : Nat} (hj : 0 < j) (h : j < l.length) (hq : q < l.length) : nth (swpL l j) q = if q = j then nth l (j - 1) else if q = j - 1 then nth l j else nth l q := by
  rw [nth_get (by rw [swpL_len]; exact hq)]
  simp only [swpL, List.getElem_set]
  by_cases c1 : q = j
  · subst c1
    rw [if_neg (by omega), if_pos rfl, if_pos rfl]
  · rw [if_neg c1]
    by_cases c2 : q = j - 1
    · subst c2; rw [if_pos rfl, if_pos rfl]
    · rw [if_neg (fun e => c2 e.symm), if_neg c2, if_neg (fun e => c1 e.symm), nth_get hq]
/-- what a comparison is like -/
structure CmpOk (cf : Int → Int → Int) : Prop where
  asym : ∀ a b, cf a b < 0 → ¬ cf b a < 0
  ntr : ∀ a b c, ¬ cf b a < 0 → ¬ cf c b < 0 → ¬ cf c a < 0
theorem insert_c (x : Inst) (p : Pln) (l : List Int) (g : FuncId) (cf : Int → Int → Int) (hc : CmpOk cf) (hl : l.length ≤ 1048576)
    (hg : ∀ a b : Int, ACalls Tryz.prog g [.p (.int .i64 a), .p (.int .i64 b)] [] fun y H' => y = .p (.int .i64 (cf a b)) ∧ H' = []) :
    ACalls Tryz.prog 148 [.sl 2 0 l.length l.length, .p (.int .i64 0), .p (.int .i64 l.length), .fn (.func g) [] []] (srtH x p l) fun y H' => ∃ l' : List Int, l'.Perm l ∧ l'.Pairwise (fun a b => ¬ cf b a < 0) ∧ y = .tup [] ∧ H' = srtH x p l' := by
  refine acalls_weak [] (fn := Tryz.f148) Tryz.func148 rfl isF148 ?_
  simp (disch := omega) only [Tryz.f148, go_sem, seval, reduceCtorEq, ↓reduceIte]
  refine awp_for [0, 1, 2, 3] (fun q : Nat × List Int => [(8, .p (.int .i64 q.1))]) (fun q => srtH x p q.2)
    (fun q => 1 ≤ q.1 ∧ q.2.Perm l ∧ (∀ a b, a < b → b < q.1 → b < q.2.length → ¬ cf (nth q.2 b) (nth q.2 a) < 0)) (fun q => l.length - q.1) (1, l) ⟨by omega, .refl _, fun a b h1 h2 => by omega⟩ (Weak.mk ?_) ?_
  · simp (disch := omega) only [srtH, instO, plnO, go_sem, seval, reduceCtorEq, ↓reduceIte]
  · rintro ⟨i, m⟩ ⟨hi, hp, hs⟩
    simp only at hi hp hs
    have hml := hp.length_eq
    simp (disch := omega) only [srtH, instO, plnO, go_sem, seval, reduceCtorEq, ↓reduceIte]
    refine acond_b (fun h1 => ?_) (fun h1 => ?_) <;> (try simp only [decide_eq_true_eq, decide_eq_false_iff_not] at h1) <;> simp (disch := omega) only [Sh.out h1, go_sem, seval, reduceCtorEq, ↓reduceIte]
    · have hi2 : i < m.length := by omega
      refine awp_for [0, 1, 2, 3, 8] (fun q : Nat × List Int => [(9, .p (.int .i64 q.1))]) (fun q => srtH x p q.2)
        (fun q => q.1 ≤ i ∧ q.2.Perm l ∧ (∀ a b, a < b → b ≤ i → b ≠ q.1 → ¬ cf (nth q.2 b) (nth q.2 a) < 0)) (fun q => q.1) (i, m) ⟨by simp, hp, fun a b h1 h2 h3 => hs a b h1 (by simp only at h3; omega) (by omega)⟩ (Weak.mk ?_) ?_
      · simp (disch := omega) only [srtH, instO, plnO, go_sem, seval, reduceCtorEq, ↓reduceIte]
      · clear hp hs hml hi2
        rintro ⟨j, m⟩ ⟨hj, hp, hs⟩
        simp only at hj hp hs
        have hml := hp.length_eq
        have hj2 : j < m.length := by omega
        simp (disch := omega) only [srtH, instO, plnO, go_sem, seval, reduceCtorEq, ↓reduceIte]
        refine awp_drawnA mixed (by kernel_rfl) (by kernel_rfl) ?_
        simp (disch := omega) only [go_sem, seval, reduceCtorEq, ↓reduceIte]
        have e1 : ((j : Int) - 1).toNat = j - 1 := by omega
        refine aguard_t (fun h2 => ?_) (fun h2 => ?_) <;> (try simp only [decide_eq_true_eq, decide_eq_false_iff_not] at h2) <;> simp (disch := omega) only [Sh.out h2, go_sem, seval, reduceCtorEq, ↓reduceIte]
        · have he1 : elt (m.map eI) j = eI (nth m j) := elt_map hj2
          have he2 : elt (m.map eI) (j - 1) = eI (nth m (j - 1)) := elt_map (by omega)
          have hj3 : j < l.length := by omega
          have hj4 : j - 1 < l.length := by omega
          simp (disch := first | omega | (simp only [List.length_cons, List.length_nil, List.length_append, List.length_map, List.length_take, List.length_drop] <;> omega)) only [e1, he1, he2, hml, hj3, hj4, eq_self, true_and, if_true, go_sem, seval, reduceCtorEq, ↓reduceIte]
          refine exq_call (hg (nth m j) (nth m (j - 1))) ?_
          simp (disch := omega) only [go_sem, seval, reduceCtorEq, ↓reduceIte]
          refine acond_b (fun h3 => ?_) (fun h3 => ?_) <;> (try simp only [decide_eq_true_eq, decide_eq_false_iff_not] at h3) <;> simp (disch := omega) only [Sh.out h3, go_sem, seval, reduceCtorEq, ↓reduceIte]
          · refine awp_drawnH [15] 16 mixed (by kernel_rfl) (by kernel_rfl) (by kernel_rfl) (by kernel_rfl) (by simp) ?_
            simp (disch := first | omega | (simp only [List.length_cons, List.length_nil, List.length_append, List.length_map, List.length_take, List.length_drop] <;> omega)) only [e1, he1, he2, hml, hj3, hj4, eq_self, true_and, if_true, go_sem, seval, reduceCtorEq, ↓reduceIte]
            have hset1 : (m.map eI).set j (.int .i64 (nth m (j - 1))) = (m.set j (nth m (j - 1))).map eI := by rw [List.map_set]; rfl
            have hl1 : (m.set j (nth m (j - 1))).length = l.length := by simp [hml]
            refine lateH_one 15 _ _ (by kernel_rfl) (by simp (disch := first | omega | (simp only [List.length_cons, List.length_nil, List.length_append, List.length_map, List.length_take, List.length_drop] <;> omega)) only [e1, he1, he2, hml, hj3, hj4, eq_self, true_and, if_true, hset1, go_sem, seval, reduceCtorEq, ↓reduceIte]; exact ⟨rfl, rfl⟩) (lateH_z ?_)
            generalize hm1 : m.set j (nth m (j - 1)) = m1 at *
            have he3 : elt (m1.map eI) (j - 1) = eI (nth m1 (j - 1)) := elt_map (by omega)
            have hset2 : (m1.map eI).set (j - 1) (.int .i64 (nth m j)) = (swpL m j).map eI := by rw [swpL, hm1, List.map_set]; rfl
            simp (disch := first | omega | (simp only [List.length_cons, List.length_nil, List.length_append, List.length_map, List.length_take, List.length_drop] <;> omega)) only [e1, he3, hl1, hj4, eq_self, true_and, if_true, hset2, go_sem, seval, reduceCtorEq, ↓reduceIte]
            have hsl := swpL_len (l := m) (j := j)
            have hsw := fun q => swpL_nth (l := m) (j := j) (q := q) (by omega) hj2
            refine ⟨(j - 1, swpL m j), ⟨by simp only; omega, (swpL_perm hj2).trans hp, fun a b h4 h5 h6 => ?_⟩, by simp only; omega, Weak.mk (by simp (disch := omega) only [srtH, instO, plnO, show ((j - 1 : Nat) : Int) = (j : Int) - 1 by omega, go_sem, seval, reduceCtorEq, ↓reduceIte])⟩
            simp only at h6 ⊢
            rw [hsw b (by omega), hsw a (by omega)]
            by_cases c1 : b = j
            · rw [if_pos c1]
              subst c1
              rw [if_neg (by omega)]
              by_cases c2 : a = b - 1
              · rw [if_pos c2]; exact hc.asym _ _ h3
              · rw [if_neg c2]; exact hs a (b - 1) (by omega) (by omega) (by omega)
            · rw [if_neg c1, if_neg h6]
              by_cases c2 : a = j
              · rw [if_pos c2]; exact hs (j - 1) b (by omega) h5 c1
              · rw [if_neg c2]
                by_cases c3 : a = j - 1
                · rw [if_pos c3]; exact hs j b (by omega) h5 c1
                · rw [if_neg c3]; exact hs a b h4 h5 c1
          · exact ⟨(i + 1, m), ⟨by simp only; omega, hp, fun a b h4 h5 h6 => by
              simp only at h5 ⊢
              by_cases c1 : b = j
              · subst c1
                by_cases c2 : a = b - 1
                · rw [c2]; exact h3
                · exact hc.ntr _ _ _ (hs a (b - 1) (by omega) (by omega) (by omega)) h3
              · exact hs a b h4 (by omega) c1⟩, by simp only; omega, Weak.mk (by simp (disch := omega) only [srtH, instO, plnO, go_sem, seval, reduceCtorEq, ↓reduceIte])⟩
        · have hj0 : j = 0 := by omega
          subst hj0
          exact ⟨(i + 1, m), ⟨by simp only; omega, hp, fun a b h4 h5 h6 => hs a b h4 (by simp only at h5; omega) (by omega)⟩, by simp only; omega, Weak.mk (by simp (disch := omega) only [srtH, instO, plnO, go_sem, seval, reduceCtorEq, ↓reduceIte])⟩
    · refine ⟨.tup [], srtH x p m, Weak.mk (by simp (disch := omega) only [srtH, instO, plnO, go_sem, seval, reduceCtorEq, ↓reduceIte]), m, hp, ?_, rfl, rfl⟩
      rw [List.pairwise_iff_getElem]
      intro a b ha hb hab
      have := hs a b hab (by omega) hb
      rwa [nth_get ha, nth_get hb] at this
end Go.Proofs.YtcllkjiebfmjpaaGreatDoor.K
set_option linter.unusedVariables false
set_option linter.unusedSimpArgs false
namespace Go.Proofs.YtcllkjiebfmjpaaGreatDoor.K
open Go Go.AM Go.Proofs
set_option maxRecDepth 8000
set_option maxHeartbeats 8000000
theorem len64_c (n : Nat) (hn : n ≤ 255) : ACalls Tryz.prog 157 [.p (.int .u64 (n : Int))] [] fun y H' => ∃ k : Int, True ∧ y = .p (eI k) ∧ H' = [] := by
  refine acalls_weak [] (fn := Tryz.f157) Tryz.func157 rfl isF157 ?_
  have e1 : ¬ (4294967296 : Int) ≤ n := by omega
  have e2 : ¬ (65536 : Int) ≤ n := by omega
  have e3 : ¬ (256 : Int) ≤ n := by omega
  simp (disch := omega) only [Tryz.f157, e1, e2, e3, go_sem, seval, reduceCtorEq, ↓reduceIte]
  rw [aidxB_str (by omega) (by simp only [List.length_cons, List.length_nil]; omega)]
  generalize nth (α := UInt8) _ (n : Int).toNat = v
  have hv := UInt8.toNat_lt v
  simp (disch := omega) only [go_sem, seval, reduceCtorEq, ↓reduceIte]
  exact ⟨.p (.int .i64 (0 + (v.toNat : Int))), [], Weak.mk (by simp (disch := omega) only [go_sem, seval, reduceCtorEq, ↓reduceIte]), _, rfl, rfl⟩
theorem pdq_c (x : Inst) (p : Pln) (l : List Int) (g : FuncId) (cf : Int → Int → Int) (hc : CmpOk cf) (hl : l.length ≤ 12) (lim : Int)
    (hg : ∀ a b : Int, ACalls Tryz.prog g [.p (.int .i64 a), .p (.int .i64 b)] [] fun y H' => y = .p (.int .i64 (cf a b)) ∧ H' = []) :
    ACalls Tryz.prog 102 [.sl 2 0 l.length l.length, .p (.int .i64 0), .p (.int .i64 l.length), .p (.int .i64 lim), .fn (.func g) [] []] (srtH x p l) fun y H' => ∃ l' : List Int, l'.Perm l ∧ l'.Pairwise (fun a b => ¬ cf b a < 0) ∧ y = .tup [] ∧ H' = srtH x p l' := by
  refine acalls_weak [] (fn := Tryz.f102) Tryz.func102 rfl isF102 ?_
  simp (disch := omega) only [Tryz.f102, go_sem, seval, reduceCtorEq, ↓reduceIte]
  refine awp_for [0, 4] (fun _ : Unit => [(1, .p (.int .i64 0)), (2, .p (.int .i64 l.length)), (3, .p (.int .i64 lim)), (10, .p (.bool true)), (11, .p (.bool true))]) (fun _ => srtH x p l) (fun _ => True) (fun _ => 0) () trivial (Weak.mk ?_) ?_
  · simp (disch := omega) only [srtH, instO, plnO, go_sem, seval, reduceCtorEq, ↓reduceIte]
  · intro _ _
    have e1 : (l.length : Int) ≤ 12 := by omega
    simp (disch := omega) only [srtH, instO, plnO, e1, go_sem, seval, reduceCtorEq, ↓reduceIte]
    have hi := insert_c x p l g cf hc (by omega) hg
    simp (disch := omega) only [srtH, instO, plnO, go_sem, seval, reduceCtorEq, ↓reduceIte] at hi
    refine acond_b (fun h1 => ?_) (fun h1 => ?_) <;> (try simp only [decide_eq_true_eq, decide_eq_false_iff_not] at h1) <;> simp (disch := omega) only [Sh.out h1, go_sem, seval, reduceCtorEq, ↓reduceIte]
    · refine hi.mono ?_
      rintro y H' ⟨l', hp, hs, rfl, rfl⟩
      simp (disch := omega) only [go_sem, seval, reduceCtorEq, ↓reduceIte]
      exact ⟨.tup [], srtH x p l', Weak.mk (by simp (disch := omega) only [srtH, instO, plnO, go_sem, seval, reduceCtorEq, ↓reduceIte]), l', hp, hs, rfl, rfl⟩
    · omega
theorem len_c (n : Nat) (hn : n ≤ 255) : ACalls Tryz.prog 103 [.p (.int .u64 (n : Int))] [] fun y H' => ∃ k : Int, True ∧ y = .p (eI k) ∧ H' = [] := by
  refine acalls_weak [] (fn := Tryz.f103) Tryz.func103 rfl isF103 ?_
  simp (disch := omega) only [Tryz.f103, go_sem, seval, reduceCtorEq, ↓reduceIte]
  refine (len64_c n hn).useV fun a ha => ?_
  simp (disch := omega) only [go_sem, seval, reduceCtorEq, ↓reduceIte]
  exact ⟨.p (.int .i64 a), [], Weak.mk (by simp (disch := omega) only [go_sem, seval, reduceCtorEq, ↓reduceIte]), a, rfl, rfl⟩
theorem sortI_c (x : Inst) (p : Pln) (l : List Int) (g : FuncId) (cf : Int → Int → Int) (hc : CmpOk cf) (hl : l.length ≤ 12)
    (hg : ∀ a b : Int, ACalls Tryz.prog g [.p (.int .i64 a), .p (.int .i64 b)] [] fun y H' => y = .p (.int .i64 (cf a b)) ∧ H' = []) :
    ACalls Tryz.prog 56 [.sl 2 0 l.length l.length, .fn (.func g) [] []] (srtH x p l) fun y H' => ∃ l' : List Int, l'.Perm l ∧ l'.Pairwise (fun a b => ¬ cf b a < 0) ∧ y = .tup [] ∧ H' = srtH x p l' := by
  refine acalls_weak [] (fn := Tryz.f56) Tryz.func56 rfl isF56 ?_
  simp (disch := omega) only [Tryz.f56, srtH, instO, plnO, go_sem, seval, reduceCtorEq, ↓reduceIte]
  refine (len_c l.length (by omega)).useV fun a ha => ?_
  simp (disch := omega) only [go_sem, seval, reduceCtorEq, ↓reduceIte]
  have hi := pdq_c x p l g cf hc hl a hg
  simp (disch := omega) only [srtH, instO, plnO, go_sem, seval, reduceCtorEq, ↓reduceIte] at hi
  refine hi.mono ?_
  rintro y H' ⟨l', hp, hs, rfl, rfl⟩
  simp (disch := omega) only [go_sem, seval, reduceCtorEq, ↓reduceIte]
  exact ⟨.tup [], srtH x p l', Weak.mk (by simp (disch := omega) only [srtH, instO, plnO, go_sem, seval, reduceCtorEq, ↓reduceIte]), l', hp, hs, rfl, rfl⟩
theorem worksF_c (a b : Int) : ACalls Tryz.prog 57 [.p (.int .i64 a), .p (.int .i64 b)] [] fun y H' => y = .p (.int .i64 (cmpI b a)) ∧ H' = [] := by
  refine acalls_pure (fn := Tryz.f57) Tryz.func57 rfl isF57 ?_
  simp (disch := omega) only [Tryz.f57, go_sem, seval, reduceCtorEq, ↓reduceIte]
  refine (cmp_c b a).use ?_
  simp (disch := omega) only [go_sem, seval, reduceCtorEq, ↓reduceIte]
theorem cmpI_ok : CmpOk fun a b => cmpI b a := ⟨fun a b => by unfold cmpI; split <;> split <;> omega, fun a b c => by unfold cmpI; split <;> split <;> split <;> omega⟩
/-- the first error of routes -/
def errR (x : Inst) : List Rte → Int
  | [] => 0
  | r :: l => if evalE x r = 0 then errR x l else evalE x r
/-- put into a descending list -/
def insD : Int → List Int → List Int
  | n, [] => [n]
  | n, a :: l => if n ≤ a then a :: insD n l else n :: a :: l
def srtD : List Int → List Int → List Int
  | o, [] => o
  | o, n :: l => srtD (insD n o) l
theorem insD_perm (n : Int) : ∀ l, (insD n l).Perm (n :: l)
  | [] => .refl _
  | a :: l => by
    rw [insD]
    split
    · exact ((insD_perm n l).cons a).trans (List.Perm.swap n a l)
    · exact .refl _
theorem insD_srt (n : Int) : ∀ l : List Int, l.Pairwise (fun a b => b ≤ a) → (insD n l).Pairwise (fun a b => b ≤ a)
  | [], _ => by simp [insD]
  | a :: l, h => by
    rw [List.pairwise_cons] at h
    rw [insD]
    split
    · rename_i c
      rw [List.pairwise_cons]
      refine ⟨fun b hb => ?_, insD_srt n l h.2⟩
      rcases List.mem_cons.1 ((insD_perm n l).mem_iff.1 hb) with rfl | hb
      · exact c
      · exact h.1 b hb
    · rename_i c
      rw [List.pairwise_cons, List.pairwise_cons]
      refine ⟨fun b hb => ?_, h.1, h.2⟩
      rcases List.mem_cons.1 hb with rfl | hb
      · omega
      · have := h.1 b hb; omega
theorem srtD_perm : ∀ (l o : List Int), (srtD o l).Perm (o ++ l)
  | [], o => by rw [srtD, List.append_nil]
  | n :: l, o => by
    rw [srtD]
    refine (srtD_perm l (insD n o)).trans ?_
    refine ((insD_perm n o).append_right l).trans ?_
    exact List.perm_middle.symm
theorem srtD_srt : ∀ (l o : List Int), o.Pairwise (fun a b => b ≤ a) → (srtD o l).Pairwise (fun a b => b ≤ a)
  | [], o, h => h
  | n :: l, o, h => srtD_srt l _ (insD_srt n o h)
theorem desc_unique : ∀ (a b : List Int), a.Perm b → a.Pairwise (fun x y => y ≤ x) → b.Pairwise (fun x y => y ≤ x) → a = b
  | [], b, h, _, _ => h.nil_eq
  | x :: a, [], h, _, _ => by have := h.length_eq; simp at this
  | x :: a, y :: b, h, ha, hb => by
    rw [List.pairwise_cons] at ha hb
    have e : x = y := by
      have h1 := h.mem_iff.1 (List.mem_cons_self (a := x) (l := a))
      have h2 := h.mem_iff.2 (List.mem_cons_self (a := y) (l := b))
      rcases List.mem_cons.1 h1 with e | h1
      · exact e
      · rcases List.mem_cons.1 h2 with e | h2
        · exact e.symm
        · have := hb.1 _ h1; have := ha.1 _ h2; omega
    subst e
    rw [desc_unique a b (List.Perm.cons_inv h) ha.2 hb.2]
theorem desc_eq {l m : List Int} (hp : m.Perm l) (hs : m.Pairwise (fun a b => ¬ (fun a b => cmpI b a) b a < 0)) : m = srtD [] l := by
  refine desc_unique m _ ?_ (hs.imp fun {a b} h => ?_) (srtD_srt l [] List.Pairwise.nil)
  · exact hp.trans (by have := srtD_perm l []; rw [List.nil_append] at this; exact this.symm)
  · simp only [cmpI] at h
    split at h
    · omega
    · omega
/-- the workload of routes -/
def wksL (x : Inst) (l : List Rte) : List Int := if errR x l = 0 then srtD [] (l.map (workF x)) else []
def rteB (r : Rte) : Prop := r.visits.length ≤ 1048576 ∧ r.rests.length ≤ 1048576
theorem errR_at {x : Inst} : ∀ {l : List Rte} {k : Nat}, k < l.length → (∀ j, j < k → evalE x (nth l j) = 0) → ¬ evalE x (nth l k) = 0 → errR x l = evalE x (nth l k)
  | r :: l, 0, _, _, h => by rw [errR, if_neg (show ¬ evalE x r = 0 from h)]; rfl
  | r :: l, k + 1, hk, h0, h => by
    rw [errR, if_pos (show evalE x r = 0 from h0 0 (by omega))]
    exact errR_at (l := l) (k := k) (by simpa using hk) (fun j hj => h0 (j + 1) (by omega)) h
theorem errR_no {x : Inst} : ∀ {l : List Rte}, (∀ j, j < l.length → evalE x (nth l j) = 0) → errR x l = 0
  | [], _ => rfl
  | r :: l, h => by
    rw [errR, if_pos (show evalE x r = 0 from h 0 (by simp))]
    exact errR_no fun j hj => h (j + 1) (by simpa using hj)
theorem pFWorks_c (x : Inst) (p : Pln) (hx : InstOk x) (hr : p.routes.length ≤ 12) (hb : ∀ r ∈ p.routes, rteB r) :
    ACalls Tryz.prog 26 [.p (eInst x), .p (ePln p)] [] fun y H' => y = .tup [.p (.list (decide ¬ errR x p.routes = 0) ((wksL x p.routes).map eI)), .p (.int .i64 (errR x p.routes))] ∧ H' = [] := by
  refine acalls_weak [11] (fn := Tryz.f26) Tryz.func26 rfl isF26 ?_
  simp (disch := omega) only [Tryz.f26, go_sem, seval, reduceCtorEq, ↓reduceIte]
  refine awp_forC [11] [2, 12, 13] (fun q : Nat × List Int => [(6, .sl 2 0 q.2.length q.2.length), (14, .p (.int .i64 q.1))]) (fun q => srtH x p q.2)
    (fun q => q.1 ≤ p.routes.length ∧ (∀ j, j < q.1 → evalE x (nth p.routes j) = 0) ∧ q.2 = (p.routes.take q.1).map (workF x)) (fun q => p.routes.length - q.1) (0, []) (by simp) (Weak.ofNil 6 1 rfl (by simp) (Weak.mk ?_)) ?_
  · simp (disch := omega) only [srtH, instO, plnO, List.map_nil, List.length_nil, go_sem, seval, reduceCtorEq, ↓reduceIte]
  · rintro ⟨k, o⟩ ⟨hk, h0, ho⟩
    simp only at hk h0 ho
    have hol : o.length = k := by rw [ho]; simp; omega
    simp (disch := omega) only [srtH, instO, plnO, go_sem, seval, reduceCtorEq, ↓reduceIte]
    refine acond_b (fun h1 => ?_) (fun h1 => ?_) <;> (try simp only [decide_eq_true_eq, decide_eq_false_iff_not] at h1) <;> simp (disch := omega) only [Sh.out h1, go_sem, seval, reduceCtorEq, ↓reduceIte]
    · have hk2 : k < p.routes.length := by omega
      obtain ⟨b1, b2⟩ := hb _ (nth_in hk2)
      refine useT' (pWorks_c x (nth p.routes k) hx b1 b2) ?_
      simp (disch := omega) only [go_sem, seval, reduceCtorEq, ↓reduceIte]
      refine acond_b (fun h2 => ?_) (fun h2 => ?_) <;> (try simp only [decide_eq_true_eq, decide_eq_false_iff_not] at h2) <;> simp (disch := omega) only [Sh.out h2, go_sem, seval, reduceCtorEq, ↓reduceIte]
      · rw [wksL, errR_at hk2 h0 h2, if_neg h2, decide_eq_true h2]
        exact ⟨_, _, Weak.mk (by simp (disch := omega) only [List.map_nil, go_sem, seval, reduceCtorEq, ↓reduceIte]), rfl, rfl⟩
      · exact ⟨(k + 1, o ++ [workF x (nth p.routes k)]), ⟨by simp only; omega, upto_iff.2 ⟨h0, by omega⟩, by simp only; rw [ho, List.take_succ_eq_append_getElem hk2, List.map_append, nth_get hk2]; rfl⟩, by simp only; omega, Weak.mk (by simp (disch := omega) only [srtH, instO, plnO, List.length_append, List.length_cons, List.length_nil, List.map_append, List.map_cons, List.map_nil, go_sem, seval, reduceCtorEq, ↓reduceIte])⟩
    · have hkl : k = p.routes.length := by omega
      subst hkl
      rw [List.take_length] at ho
      have he := errR_no h0
      rw [wksL, he, if_pos rfl, ← ho]
      have hi := sortI_c x p o 57 (fun a b => cmpI b a) cmpI_ok (by omega) worksF_c
      simp (disch := omega) only [srtH, instO, plnO, go_sem, seval, reduceCtorEq, ↓reduceIte] at hi
      refine hi.mono ?_
      rintro y H' ⟨l', hp, hs, rfl, rfl⟩
      simp (disch := omega) only [go_sem, seval, reduceCtorEq, ↓reduceIte]
      have hl' := desc_eq hp hs
      have hll := hp.length_eq
      refine awp_weak (Weak.fz (o := 2) (by rfl)) ?_
      refine awp_sound [] _ _ _ _ ?_
      simp (disch := omega) only [List.map_cons, List.map_nil, List.set_cons_succ, List.set_cons_zero, go_sem, seval, reduceCtorEq, ↓reduceIte]
      rw [if_pos hll, hl']
      exact ⟨_, _, Weak.mk (by simp (disch := omega) only [show decide (¬ (0 : Int) = 0) = false from rfl, go_sem, seval, reduceCtorEq, ↓reduceIte]), rfl, rfl⟩
end Go.Proofs.YtcllkjiebfmjpaaGreatDoor.K
set_option linter.unusedVariables false
set_option linter.unusedSimpArgs false
namespace Go.Proofs.YtcllkjiebfmjpaaGreatDoor.K
open Go Go.AM Go.Proofs
set_option maxRecDepth 8000
set_option maxHeartbeats 8000000
theorem works21_c (x : Inst) (r : Rte) (hx : InstOk x) (hl : r.visits.length ≤ 1048576) (hrl : r.rests.length ≤ 1048576) : ACalls Tryz.prog 59 [.p (eInst x), .p (eRte r)] [] fun y H' => y = .tup [.p (.int .i64 (workF x r)), .p (.int .i64 (evalE x r))] ∧ H' = [] := by
  have ce := evaluate21_c x r hx hl hrl
  have htb : x.types.length ≤ 6 := by have := hx.types.1; simp only [rng, decide_eq_true_eq] at this; omega
  refine acalls_weak [] (fn := Tryz.f59) Tryz.func59 rfl isF59 ?_
  simp (disch := omega) only [Tryz.f59, go_sem, seval, reduceCtorEq, ↓reduceIte]
  unfold evalT at ce
  refine useT3 ce ?_
  simp (disch := omega) only [go_sem, seval, reduceCtorEq, ↓reduceIte]
  refine acond_b (fun h1 => ?_) (fun h1 => ?_) <;> (try simp only [decide_eq_true_eq, decide_eq_false_iff_not] at h1) <;> simp (disch := omega) only [Sh.out h1, go_sem, seval, reduceCtorEq, ↓reduceIte]
  · rw [workF, if_neg h1]
    exact ⟨_, _, Weak.mk (by simp (disch := omega) only [go_sem, seval, reduceCtorEq, ↓reduceIte]), rfl, rfl⟩
  · have h0 : evalE x r = 0 := by omega
    obtain ⟨hty, _, _⟩ := ruleE_typ (eval_typ h0)
    have hti : r.typ.toNat < x.types.length := by omega
    have hnum := typ_nums hx hti
    have hg := eval_rng hx h0
    have htyp : nth x.types r.typ.toNat = typR x r := rfl
    rw [htyp] at hnum
    rw [workF, if_pos h0]
    refine awp_drawnA mixed (by kernel_rfl) (by kernel_rfl) ?_
    simp (disch := omega) only [htyp, go_sem, seval, reduceCtorEq, ↓reduceIte]
    exact ⟨_, _, Weak.mk (by simp (disch := omega) only [h0, go_sem, seval, reduceCtorEq, ↓reduceIte]), rfl, rfl⟩
theorem insD_split (n : Int) : ∀ (o : List Int) (j : Nat), j ≤ o.length → (∀ i, i < j → n ≤ nth o i) → (j < o.length → ¬ n ≤ nth o j) → insD n o = o.take j ++ n :: o.drop j
  | [], j, h, _, _ => by have : j = 0 := by simpa using h
                         subst this; rfl
  | a :: o, 0, _, _, h3 => by
    rw [insD, if_neg (show ¬ n ≤ a from h3 (by simp))]; rfl
  | a :: o, j + 1, h1, h2, h3 => by
    rw [insD, if_pos (show n ≤ a from h2 0 (by omega)), insD_split n o j (by simpa using h1) (fun i hi => h2 (i + 1) (by omega)) (fun h => h3 (by simpa using h))]
    rfl
theorem srtD_snoc (n : Int) : ∀ (l o : List Int), srtD o (l ++ [n]) = insD n (srtD o l)
  | [], o => rfl
  | a :: l, o => by rw [List.cons_append, srtD, srtD, srtD_snoc n l]
def clR (x : Inst) (l : List Rte) : Bool := if errR x l = 0 then decide (l.length = 0) else true
theorem rWorks_c (x : Inst) (p : Pln) (hx : InstOk x) (hr : p.routes.length ≤ 1000) (hb : ∀ r ∈ p.routes, rteB r) :
    ACalls Tryz.prog 27 [.p (eInst x), .p (ePln p)] [] fun y H' => y = .tup [.p (.list (clR x p.routes) ((wksL x p.routes).map eI)), .p (.int .i64 (errR x p.routes))] ∧ H' = [] := by
  refine acalls_weak [15] (fn := Tryz.f27) Tryz.func27 rfl isF27 ?_
  simp (disch := omega) only [Tryz.f27, go_sem, seval, reduceCtorEq, ↓reduceIte]
  refine awp_forC [15] [2, 3] (fun q : Nat × Bool × List Int => [(6, .p (.list q.2.1 (q.2.2.map eI))), (7, .p (.int .i64 q.1))]) (fun q => [instO x, plnO p])
    (fun q => q.1 ≤ p.routes.length ∧ (∀ j, j < q.1 → evalE x (nth p.routes j) = 0) ∧ q.2.2 = srtD [] ((p.routes.take q.1).map (workF x)) ∧ q.2.1 = decide (q.1 = 0)) (fun q => p.routes.length - q.1) (0, true, []) (by simp [srtD]) (Weak.mk ?_) ?_
  · simp (disch := omega) only [instO, plnO, List.map_nil, go_sem, seval, reduceCtorEq, ↓reduceIte]
  · rintro ⟨k, c, o⟩ ⟨hk, h0, ho, hc⟩
    simp only at hk h0 ho hc
    have hol : o.length = k := by rw [ho]; have := (srtD_perm ((p.routes.take k).map (workF x)) []).length_eq; rw [this]; simp; omega
    simp (disch := omega) only [instO, plnO, go_sem, seval, reduceCtorEq, ↓reduceIte]
    refine acond_b (fun h1 => ?_) (fun h1 => ?_) <;> (try simp only [decide_eq_true_eq, decide_eq_false_iff_not] at h1) <;> simp (disch := omega) only [Sh.out h1, go_sem, seval, reduceCtorEq, ↓reduceIte]
    · have hk2 : k < p.routes.length := by omega
      obtain ⟨b1, b2⟩ := hb _ (nth_in hk2)
      refine awp_drawnA mixed (by kernel_rfl) (by kernel_rfl) ?_
      simp (disch := omega) only [go_sem, seval, reduceCtorEq, ↓reduceIte]
      refine exq_callT (works21_c x (nth p.routes k) hx b1 b2) ?_
      simp (disch := omega) only [go_sem, seval, reduceCtorEq, ↓reduceIte]
      refine acond_b (fun h2 => ?_) (fun h2 => ?_) <;> (try simp only [decide_eq_true_eq, decide_eq_false_iff_not] at h2) <;> simp (disch := omega) only [Sh.out h2, go_sem, seval, reduceCtorEq, ↓reduceIte]
      · rw [wksL, clR, errR_at hk2 h0 h2, if_neg h2, if_neg h2]
        exact ⟨_, _, Weak.mk (by simp (disch := omega) only [List.map_nil, go_sem, seval, reduceCtorEq, ↓reduceIte]), rfl, rfl⟩
      · have h2' : evalE x (nth p.routes k) = 0 := by omega
        have hsn : insD (workF x (nth p.routes k)) o = srtD [] ((p.routes.take (k + 1)).map (workF x)) := by
          rw [List.take_succ_eq_append_getElem hk2, List.map_append, ← nth_get hk2]
          rw [show List.map (workF x) [nth p.routes k] = [workF x (nth p.routes k)] from rfl, srtD_snoc, ← ho]
        generalize workF x (nth p.routes k) = n at hsn ⊢
        refine awp_forC [15] [2, 3, 6, 7, 8] (fun q : Nat × List Int => [(10, .sl 2 0 q.2.length q.2.length), (11, .p (.int .i64 q.1))]) (fun q => [instO x, plnO p, .elems 1 (q.2.map eI)])
          (fun q => q.1 ≤ o.length ∧ q.2 = o.take q.1 ∧ ∀ i, i < q.1 → n ≤ nth o i) (fun q => o.length - q.1) (0, []) (by simp) (Weak.ofNil 10 1 rfl (by simp) (Weak.mk ?_)) ?_
        · simp (disch := omega) only [instO, plnO, List.map_nil, List.length_nil, go_sem, seval, reduceCtorEq, ↓reduceIte]
        · rintro ⟨j, m⟩ ⟨hj, hm, hn⟩
          simp only at hj hm hn
          have hml : m.length = j := by rw [hm]; simp; omega
          have fin : (j < o.length → ¬ n ≤ nth o j) → insD n o = (m ++ [n]) ++ o.drop j := fun h => by
            rw [insD_split n o j hj hn h, hm]; simp
          have hdl : (o.drop j).length = o.length - j := by simp
          have hj3 : (m.map eI ++ [PV.int .i64 n]) ++ (o.drop j).map eI = ((m ++ [n]) ++ o.drop j).map eI := by simp [eI]
          simp (disch := omega) only [instO, plnO, go_sem, seval, reduceCtorEq, ↓reduceIte]
          refine aguard_t (fun h3 => ?_) (fun h3 => ?_) <;> (try simp only [decide_eq_true_eq, decide_eq_false_iff_not] at h3) <;> simp (disch := omega) only [Sh.out h3, go_sem, seval, reduceCtorEq, ↓reduceIte]
          · have hj2 : j < o.length := by omega
            refine acond_b (fun h4 => ?_) (fun h4 => ?_) <;> (try simp only [decide_eq_true_eq, decide_eq_false_iff_not] at h4) <;> simp (disch := omega) only [Sh.out h4, go_sem, seval, reduceCtorEq, ↓reduceIte]
            · exact ⟨(j + 1, m ++ [nth o j]), ⟨by simp only; omega, by simp only; rw [hm, List.take_succ_eq_append_getElem hj2, nth_get hj2], upto_iff.2 ⟨hn, h4⟩⟩, by simp only; omega, Weak.mk (by simp (disch := omega) only [instO, plnO, List.length_append, List.length_cons, List.length_nil, List.map_append, List.map_cons, List.map_nil, go_sem, seval, reduceCtorEq, ↓reduceIte])⟩
            · have hf := fin fun _ => h4
              simp (disch := first | omega | (simp only [List.length_cons, List.length_nil, List.length_append, List.length_map, List.length_take, List.length_drop] <;> omega)) only [List.take_length, go_sem, seval, reduceCtorEq, ↓reduceIte]
              rw [if_pos (by omega)]
              simp (disch := omega) only [go_sem, seval, reduceCtorEq, ↓reduceIte]
              rw [hj3]
              rw [← hf]
              have hil := (insD_perm n o).length_eq
              exact ⟨(k + 1, false, insD n o), ⟨by simp only; omega, upto_iff.2 ⟨h0, h2'⟩, hsn, by simp⟩, by simp only; omega, Weak.mk (by simp (disch := omega) only [instO, plnO, go_sem, seval, reduceCtorEq, ↓reduceIte]; rw [hf]; simp; omega)⟩
          · have hf := fin fun h => by omega
            simp (disch := first | omega | (simp only [List.length_cons, List.length_nil, List.length_append, List.length_map, List.length_take, List.length_drop] <;> omega)) only [List.take_length, go_sem, seval, reduceCtorEq, ↓reduceIte]
            rw [if_pos (by omega)]
            simp (disch := omega) only [go_sem, seval, reduceCtorEq, ↓reduceIte]
            rw [hj3]
            rw [← hf]
            have hil := (insD_perm n o).length_eq
            exact ⟨(k + 1, false, insD n o), ⟨by simp only; omega, upto_iff.2 ⟨h0, h2'⟩, hsn, by simp⟩, by simp only; omega, Weak.mk (by simp (disch := omega) only [instO, plnO, go_sem, seval, reduceCtorEq, ↓reduceIte]; rw [hf]; simp; omega)⟩
    · have hkl : k = p.routes.length := by omega
      subst hkl
      rw [List.take_length] at ho
      have he := errR_no h0
      rw [wksL, clR, he, if_pos rfl, if_pos rfl, ← ho, ← hc]
      exact ⟨_, _, Weak.mk (by simp (disch := omega) only [go_sem, seval, reduceCtorEq, ↓reduceIte]), rfl, rfl⟩
end Go.Proofs.YtcllkjiebfmjpaaGreatDoor.K
set_option linter.unusedVariables false
set_option linter.unusedSimpArgs false
namespace Go.Proofs.YtcllkjiebfmjpaaGreatDoor.K
open Go Go.AM Go.Proofs
set_option maxRecDepth 8000
set_option maxHeartbeats 8000000
theorem right52_c (x : Inst) (hw : x.wf 1048576) : ACalls Tryz.prog 23 [.p (eInst x)] [] fun y H' => ∃ b : Bool, (b = true ↔ InstOk x) ∧ y = .p (.bool b) ∧ H' = [] := by
  refine ACalls.pureE (acalls_of (fn := Tryz.f23) Tryz.func23 rfl isF23 (awp_sound [] _ _ _ _ ?_))
  simp (disch := omega) only [Tryz.f23, go_sem, seval, reduceCtorEq, ↓reduceIte]
  refine ((ck13_c x hw).frozenE).useV fun m hm => ?_
  simp (disch := omega) only [go_sem, seval, reduceCtorEq, ↓reduceIte]
  refine ⟨decide (m.length = 0), ?_, by simp⟩
  have := hm.emp
  rw [decide_eq_true_eq, List.length_eq_zero_iff, this]
theorem few52_c (p : Pln) (hp : p.wf 1048576) : ACalls Tryz.prog 24 [.p (ePln p)] [] fun y H' => ∃ b : Bool, (b = true → p.routes.length ≤ 6) ∧ y = .p (.bool b) ∧ H' = [] := by
  obtain ⟨q1, q2, q3, q4⟩ := hp
  refine ACalls.pureE (acalls_of (fn := Tryz.f24) Tryz.func24 rfl isF24 (awp_sound [] _ _ _ _ ?_))
  simp (disch := omega) only [Tryz.f24, go_sem, seval, reduceCtorEq, ↓reduceIte]
  refine acond_b (fun h => ?_) (fun h => ?_) <;> (try simp only [decide_eq_true_eq, decide_eq_false_iff_not] at h) <;> simp (disch := omega) only [Sh.out h, go_sem, seval, reduceCtorEq, ↓reduceIte]
  · exact ⟨false, by simp, rfl⟩
  · refine awp_for [10, 11] (fun k : Nat => [(12, .p (.int .i64 k))]) (fun _ => [plnO p]) (fun k => k ≤ p.routes.length) (fun k => p.routes.length - k) 0 (by simp) (Weak.mk ?_) ?_
    · simp (disch := omega) only [plnO, go_sem, seval, reduceCtorEq, ↓reduceIte]
    · intro k hk
      simp (disch := omega) only [plnO, go_sem, seval, reduceCtorEq, ↓reduceIte]
      refine acond_b (fun h1 => ?_) (fun h1 => ?_) <;> (try simp only [decide_eq_true_eq, decide_eq_false_iff_not] at h1) <;> simp (disch := omega) only [Sh.out h1, go_sem, seval, reduceCtorEq, ↓reduceIte]
      · have hk2 : k < p.routes.length := by omega
        obtain ⟨_, _, _, _, w1, _⟩ := q2 _ (nth_in hk2)
        refine aguard_t (fun h2 => ?_) (fun h2 => ?_) <;> (try simp only [decide_eq_true_eq, decide_eq_false_iff_not] at h2) <;> simp (disch := omega) only [Sh.out h2, go_sem, seval, reduceCtorEq, ↓reduceIte]
        · refine acond_b (fun h3 => ?_) (fun h3 => ?_) <;> (try simp only [decide_eq_true_eq, decide_eq_false_iff_not] at h3) <;> simp (disch := omega) only [Sh.out h3, go_sem, seval, reduceCtorEq, ↓reduceIte]
          · exact ⟨false, by simp, rfl⟩
          · exact ⟨k + 1, by omega, by omega, Weak.mk (by simp (disch := omega) only [plnO, go_sem, seval, reduceCtorEq, ↓reduceIte])⟩
        · exact ⟨k + 1, by omega, by omega, Weak.mk (by simp (disch := omega) only [plnO, go_sem, seval, reduceCtorEq, ↓reduceIte])⟩
      · exact ⟨true, fun _ => by omega, rfl⟩
theorem same52_c (a b : List Int) (c d : Bool) (ha : a.length ≤ 1048576) (hb : b.length ≤ 1048576) : ACalls Tryz.prog 28 [.p (.list c (a.map eI)), .p (.list d (b.map eI))] [] fun y H' => y = .p (.bool (decide (a = b))) ∧ H' = [] := by
  refine acalls_pure (fn := Tryz.f28) Tryz.func28 rfl isF28 ?_
  simp (disch := omega) only [Tryz.f28, go_sem, seval, reduceCtorEq, ↓reduceIte]
  refine acond_b (fun h => ?_) (fun h => ?_) <;> (try simp only [decide_eq_true_eq, decide_eq_false_iff_not] at h) <;> simp (disch := omega) only [Sh.out h, go_sem, seval, reduceCtorEq, ↓reduceIte]
  · have : ¬ a = b := fun e => h (by rw [e])
    simp [this]
  · have hab : a.length = b.length := by omega
    refine awp_for [0, 1, 12] (fun k : Nat => [(13, .p (.int .i64 k))]) (fun _ => []) (fun k => k ≤ a.length ∧ ∀ j, j < k → nth a j = nth b j) (fun k => a.length - k) 0 (by simp) (Weak.mk ?_) ?_
    · simp (disch := omega) only [go_sem, seval, reduceCtorEq, ↓reduceIte]
    · rintro k ⟨hk, hno⟩
      simp (disch := omega) only [go_sem, seval, reduceCtorEq, ↓reduceIte]
      refine acond_b (fun h2 => ?_) (fun h2 => ?_) <;> (try simp only [decide_eq_true_eq, decide_eq_false_iff_not] at h2) <;> simp (disch := omega) only [Sh.out h2, go_sem, seval, reduceCtorEq, ↓reduceIte]
      · have hk2 : k < a.length := by omega
        have hk3 : k < b.length := by omega
        refine awp_drawnA mixed (by kernel_rfl) (by kernel_rfl) ?_
        simp (disch := omega) only [go_sem, seval, reduceCtorEq, ↓reduceIte]
        refine acond_b (fun h3 => ?_) (fun h3 => ?_) <;> (try simp only [decide_eq_true_eq, decide_eq_false_iff_not] at h3) <;> simp (disch := omega) only [Sh.out h3, go_sem, seval, reduceCtorEq, ↓reduceIte]
        · have : ¬ a = b := fun e => h3 (by rw [e])
          simp [this]
        · exact ⟨k + 1, ⟨by omega, upto_iff.2 ⟨hno, by omega⟩⟩, by omega, Weak.mk (by simp (disch := omega) only [go_sem, seval, reduceCtorEq, ↓reduceIte])⟩
      · have hkl : k = a.length := by omega
        subst hkl
        have : a = b := List.ext_getElem hab fun i h1 h2 => by have := hno i h1; rwa [nth_get h1, nth_get h2] at this
        simp [this]
theorem pln_rte {p : Pln} (hp : p.wf 1048576) : ∀ r ∈ p.routes, rteB r := fun r hr => by
  obtain ⟨_, _, w1, _, w2, _⟩ := hp.2.1 r hr
  exact ⟨w2, w1⟩
theorem wksL_len {x : Inst} {l : List Rte} : (wksL x l).length ≤ l.length := by
  unfold wksL
  split
  · have := (srtD_perm (l.map (workF x)) []).length_eq
    rw [this]; simp
  · simp
theorem lawFWorks_c (x : Inst) (hw : x.wf 1048576) (p : Pln) (hp : p.wf 1048576) : ACalls Tryz.prog 7 [.p (eInst x), .p (ePln p)] [] fun y H' => y = .p (.bool true) ∧ H' = [] := by
  refine acalls_pureC [] (fn := Tryz.f7) Tryz.func7 rfl isF7 ?_
  simp (disch := omega) only [Tryz.f7, go_sem, seval, reduceCtorEq, ↓reduceIte]
  refine (right52_c x hw).useV fun b hb => ?_
  simp (disch := omega) only [go_sem, seval, reduceCtorEq, ↓reduceIte]
  refine aguard_f (fun h1 => ?_) (fun h1 => ?_) <;> (try simp only [decide_eq_true_eq, decide_eq_false_iff_not] at h1) <;> simp (disch := omega) only [Sh.out h1, go_sem, seval, reduceCtorEq, ↓reduceIte]
  · refine (ex52_c).use ?_
    simp (disch := omega) only [go_sem, seval, reduceCtorEq, ↓reduceIte]
  · have hx := hb.1 (by simpa using h1)
    refine (few52_c p hp).useV fun b2 hb2 => ?_
    simp (disch := omega) only [go_sem, seval, reduceCtorEq, ↓reduceIte]
    refine acond_b (fun h2 => ?_) (fun h2 => ?_) <;> (try simp only [decide_eq_true_eq, decide_eq_false_iff_not] at h2) <;> simp (disch := omega) only [Sh.out h2, go_sem, seval, reduceCtorEq, ↓reduceIte]
    · refine (ex52_c).use ?_
      simp (disch := omega) only [go_sem, seval, reduceCtorEq, ↓reduceIte]
    · have hf := hb2 (by simpa using h2)
      have hl := wksL_len (x := x) (l := p.routes)
      refine useT' (pFWorks_c x p hx (by omega) (pln_rte hp)) ?_
      simp (disch := omega) only [go_sem, seval, reduceCtorEq, ↓reduceIte]
      refine useT' (rWorks_c x p hx (by omega) (pln_rte hp)) ?_
      simp (disch := omega) only [go_sem, seval, reduceCtorEq, ↓reduceIte]
      refine (same52_c (wksL x p.routes) (wksL x p.routes) _ _ (by omega) (by omega)).use ?_
      simp (disch := omega) only [go_sem, seval, reduceCtorEq, ↓reduceIte]
      refine (ex52_c).use ?_
      simp (disch := omega) only [go_sem, seval, reduceCtorEq, ↓reduceIte]
end Go.Proofs.YtcllkjiebfmjpaaGreatDoor.K
set_option linter.unusedVariables false
set_option linter.unusedSimpArgs false
namespace Go.Proofs.YtcllkjiebfmjpaaGreatDoor.K
open Go Go.AM Go.Proofs
set_option maxRecDepth 8000
set_option maxHeartbeats 8000000
theorem errR_iff {x : Inst} {l : List Rte} : errR x l = 0 ↔ ∀ r ∈ l, evalE x r = 0 := by
  induction l with
  | nil => simp [errR]
  | cons r l ih =>
    rw [errR]
    by_cases h : evalE x r = 0
    · rw [if_pos h, ih]; simp [h]
    · rw [if_neg h]; simp [h]
theorem srtD_same {l m : List Int} (h : l.Perm m) : srtD [] l = srtD [] m := by
  refine desc_unique _ _ ?_ (srtD_srt l [] List.Pairwise.nil) (srtD_srt m [] List.Pairwise.nil)
  have h1 := srtD_perm l []
  have h2 := srtD_perm m []
  rw [List.nil_append] at h1 h2
  exact h1.trans (h.trans h2.symm)
theorem wksL_rev {x : Inst} {l : List Rte} : wksL x l.reverse = wksL x l := by
  have e : errR x l.reverse = 0 ↔ errR x l = 0 := by rw [errR_iff, errR_iff]; simp
  unfold wksL
  by_cases h : errR x l = 0
  · rw [if_pos h, if_pos (e.2 h)]
    refine srtD_same ?_
    rw [List.map_reverse]
    exact List.reverse_perm _
  · rw [if_neg h, if_neg (fun q => h (e.1 q))]
theorem wksL_desc {x : Inst} {l : List Rte} {i : Nat} (h0 : 0 < i) (hi : i < (wksL x l).length) : nth (wksL x l) i ≤ nth (wksL x l) (i - 1) := by
  have hs : (wksL x l).Pairwise (fun a b => b ≤ a) := by
    unfold wksL
    split
    · exact srtD_srt _ [] List.Pairwise.nil
    · exact List.Pairwise.nil
  rw [List.pairwise_iff_getElem] at hs
  have := hs (i - 1) i (by omega) hi (by omega)
  rwa [← nth_get, ← nth_get] at this
theorem wksL_rng {x : Inst} {l : List Rte} (hx : InstOk x) : ∀ n ∈ wksL x l, -1152921504606846976 ≤ n ∧ n ≤ 1152921504606846976 := fun n hn => by
  unfold wksL at hn
  split at hn
  · rename_i h
    have h1 := srtD_perm (l.map (workF x)) []
    rw [List.nil_append] at h1
    obtain ⟨r, hr, rfl⟩ := List.mem_map.1 (h1.mem_iff.1 hn)
    have he := errR_iff.1 h r hr
    have hg := eval_rng hx he
    obtain ⟨hty, _, _⟩ := ruleE_typ (eval_typ he)
    have hnum := typ_nums hx (show r.typ.toNat < x.types.length by omega)
    have htyp : nth x.types r.typ.toNat = typR x r := rfl
    rw [htyp] at hnum
    rw [workF, if_pos he]
    omega
  · cases hn
theorem sprL_nn {l : List Int} : 0 ≤ sprL l := by
  unfold sprL
  split
  · omega
  · rename_i h
    have hl : 0 < l.length := by omega
    have key : ∀ k, k ≤ l.length → minL l k ≤ nth l 0 ∧ nth l 0 ≤ maxL l k := fun k => by
      induction k with
      | zero => intro _; simp [minL, maxL]
      | succ k ih =>
        intro hk
        have := ih (by omega)
        rw [maxL_succ (by omega), minL_succ (by omega)]
        omega
    have := key l.length (Nat.le_refl _)
    omega
theorem lawFRoutes_c (x : Inst) (hw : x.wf 1048576) (p : Pln) (hp : p.wf 1048576) : ACalls Tryz.prog 8 [.p (eInst x), .p (ePln p)] [] fun y H' => y = .p (.bool true) ∧ H' = [] := by
  refine acalls_pureC [8] (fn := Tryz.f8) Tryz.func8 rfl isF8 ?_
  simp (disch := omega) only [Tryz.f8, go_sem, seval, reduceCtorEq, ↓reduceIte]
  refine (right52_c x hw).useV fun b hb => ?_
  simp (disch := omega) only [go_sem, seval, reduceCtorEq, ↓reduceIte]
  refine aguard_f (fun h1 => ?_) (fun h1 => ?_) <;> (try simp only [decide_eq_true_eq, decide_eq_false_iff_not] at h1) <;> simp (disch := omega) only [Sh.out h1, go_sem, seval, reduceCtorEq, ↓reduceIte]
  · refine (ex52_c).use ?_
    simp (disch := omega) only [go_sem, seval, reduceCtorEq, ↓reduceIte]
  · have hx := hb.1 (by simpa using h1)
    refine (few52_c p hp).useV fun b2 hb2 => ?_
    simp (disch := omega) only [go_sem, seval, reduceCtorEq, ↓reduceIte]
    refine acond_b (fun h2 => ?_) (fun h2 => ?_) <;> (try simp only [decide_eq_true_eq, decide_eq_false_iff_not] at h2) <;> simp (disch := omega) only [Sh.out h2, go_sem, seval, reduceCtorEq, ↓reduceIte]
    · refine (ex52_c).use ?_
      simp (disch := omega) only [go_sem, seval, reduceCtorEq, ↓reduceIte]
    · have hf := hb2 (by simpa using h2)
      have hl := wksL_len (x := x) (l := p.routes)
      refine awp_forC [8] [2, 3, 5] (fun q : Nat × List Rte => [(6, .p (.int .i64 ((p.routes.length : Int) - 1 - q.1)))]) (fun q => [instO x, plnO p, .cells [.sl 3 0 q.2.length q.2.length, .p (.list true [])], .elems 4 (q.2.map eRte)])
        (fun q => q.1 ≤ p.routes.length ∧ q.2 = p.routes.reverse.take q.1) (fun q => p.routes.length - q.1) (0, []) (by simp) ((Weak.nilC (o := 2) (j := 0) 4 rfl rfl (by simp)).trans (Weak.mk ?_)) ?_
      · simp (disch := omega) only [instO, plnO, List.map_nil, List.length_nil, List.set_cons_succ, List.set_cons_zero, List.cons_append, List.nil_append, go_sem, seval, reduceCtorEq, ↓reduceIte]
        simp
      · rintro ⟨k, o⟩ ⟨hk, ho⟩
        simp only at hk ho
        have hol : o.length = k := by rw [ho]; simp; omega
        simp (disch := omega) only [instO, plnO, go_sem, seval, reduceCtorEq, ↓reduceIte]
        refine acond_b (fun h3 => ?_) (fun h3 => ?_) <;> (try simp only [decide_eq_true_eq, decide_eq_false_iff_not] at h3) <;> simp (disch := omega) only [Sh.out h3, go_sem, seval, reduceCtorEq, ↓reduceIte]
        · have hk2 : k < p.routes.length := by omega
          have e1 : ((p.routes.length : Int) - 1 - k).toNat = p.routes.length - 1 - k := by omega
          have hsn : o ++ [nth p.routes (p.routes.length - 1 - k)] = p.routes.reverse.take (k + 1) := by
            rw [ho, List.take_succ_eq_append_getElem (by simpa using hk2), List.getElem_reverse, ← nth_get]
          have e2 : (p.routes.length : Int) - 1 - ((k : Int) + 1) = (p.routes.length : Int) - 1 - k - 1 := by omega
          refine awp_drawnS 8 mixed (by kernel_rfl) (by kernel_rfl) ?_
          simp (disch := omega) only [go_sem, seval, reduceCtorEq, ↓reduceIte]
          exact ⟨(k + 1, o ++ [nth p.routes (p.routes.length - 1 - k)]), ⟨by simp only; omega, hsn⟩, by simp only; omega, Weak.mk (by simp (disch := omega) only [instO, plnO, e1, e2, List.length_append, List.length_cons, List.length_nil, List.map_append, List.map_cons, List.map_nil, go_sem, seval, reduceCtorEq, ↓reduceIte])⟩
        · have hkn : k = p.routes.length := by omega
          subst hkn
          have hor : o = p.routes.reverse := by rw [ho, List.take_of_length_le (by simp)]
          subst hor
          have hrev := pFWorks_c x ⟨false, p.routes.reverse, true, []⟩ hx (by simp; omega) (fun r hr => pln_rte hp r (by simpa using hr))
          have he : errR x p.routes.reverse = 0 ↔ errR x p.routes = 0 := by rw [errR_iff, errR_iff]; simp
          rw [wksL_rev] at hrev
          have hz : ¬ errR x p.routes = 0 → wksL x p.routes = [] := fun h => by rw [wksL, if_neg h]
          have hlen : errR x p.routes = 0 → (wksL x p.routes).length = p.routes.length := fun h => by
            rw [wksL, if_pos h, (srtD_perm _ []).length_eq]; simp
          have hds := @wksL_desc x p.routes
          have hrg := wksL_rng (l := p.routes) hx
          refine awp_weak (Weak.fz (o := 3) (by rfl)) ?_
          refine awp_sound [] _ _ _ _ ?_
          simp (disch := omega) only [List.map_cons, List.map_nil, List.set_cons_succ, List.set_cons_zero, go_sem, seval, reduceCtorEq, ↓reduceIte]
          refine useT' (pFWorks_c x p hx (by omega) (pln_rte hp)) ?_
          simp (disch := omega) only [go_sem, seval, reduceCtorEq, ↓reduceIte]
          refine useT' hrev ?_
          simp (disch := omega) only [go_sem, seval, reduceCtorEq, ↓reduceIte]
          generalize wksL x p.routes = W at *
          refine acond_b (fun h4 => ?_) (fun h4 => ?_) <;> (try simp only [decide_eq_true_eq, decide_eq_false_iff_not] at h4) <;> simp (disch := omega) only [Sh.out h4, go_sem, seval, reduceCtorEq, ↓reduceIte]
          · have hW := hz h4
            subst hW
            have h5 : ¬ errR x p.routes.reverse = 0 := fun h => h4 (he.1 h)
            simp (disch := omega) only [h5, List.length_nil, go_sem, seval, reduceCtorEq, ↓reduceIte]
            refine (ex52_c).use ?_
            simp (disch := omega) only [go_sem, seval, reduceCtorEq, ↓reduceIte]
          · have h4' : errR x p.routes = 0 := by omega
            have h5 : errR x p.routes.reverse = 0 := he.2 h4'
            have hlen := hlen h4'
            refine awp_for [3, 7, 9, 10, 67] (fun k : Nat => [(68, .p (.int .i64 k))]) (fun _ => [instO x, plnO p, .cells [.p (.list false (p.routes.reverse.map eRte)), .p (.list true [])], .dead]) (fun k => k ≤ W.length) (fun k => W.length - k) 0 (by simp) (Weak.mk ?_) ?_
            · simp (disch := omega) only [instO, plnO, List.set_cons_succ, List.set_cons_zero, go_sem, seval, reduceCtorEq, ↓reduceIte]
              done
            · intro i hi
              simp (disch := omega) only [instO, plnO, go_sem, seval, reduceCtorEq, ↓reduceIte]
              refine acond_b (fun h6 => ?_) (fun h6 => ?_) <;> (try simp only [decide_eq_true_eq, decide_eq_false_iff_not] at h6) <;> simp (disch := omega) only [Sh.out h6, go_sem, seval, reduceCtorEq, ↓reduceIte]
              · have hi2 : i < W.length := by omega
                have e1 : ((i : Int) - 1).toNat = i - 1 := by omega
                refine awp_drawnA mixed (by kernel_rfl) (by kernel_rfl) ?_
                simp (disch := omega) only [go_sem, seval, reduceCtorEq, ↓reduceIte]
                refine aguard_t (fun h7 => ?_) (fun h7 => ?_) <;> (try simp only [decide_eq_true_eq, decide_eq_false_iff_not] at h7) <;> simp (disch := omega) only [Sh.out h7, go_sem, seval, reduceCtorEq, ↓reduceIte]
                · have hd := hds (i := i) (by omega) hi2
                  refine acond_b (fun h8 => ?_) (fun h8 => ?_) <;> (try simp only [decide_eq_true_eq, decide_eq_false_iff_not] at h8) <;> simp (disch := omega) only [Sh.out h8, go_sem, seval, reduceCtorEq, ↓reduceIte]
                  · omega
                  · exact ⟨i + 1, by omega, by omega, Weak.mk (by simp (disch := omega) only [instO, plnO, go_sem, seval, reduceCtorEq, ↓reduceIte])⟩
                · exact ⟨i + 1, by omega, by omega, Weak.mk (by simp (disch := omega) only [instO, plnO, go_sem, seval, reduceCtorEq, ↓reduceIte])⟩
              · simp (disch := omega) only [h5, hlen, go_sem, seval, reduceCtorEq, ↓reduceIte]
                refine (same52_c W W _ _ (by omega) (by omega)).use ?_
                simp (disch := omega) only [go_sem, seval, reduceCtorEq, ↓reduceIte]
                refine (spread_c W _ (by omega) hrg).use ?_
                simp (disch := omega) only [go_sem, seval, reduceCtorEq, ↓reduceIte]
                have hnn := sprL_nn (l := W)
                refine aguard_t (fun h9 => ?_) (fun h9 => ?_) <;> (try simp only [decide_eq_true_eq, decide_eq_false_iff_not] at h9) <;> simp (disch := omega) only [Sh.out h9, go_sem, seval, reduceCtorEq, ↓reduceIte]
                · refine (ex52_c).use ?_
                  simp (disch := omega) only [go_sem, seval, reduceCtorEq, ↓reduceIte]
                  simp [h9]
                · omega
end Go.Proofs.YtcllkjiebfmjpaaGreatDoor.K
