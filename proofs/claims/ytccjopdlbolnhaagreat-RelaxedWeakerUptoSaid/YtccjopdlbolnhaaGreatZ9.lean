/- Declarations that the closing texts need, part 9: joined by tools/slim.py. -/
import Derived.Test.YtccjopdlbolnhaaGreatZ8
set_option linter.unusedVariables false
set_option linter.unusedSimpArgs false
namespace Go.Proofs.YtccjopdlbolnhaaGreat.K
open Go Go.AM Go.Proofs
set_option maxRecDepth 8000
set_option maxHeartbeats 16000000
theorem ck11_c (n : Net) (d ty : Int) (l : List Ord) (c : Bool) (hw : n.wf 1048576) (hl : l.length ≤ 1048576) (hlw : ∀ t ∈ l, t.wf 1048576) :
    ACalls Tryz.prog 23 [.p (eNet n), .p (.int .i64 d), .p (.int .i64 ty), .p (.list c (l.map eOrd))] [] fun x H' => x = .sl 0 0 (ordersF n.places.length d ty l l.length).length (ordersF n.places.length d ty l l.length).length ∧ H' = [.elems 2 ((ordersF n.places.length d ty l l.length).map eF)] := by
  obtain ⟨w1, w2, w3, w4⟩ := hw
  suffices hh : ACalls Tryz.prog 23 [.p (eNet n), .p (.int .i64 d), .p (.int .i64 ty), .p (.list c (l.map eOrd))] [] fun x H' => ∃ m : List Flt, m = ordersF n.places.length d ty l l.length ∧ x = .sl 0 0 m.length m.length ∧ H' = [.elems 2 (m.map eF)] by
    refine hh.mono ?_
    rintro x H' ⟨m, rfl, h1, h2⟩
    exact ⟨h1, h2⟩
  refine acalls_freshE [2] (fn := Tryz.f23) Tryz.func23 rfl isF23 ?_
  simp (disch := omega) only [Tryz.f23, go_sem, seval, reduceCtorEq, ↓reduceIte]
  refine awp_weak (Weak.ofNil 9 2 (by simp (disch := omega) only [go_sem, seval, reduceCtorEq, ↓reduceIte]) (by simp) (Weak.refl _ _ _)) ?_
  refine awp_join [1, 2, 3, 4] (fun m : List Flt => [(9, .sl 1 0 m.length m.length)]) (fun m => netH n ++ [.elems 2 (m.map eF)]) (fun m => m = ordersF n.places.length d ty l 0) ?_ ?_
  · simp (disch := omega) only [go_sem, seval, reduceCtorEq, ↓reduceIte]
    refine acond_b (fun h => ?_) (fun h => ?_) <;> (try simp only [decide_eq_true_eq, decide_eq_false_iff_not] at h) <;> simp (disch := omega) only [Sh.out h, go_sem, seval, reduceCtorEq, ↓reduceIte]
    · exact ⟨[(4, [])], by rw [ordersF, if_neg (by omega)]; rfl, Weak.mk (by simp (disch := omega) only [netH, go_sem, seval, reduceCtorEq, ↓reduceIte])⟩
    · exact ⟨[], by rw [ordersF, if_pos (by omega)]; rfl, Weak.mk (by simp (disch := omega) only [netH, go_sem, seval, reduceCtorEq, ↓reduceIte])⟩
  · intro m hm
    refine awp_sound [] _ _ _ _ ?_
    simp (disch := omega) only [netH, go_sem, seval, reduceCtorEq, ↓reduceIte]
    refine awp_for [1, 2, 3, 4] (fun q : Nat × List Flt => [(9, .sl 1 0 q.2.length q.2.length), (10, .p (.int .i64 q.1))]) (fun q => netH n ++ [.elems 2 (q.2.map eF)]) (fun q => q.1 ≤ l.length ∧ q.2 = ordersF n.places.length d ty l q.1) (fun q => l.length - q.1) (0, m) ⟨by simp, hm⟩ (Weak.mk ?_) ?_
    · simp (disch := omega) only [netH, go_sem, seval, reduceCtorEq, ↓reduceIte]
    · clear hm
      rintro ⟨k, m⟩ ⟨hk, hm⟩
      simp only at hk hm
      have hml := ordersF_len n.places.length d ty l k
      rw [← hm] at hml
      simp (disch := omega) only [netH, go_sem, seval, reduceCtorEq, ↓reduceIte]
      refine acond_b (fun h => ?_) (fun h => ?_) <;> (try simp only [decide_eq_true_eq, decide_eq_false_iff_not] at h) <;> simp (disch := omega) only [Sh.out h, go_sem, seval, reduceCtorEq, ↓reduceIte]
      · have hk2 : k < l.length := by omega
        have hI : I64 (k : Int) := by omega
        have hrl := ordRules_len n.places.length d ty l k
        refine ((rules11_c n.places.length d ty l c k hk2 hl w1 (hlw _ (nth_mem hk2))).frozen (by simp)).use ?_
        simp (disch := omega) only [go_sem, seval, reduceCtorEq, ↓reduceIte]
        generalize hre : ordRules n.places.length d ty l k = e at hrl ⊢
        refine awp_for [1, 2, 3, 4, 10, 11] (fun q : Nat × List Flt => [(9, .sl 1 0 q.2.length q.2.length), (12, .p (.int .i64 q.1))]) (fun q => netH n ++ [.elems 2 (q.2.map eF)]) (fun q => q.1 ≤ e.length ∧ q.2 = ordersF n.places.length d ty l k ++ (e.take q.1).map fun e => (e, decI k)) (fun q => e.length - q.1) (0, m) ⟨by simp, by simp [hm]⟩ (Weak.mk ?_) ?_
        · simp (disch := omega) only [netH, go_sem, seval, reduceCtorEq, ↓reduceIte]
        · clear hm hml
          rintro ⟨j, m⟩ ⟨hj, hm⟩
          simp only at hj hm
          have hml := ordersF_len n.places.length d ty l k
          have hml2 : m.length ≤ 1 + 8 * k + 8 := by rw [hm]; simp; omega
          simp (disch := omega) only [netH, go_sem, seval, reduceCtorEq, ↓reduceIte]
          refine acond_b (fun h2 => ?_) (fun h2 => ?_) <;> (try simp only [decide_eq_true_eq, decide_eq_false_iff_not] at h2) <;> simp (disch := omega) only [Sh.out h2, go_sem, seval, reduceCtorEq, ↓reduceIte]
          · have hj2 : j < e.length := by omega
            refine awp_drawnS 9 mixed (by kernel_rfl) (by kernel_rfl) ?_
            simp (disch := omega) only [go_sem, seval, reduceCtorEq, ↓reduceIte]
            refine exq_call (dec01_c k hI) ?_
            simp (disch := omega) only [go_sem, seval, reduceCtorEq, ↓reduceIte]
            refine ⟨(j + 1, m ++ [(nth e j, decI k)]), ⟨by simp only; omega, ?_⟩, by simp only; omega, Weak.mk (by simp (disch := omega) only [netH, go_sem, seval, reduceCtorEq, ↓reduceIte])⟩
            simp only [hm, List.append_assoc]
            rw [List.take_succ_eq_append_getElem hj2, List.map_append, nth_get hj2]
            rfl
          · have hjl : j = e.length := by omega
            subst hjl
            refine ⟨(k + 1, m), ⟨by simp only; omega, ?_⟩, by simp only; omega, Weak.mk (by simp (disch := omega) only [netH, go_sem, seval, reduceCtorEq, ↓reduceIte])⟩
            simp only [hm, ordersF_succ, hre, List.take_length]
      · have hkn : k = l.length := by omega
        subst hkn
        exact ⟨m, hm, 1, by simp (disch := omega) only [netH, go_sem, seval, reduceCtorEq, ↓reduceIte]⟩
theorem stpOk_iff {s : Stp} : stpOk s = true ↔ ((s.place = -1 ∧ s.opn = 0 ∧ s.cls = 0 ∧ s.serv = 0) ∨ (0 ≤ s.place ∧ 0 ≤ s.opn ∧ s.opn ≤ s.cls ∧ s.cls ≤ 4096 ∧ 0 ≤ s.serv ∧ s.serv ≤ 4096)) := by simp [stpOk]
/-- an order that is right among others -/
structure OrdOk (np : Nat) (d ty : Int) (l : List Ord) (i : Nat) : Prop where
  name : nameOk (nth l i).name = true
  twin : ∀ j, j < i → (nth l j).name ≠ (nth l i).name
  load : loadOk (nth l i).load d = true
  pick : -1 ≤ (nth l i).pick.place ∧ (nth l i).pick.place < np
  drp : -1 ≤ (nth l i).drp.place ∧ (nth l i).drp.place < np
  one : ¬ ((nth l i).pick.place = -1 ∧ (nth l i).drp.place = -1)
  pstp : stpOk (nth l i).pick = true
  dstp : stpOk (nth l i).drp = true
  skills : 0 ≤ (nth l i).skills ∧ (nth l i).skills ≤ 1073741823
  arg : argOk (nth l i) ty = true
theorem sel_nil {b : Bool} {e : Int} : sel b e = [] ↔ b = true := by unfold sel; split <;> simp_all
theorem ordRules_nil {np : Nat} {d ty : Int} {l : List Ord} {i : Nat} : ordRules np d ty l i = [] ↔ OrdOk np d ty l i := by
  simp only [ordRules, List.append_eq_nil_iff, sel_nil, Bool.and_eq_true, decide_eq_true_eq, rng, noTwin_true]
  constructor
  · rintro ⟨⟨⟨⟨⟨⟨⟨a1, a2⟩, a3⟩, a4⟩, a5⟩, a6⟩, a7⟩, a8⟩
    exact ⟨a1, a2, a3, by omega, by omega, a5, a6.1, a6.2, a7, a8⟩
  · intro h
    obtain ⟨b1, b2⟩ := h.pick
    obtain ⟨b3, b4⟩ := h.drp
    exact ⟨⟨⟨⟨⟨⟨⟨h.name, h.twin⟩, h.load⟩, by omega, by omega⟩, h.one⟩, h.pstp, h.dstp⟩, h.skills⟩, h.arg⟩
def ordersOk (np : Nat) (d ty : Int) (l : List Ord) : Prop := l.length ≤ 10 ∧ ∀ i, i < l.length → OrdOk np d ty l i
theorem ordersF_nil {np : Nat} {d ty : Int} {l : List Ord} : ordersF np d ty l l.length = [] ↔ ordersOk np d ty l := by
  simp only [ordersF, List.append_eq_nil_iff, List.flatMap_eq_nil_iff, List.mem_range, List.map_eq_nil_iff, ordRules_nil, ordersOk]
  refine and_congr ?_ Iff.rfl
  split <;> simp_all
theorem ordersF_at {np : Nat} {d ty : Int} {l : List Ord} (hl : l.length ≤ 1048576) : ∀ f ∈ ordersF np d ty l l.length, pF 20 f := by
  intro f hf
  simp only [ordersF, List.mem_append, List.mem_flatMap, List.mem_range, List.mem_map] at hf
  rcases hf with hf | ⟨i, hi, e, he, rfl⟩
  · split at hf <;> simp at hf
    subst hf; simp [pF]
  · exact decI_len i (by omega)
end Go.Proofs.YtccjopdlbolnhaaGreat.K
set_option linter.unusedVariables false
set_option linter.unusedSimpArgs false
namespace Go.Proofs.YtccjopdlbolnhaaGreat.K
open Go Go.AM Go.Proofs
set_option maxRecDepth 8000
set_option maxHeartbeats 4000000
/-- lorryref12.decimal -/
theorem rdecimal_c (n : Int) (h0 : 0 ≤ n) (hn : n ≤ 4611686018427387904) : ACalls Tryz.prog 69 [.p (.int .i64 n)] [] fun x H' => x = .p (.str (dec n.toNat)) ∧ H' = [] := by
  refine acalls_pure (fn := Tryz.f69) Tryz.func69 rfl isF69 ?_
  simp (disch := omega) only [Tryz.f69, go_sem, seval, reduceCtorEq, ↓reduceIte]
  refine awp_for [] (fun q : Int × List UInt8 => [(0, .p (.int .i64 q.1)), (3, .p (.str q.2))]) (fun _ => []) (fun q => 0 ≤ q.1 ∧ q.1 ≤ n ∧ dec q.1.toNat ++ q.2 = dec n.toNat) (fun q => q.1.toNat) (n, []) (by simp [h0]) (Weak.mk ?_) ?_
  · simp (disch := omega) only [go_sem, seval, reduceCtorEq, ↓reduceIte]
  · rintro ⟨m, s⟩ ⟨hm, hmn, hs⟩
    simp only at hm hmn hs
    have hl := dec_len _ n.toNat (Nat.lt_succ_self _)
    have hl2 : (dec m.toNat).length + s.length = (dec n.toNat).length := by rw [← hs]; simp
    simp (disch := first | omega | (simp only [List.length_cons, List.length_nil, List.length_append, List.length_map, List.length_take, List.length_drop] <;> omega)) only [go_sem, seval, reduceCtorEq, ↓reduceIte]
    refine acond_b (fun h => ?_) (fun h => ?_) <;> (try simp only [decide_eq_true_eq, decide_eq_false_iff_not] at h) <;> simp (disch := omega) only [Sh.out h, go_sem, seval, reduceCtorEq, ↓reduceIte]
    · simp (disch := first | omega | (simp only [List.length_cons, List.length_nil, List.length_append, List.length_map, List.length_take, List.length_drop] <;> omega)) only [go_sem, seval, reduceCtorEq, ↓reduceIte]
      have h2 : ¬ m.toNat < 10 := by omega
      have e1 : (48 + m % 10).toNat = 48 + m.toNat % 10 := by omega
      have e2 : (m / 10).toNat = m.toNat / 10 := by omega
      refine ⟨(m / 10, UInt8.ofNat (48 + m % 10).toNat :: s), ⟨by simp only; omega, by simp only; omega, ?_⟩, by simp only; omega, Weak.mk ?_⟩
      · simp only [e1, e2]
        rw [← hs, dec.eq_def m.toNat, dif_neg h2]
        simp
      · simp (disch := omega) only [go_sem, seval, reduceCtorEq, ↓reduceIte]
    · simp (disch := first | omega | (simp only [List.length_cons, List.length_nil, List.length_append, List.length_map, List.length_take, List.length_drop] <;> omega)) only [go_sem, seval, reduceCtorEq, ↓reduceIte]
      have h2 : m.toNat < 10 := by omega
      have e1 : (48 + m).toNat = 48 + m.toNat := by omega
      rw [← hs, dec.eq_def m.toNat, dif_pos h2, e1]
      rfl
def okP (n : Int) (p : Int × Int) : Bool := decide (0 ≤ p.1 ∧ p.1 < n) && decide (0 ≤ p.2 ∧ p.2 < n) && decide (¬ p.1 = p.2)
def atW (word : List UInt8) (i : Nat) : List UInt8 := word ++ [32] ++ dec i
def flt (n : Int) (word : List UInt8) (sm : Int × Int → Int × Int → Bool) (l : List (Int × Int)) (i : Nat) : List (Int × List UInt8) :=
  if okP n (nth l i) = false then [(2, atW word i)] else if (l.take i).any (sm (nth l i)) then [(6, atW word i)] else []
def hdr (word : List UInt8) (l : List (Int × Int)) : List (Int × List UInt8) := if 16 < l.length then [(4, word)] else []
def fltU (n : Int) (word : List UInt8) (sm : Int × Int → Int × Int → Bool) (l : List (Int × Int)) (k : Nat) : List (Int × List UInt8) := hdr word l ++ (List.range k).flatMap (flt n word sm l)
theorem fltU_succ (n word sm l k) : fltU n word sm l (k + 1) = fltU n word sm l k ++ flt n word sm l k := by simp [fltU, List.range_succ, List.flatMap_append]
theorem fltU_zero (n word sm l) : fltU n word sm l 0 = hdr word l := by simp [fltU]
theorem flt_len (n word sm l i) : (flt n word sm l i).length ≤ 1 := by unfold flt; split <;> (try split) <;> simp
theorem fltU_len (n word sm l) : ∀ k, (fltU n word sm l k).length ≤ k + 1 := by
  intro k
  induction k with
  | zero => rw [fltU_zero]; unfold hdr; split <;> simp
  | succ k ih => rw [fltU_succ]; have := flt_len n word sm l k; simp; omega
/-- rules.Check -/
def chk (n : Int) (ap be : List (Int × Int)) : List (Int × List UInt8) :=
  fltU n [97, 112, 97, 114, 116] (fun p q => decide (p = q ∨ (p.1 = q.2 ∧ p.2 = q.1))) ap ap.length ++ fltU n [98, 101, 102, 111, 114, 101] (fun p q => decide (p = q)) be be.length
def smR (turned : Bool) (p q : Int × Int) : Bool := decide (q.1 = p.1 ∧ q.2 = p.2) || (turned && decide (q.1 = p.2 ∧ q.2 = p.1))
theorem smR_true : smR true = fun p q => decide (p = q ∨ (p.1 = q.2 ∧ p.2 = q.1)) := by
  funext p q
  simp only [smR, Bool.true_and, or_dec]
  congr 1
  simp only [Prod.ext_iff, eq_iff_iff]
  constructor
  · rintro (h | h)
    · exact .inl ⟨h.1.symm, h.2.symm⟩
    · exact .inr ⟨h.2.symm, h.1.symm⟩
  · rintro (h | h)
    · exact .inl ⟨h.1.symm, h.2.symm⟩
    · exact .inr ⟨h.2.symm, h.1.symm⟩
theorem smR_false : smR false = fun p q => decide (p = q) := by
  funext p q
  simp only [smR, Bool.false_and, Bool.or_false]
  congr 1
  simp only [Prod.ext_iff, eq_iff_iff]
  exact ⟨fun h => ⟨h.1.symm, h.2.symm⟩, fun h => ⟨h.1.symm, h.2.symm⟩⟩
def tw (turned : Bool) (l : List (Int × Int)) (p : Int × Int) (j : Nat) : Bool := (l.take j).any (smR turned p)
theorem tw_zero (turned l p) : tw turned l p 0 = false := by simp [tw]
theorem tw_succ (turned : Bool) (l : List (Int × Int)) (p : Int × Int) (j : Nat) (h : j < l.length) : tw turned l p (j + 1) = (tw turned l p j || smR turned p (nth l j)) := by
  rw [tw, tw, List.take_succ_eq_append_getElem h, List.any_append, nth_get h]
  simp only [List.any_cons, List.any_nil, Bool.or_false]
theorem faults_c (n : Int) (word : List UInt8) (l : List (Int × Int)) (c : Bool) (turned : Bool) (hw : word.length ≤ 1000) (hl : l.length ≤ 1048576) :
    ACalls Tryz.prog 44 [.p (.int .i64 n), .p (.list c (l.map eP)), .p (.str word), .p (.bool turned)] [] fun x H' => x = .sl 0 0 (fltU n word (smR turned) l l.length).length (fltU n word (smR turned) l l.length).length ∧ H' = [.elems 2 ((fltU n word (smR turned) l l.length).map eF)] := by
  refine acalls_freshC [2] (fn := Tryz.f44) (by simp) Tryz.func44 rfl isF44 ?_
  simp (disch := omega) only [Tryz.f44, go_sem, seval, reduceCtorEq, ↓reduceIte]
  refine awp_weak (Weak.ofNil 9 2 (by simp (disch := omega) only [go_sem, seval, reduceCtorEq, ↓reduceIte]) (by simp) (Weak.refl _ _ _)) ?_
  simp (disch := omega) only [go_sem, seval, reduceCtorEq, ↓reduceIte]
  refine awp_join [0, 1, 2, 3] (fun _ : Unit => [(9, .sl 0 0 (hdr word l).length (hdr word l).length)]) (fun _ => [.elems 2 ((hdr word l).map eF)]) (fun _ => True) ?_ ?_
  · simp (disch := omega) only [go_sem, seval, reduceCtorEq, ↓reduceIte]
    refine acond_b (fun h => ?_) (fun h => ?_) <;> (try simp only [decide_eq_true_eq, decide_eq_false_iff_not] at h) <;> simp (disch := omega) only [Sh.out h, go_sem, seval, reduceCtorEq, ↓reduceIte]
    · refine ⟨(), Weak.mk ?_⟩
      have h2 : 16 < l.length := by omega
      simp (disch := omega) only [hdr, h2, go_sem, seval, reduceCtorEq, ↓reduceIte]
    · refine ⟨(), Weak.mk ?_⟩
      have h2 : ¬ 16 < l.length := by omega
      simp (disch := omega) only [hdr, h2, go_sem, seval, reduceCtorEq, ↓reduceIte]
  · intro _ _
    refine awp_sound [] _ _ _ _ ?_
    simp (disch := omega) only [go_sem, seval, reduceCtorEq, ↓reduceIte]
    refine awp_for [0, 1, 2, 3] (fun k : Nat => [(9, .sl 0 0 (fltU n word (smR turned) l k).length (fltU n word (smR turned) l k).length), (10, .p (.int .i64 k))]) (fun k => [.elems 2 ((fltU n word (smR turned) l k).map eF)]) (fun k => k ≤ l.length) (fun k => l.length - k) 0 (by simp) (Weak.mk ?_) ?_
    · simp (disch := omega) only [fltU_zero, go_sem, seval, reduceCtorEq, ↓reduceIte]
    · intro k hk
      have hfl := fltU_len n word (smR turned) l k
      have hdl := dec_len _ k (Nat.lt_succ_self _)
      simp (disch := omega) only [go_sem, seval, reduceCtorEq, ↓reduceIte]
      refine acond_b (fun h => ?_) (fun h => ?_) <;> (try simp only [decide_eq_true_eq, decide_eq_false_iff_not] at h) <;> simp (disch := omega) only [Sh.out h, go_sem, seval, reduceCtorEq, ↓reduceIte]
      · have hk2 : k < l.length := by omega
        simp (disch := first | omega | (simp only [List.length_cons, List.length_nil, List.length_append, List.length_map, List.length_take, List.length_drop] <;> omega)) only [go_sem, seval, reduceCtorEq, ↓reduceIte]
        refine (rdecimal_c (k : Int) (by omega) (by omega)).use ?_
        simp (disch := first | omega | (simp only [List.length_cons, List.length_nil, List.length_append, List.length_map, List.length_take, List.length_drop] <;> omega)) only [go_sem, seval, reduceCtorEq, ↓reduceIte]
        have hs := fltU_succ n word (smR turned) l k
        have hbad : okP n (nth l k) = false → flt n word (smR turned) l k = [(2, word ++ [32] ++ dec k)] := fun e => by simp [flt, e, atW]
        repeat' (first | (refine aguard_t (fun hq => ?_) (fun hq => ?_) <;> (try simp only [decide_eq_true_eq, decide_eq_false_iff_not, Classical.not_not] at hq) <;> simp (disch := omega) only [Sh.out hq, go_sem, seval, reduceCtorEq, ↓reduceIte]) | (refine aguard_f (fun hq => ?_) (fun hq => ?_) <;> (try simp only [decide_eq_true_eq, decide_eq_false_iff_not, Classical.not_not] at hq) <;> simp (disch := omega) only [Sh.out hq, go_sem, seval, reduceCtorEq, ↓reduceIte]) | (refine acond_b (fun hq => ?_) (fun hq => ?_) <;> (try simp only [decide_eq_true_eq, decide_eq_false_iff_not, Classical.not_not] at hq) <;> simp (disch := omega) only [Sh.out hq, go_sem, seval, reduceCtorEq, ↓reduceIte]))
        all_goals try (
          have e := hbad (by simp [okP]; omega)
          exact ⟨k + 1, by omega, by omega, Weak.mk (by simp (disch := omega) only [hs, e, go_sem, seval, reduceCtorEq, ↓reduceIte])⟩)
        have hok : okP n (nth l k) = true := by simp [okP]; omega
        refine awp_for [0, 1, 2, 3, 9, 10, 11, 12, 13] (fun j : Nat => [(14, .p (.bool (tw turned l (nth l k) j))), (15, .p (.int .i64 j))]) (fun _ => [.elems 2 ((fltU n word (smR turned) l k).map eF)]) (fun j => j ≤ k) (fun j => k - j) 0 (by simp) (Weak.mk ?_) ?_
        · simp (disch := omega) only [tw_zero, go_sem, seval, reduceCtorEq, ↓reduceIte]
        · intro j hj
          simp (disch := omega) only [go_sem, seval, reduceCtorEq, ↓reduceIte]
          refine acond_b (fun h4 => ?_) (fun h4 => ?_) <;> (try simp only [decide_eq_true_eq, decide_eq_false_iff_not] at h4) <;> simp (disch := omega) only [Sh.out h4, go_sem, seval, reduceCtorEq, ↓reduceIte]
          · have hts := tw_succ turned l (nth l k) j (by omega)
            generalize tw turned l (nth l k) j = q at hts ⊢
            repeat' (first | (refine aguard_t (fun hq => ?_) (fun hq => ?_) <;> (try simp only [decide_eq_true_eq, decide_eq_false_iff_not, Classical.not_not] at hq) <;> simp (disch := omega) only [Sh.out hq, go_sem, seval, reduceCtorEq, ↓reduceIte]) | (refine aguard_f (fun hq => ?_) (fun hq => ?_) <;> (try simp only [decide_eq_true_eq, decide_eq_false_iff_not, Classical.not_not] at hq) <;> simp (disch := omega) only [Sh.out hq, go_sem, seval, reduceCtorEq, ↓reduceIte]) | (refine acond_b (fun hq => ?_) (fun hq => ?_) <;> (try simp only [decide_eq_true_eq, decide_eq_false_iff_not, Classical.not_not] at hq) <;> simp (disch := omega) only [Sh.out hq, go_sem, seval, reduceCtorEq, ↓reduceIte]))
            all_goals refine ⟨j + 1, by omega, by omega, Weak.mk ?_⟩
            all_goals clear hs hbad hfl hdl
            all_goals simp (disch := omega) only [hts, go_sem, seval, reduceCtorEq, ↓reduceIte]
            all_goals simp [smR, *]
            all_goals first | omega | (simp [smR, *] at hts; exact hts)
          · have hjk : j = k := by omega
            subst hjk
            refine acond_b (fun h5 => ?_) (fun h5 => ?_) <;> (try simp only [decide_eq_true_eq, decide_eq_false_iff_not] at h5) <;> simp (disch := omega) only [Sh.out h5, go_sem, seval, reduceCtorEq, ↓reduceIte]
            · have e : flt n word (smR turned) l j = [(6, word ++ [32] ++ dec j)] := by
                have h6 : (l.take j).any (smR turned (nth l j)) = true := h5
                simp [flt, hok, h6, atW]
              exact ⟨j + 1, by omega, by omega, Weak.mk (by simp (disch := omega) only [hs, e, go_sem, seval, reduceCtorEq, ↓reduceIte])⟩
            · have e : flt n word (smR turned) l j = [] := by
                have h6 : (l.take j).any (smR turned (nth l j)) = false := h5
                simp only [flt, hok, h6, Bool.true_eq_false, Bool.false_eq_true, if_false]
              exact ⟨j + 1, by omega, by omega, Weak.mk (by simp (disch := omega) only [hs, e, go_sem, seval, reduceCtorEq, ↓reduceIte])⟩
      · have : k = l.length := by omega
        subst this
        exact ⟨0, by simp (disch := omega) only [go_sem, seval, reduceCtorEq, ↓reduceIte]⟩
theorem rcheck_c (n : Int) (ap be : List (Int × Int)) (c c' : Bool) (hl : ap.length ≤ 1048576) (hl2 : be.length ≤ 1048576) :
    ACalls Tryz.prog 25 [.p (.int .i64 n), .p (.list c (ap.map eP)), .p (.list c' (be.map eP))] [] fun x H' => x = .sl 0 0 (chk n ap be).length (chk n ap be).length ∧ H' = [.elems 2 ((chk n ap be).map eF)] := by
  refine acalls_fresh (fn := Tryz.f25) (by simp) Tryz.func25 rfl isF25 ?_
  simp (disch := omega) only [Tryz.f25, go_sem, seval, reduceCtorEq, ↓reduceIte]
  have h1 := fltU_len n [97, 112, 97, 114, 116] (smR true) ap ap.length
  have h2 := fltU_len n [98, 101, 102, 111, 114, 101] (smR false) be be.length
  refine (faults_c n _ ap c true (by decide) hl).useF ?_
  simp (disch := omega) only [go_sem, seval, reduceCtorEq, ↓reduceIte]
  refine (faults_c n _ be c' false (by decide) hl2).useF ?_
  simp (disch := omega) only [go_sem, seval, reduceCtorEq, ↓reduceIte]
  refine ⟨0, ?_⟩
  rw [chk, ← smR_true, ← smR_false]
  simp (disch := omega) only [go_sem, seval, reduceCtorEq, ↓reduceIte]
end Go.Proofs.YtccjopdlbolnhaaGreat.K
set_option linter.unusedVariables false
set_option linter.unusedSimpArgs false
namespace Go.Proofs.YtccjopdlbolnhaaGreat.K
open Go Go.AM Go.Proofs
set_option maxRecDepth 8000
set_option maxHeartbeats 16000000
@[go_sem] theorem app1_genm {H : List AM.Obj} {β : Type} {S b o n : Nat} {xs : List PV} {g : β → PV} {m : List β} (hb : (n + m.length) * b ≤ 140737488355328) (hb2 : n + m.length ≤ 140737488355328) :
    app1 H (some (S, b)) (.elems S xs) o n (some (m.map g)) = if xs.length = n ∧ okE S (m.map g) = true then some (.sl o 0 (n + m.length) (n + m.length), ost H o (.elems S (xs ++ m.map g))) else none := by
  rw [app1_gen]
  simp only [List.length_map, hb, hb2, and_true]
def und (word : List UInt8) (f : Flt) : Flt := (f.1, if f.2 = [] then word else word ++ [32] ++ f.2)
theorem under13_c (word : List UInt8) (l : List Flt) (c : Bool) (hword : word.length ≤ 100) (hl : l.length ≤ 4194306000000) (hp : ∀ f ∈ l, pF 100 f) :
    ACalls Tryz.prog 20 [.p (.str word), .p (.list c (l.map eF))] [] fun x H' => x = .sl 0 0 (l.map (und word)).length (l.map (und word)).length ∧ H' = [.elems 2 ((l.map (und word)).map eF)] := by
  suffices hh : ACalls Tryz.prog 20 [.p (.str word), .p (.list c (l.map eF))] [] fun x H' => ∃ m : List Flt, m = l.map (und word) ∧ x = .sl 0 0 m.length m.length ∧ H' = [.elems 2 (m.map eF)] by
    refine hh.mono ?_
    rintro x H' ⟨m, rfl, h1, h2⟩
    exact ⟨h1, h2⟩
  refine acalls_freshE [2] (fn := Tryz.f20) Tryz.func20 rfl isF20 ?_
  simp (disch := omega) only [Tryz.f20, go_sem, seval, reduceCtorEq, ↓reduceIte]
  refine awp_weak (Weak.ofNil 5 2 (by simp (disch := omega) only [go_sem, seval, reduceCtorEq, ↓reduceIte]) (by simp) (Weak.refl _ _ _)) ?_
  refine awp_sound [] _ _ _ _ ?_
  simp (disch := omega) only [go_sem, seval, reduceCtorEq, ↓reduceIte]
  refine awp_for [0, 1] (fun q : Nat × List Flt => [(5, .sl 0 0 q.2.length q.2.length), (6, .p (.int .i64 q.1))]) (fun q => [.elems 2 (q.2.map eF)]) (fun q => q.1 ≤ l.length ∧ q.2 = (l.take q.1).map (und word)) (fun q => l.length - q.1) (0, []) ⟨by simp, by simp⟩ (Weak.mk ?_) ?_
  · simp (disch := omega) only [go_sem, seval, reduceCtorEq, ↓reduceIte]
  · rintro ⟨k, m⟩ ⟨hk, hm⟩
    simp only at hk hm
    have hml : m.length ≤ k := by rw [hm]; simp; omega
    simp (disch := omega) only [go_sem, seval, reduceCtorEq, ↓reduceIte]
    refine acond_b (fun h => ?_) (fun h => ?_) <;> (try simp only [decide_eq_true_eq, decide_eq_false_iff_not] at h) <;> simp (disch := omega) only [Sh.out h, go_sem, seval, reduceCtorEq, ↓reduceIte]
    · have hk2 : k < l.length := by omega
      have hpk := hp _ (nth_mem hk2)
      unfold pF at hpk
      have hnext : ∀ f, f = und word (nth l k) → m ++ [f] = (l.take (k + 1)).map (und word) := fun f hf => by
        rw [hf, hm, List.take_succ_eq_append_getElem hk2, List.map_append, nth_get hk2]; rfl
      refine acond_b (fun h2 => ?_) (fun h2 => ?_) <;> (try simp only [decide_eq_true_eq, decide_eq_false_iff_not] at h2) <;> simp (disch := omega) only [Sh.out h2, go_sem, seval, reduceCtorEq, ↓reduceIte]
      · have h3 : ¬ (nth l k).2 = [] := by simpa using h2
        simp (disch := first | omega | (simp only [List.length_cons, List.length_nil, List.length_append, List.length_map, List.length_take, List.length_drop] <;> omega)) only [go_sem, seval, reduceCtorEq, ↓reduceIte]
        refine ⟨(k + 1, m ++ [((nth l k).1, word ++ [32] ++ (nth l k).2)]), ⟨by simp only; omega, hnext _ (by simp [und, h3])⟩, by simp only; omega, Weak.mk (by simp (disch := first | omega | (simp only [List.length_cons, List.length_nil, List.length_append, List.length_map, List.length_take, List.length_drop] <;> omega)) only [go_sem, seval, reduceCtorEq, ↓reduceIte])⟩
      · have h3 : (nth l k).2 = [] := by simpa using h2
        refine ⟨(k + 1, m ++ [((nth l k).1, word)]), ⟨by simp only; omega, hnext _ (by simp [und, h3])⟩, by simp only; omega, Weak.mk (by simp (disch := first | omega | (simp only [List.length_cons, List.length_nil, List.length_append, List.length_map, List.length_take, List.length_drop] <;> omega)) only [go_sem, seval, reduceCtorEq, ↓reduceIte])⟩
    · have hkn : k = l.length := by omega
      subst hkn
      exact ⟨m, by rw [hm, List.take_length], 0, by simp (disch := omega) only [go_sem, seval, reduceCtorEq, ↓reduceIte]⟩
theorem chk_at {n : Int} {ap be : List (Int × Int)} (ha : ap.length ≤ 1048576) (hb : be.length ≤ 1048576) : ∀ f ∈ chk n ap be, pF 100 f := by
  have key : ∀ (word : List UInt8) (sm : Int × Int → Int × Int → Bool) (l : List (Int × Int)), word.length ≤ 6 → l.length ≤ 1048576 → ∀ f ∈ fltU n word sm l l.length, pF 100 f := fun word sm l hw hl f hf => by
    simp only [fltU, List.mem_append, List.mem_flatMap, List.mem_range] at hf
    rcases hf with hf | ⟨i, hi, hf⟩
    · unfold hdr at hf; split at hf <;> simp at hf
      subst hf; simp [pF]; omega
    · have hd := dec_digits 6 i (by omega)
      have : ∀ e : Int, pF 100 (e, atW word i) := fun e => by simp [pF, atW]; omega
      unfold flt at hf
      split at hf
      · simp at hf; subst hf; exact this _
      · split at hf <;> simp at hf
        subst hf; exact this _
  intro f hf
  rcases List.mem_append.1 hf with hf | hf
  · exact key _ _ _ (by simp) ha f hf
  · exact key _ _ _ (by simp) hb f hf
theorem chk_len {n : Int} {ap be : List (Int × Int)} : (chk n ap be).length ≤ ap.length + be.length + 2 := by
  have h1 := fltU_len n [97, 112, 97, 114, 116] (fun p q => decide (p = q ∨ (p.1 = q.2 ∧ p.2 = q.1))) ap ap.length
  have h2 := fltU_len n [98, 101, 102, 111, 114, 101] (fun p q => decide (p = q)) be be.length
  rw [chk, List.length_append]; omega
/-- an instance that is right -/
structure InstOk (x : Inst) : Prop where
  net : netOk x.net
  types : typesOk x.net x.types
  orders : ordersOk x.net.places.length (dimsOf x.types) x.types.length x.orders
  rules : chk x.orders.length x.apart x.before = []
theorem FR.und {p : Flt → Prop} {C : Prop} {b : Nat} {l : List Flt} (h : FR p C b l) (word : List UInt8) : FR (fun _ => True) C b (l.map (und word)) :=
  ⟨by simpa using h.len, by rw [List.map_eq_nil_iff]; exact h.emp, fun _ _ => trivial⟩
theorem ck13_c (x : Inst) (hw : x.wf 1048576) : ACalls Tryz.prog 8 [.p (eInst x)] [] fun y H' => ∃ m : List Flt, FR (fun _ => True) (InstOk x) 4194400000000 m ∧ y = .sl 0 0 m.length m.length ∧ H' = [.elems 2 (m.map eF)] := by
  obtain ⟨w1, w2, w3, w4, w5, w6, w7, w8, w9⟩ := hw
  refine acalls_freshE [] (fn := Tryz.f8) Tryz.func8 rfl isF8 ?_
  simp (disch := omega) only [Tryz.f8, go_sem, seval, reduceCtorEq, ↓reduceIte]
  have ol := ordersF_len x.net.places.length (dimsOf x.types) x.types.length x.orders x.orders.length
  have oat := ordersF_at (np := x.net.places.length) (d := dimsOf x.types) (ty := x.types.length) w4
  have onil := ordersF_nil (np := x.net.places.length) (d := dimsOf x.types) (ty := x.types.length) (l := x.orders)
  have cl := chk_len (n := x.orders.length) (ap := x.apart) (be := x.before)
  have cat := chk_at (n := x.orders.length) w6 w8
  refine ((ck09_c x.net w1).frozenE).useV fun m1 h1 => ?_
  simp (disch := omega) only [go_sem, seval, reduceCtorEq, ↓reduceIte]
  have h1p := h1.pmono (q := pF 100) fun f hf => hf.mono (by omega)
  have u1 := under13_c [110, 101, 116] m1 false (by simp) h1.len h1p.all
  have f1 := h1.und [110, 101, 116]
  generalize m1.map (und [110, 101, 116]) = q1 at u1 f1
  have f1l := f1.len
  refine (u1).useF ?_
  simp (disch := omega) only [go_sem, seval, reduceCtorEq, ↓reduceIte]
  refine ((ck10_c x.net x.types x.types_c w1 w2 w3).frozenE).useV fun m2 h2 => ?_
  simp (disch := omega) only [go_sem, seval, reduceCtorEq, ↓reduceIte]
  have h2p := h2.pmono (q := pF 100) fun f hf => hf.mono (by omega)
  have h2l := h2.len
  have u2 := (under13_c [116, 121, 112, 101, 115] m2 false (by simp) (by omega) h2p.all).frozen (by simp)
  have f2 := h2.und [116, 121, 112, 101, 115]
  generalize m2.map (und [116, 121, 112, 101, 115]) = q2 at u2 f2
  have f2l := f2.len
  refine (u2).use ?_
  simp (disch := omega) only [go_sem, seval, reduceCtorEq, ↓reduceIte]
  have u3 := (under13_c [111, 114, 100, 101, 114, 115] (ordersF x.net.places.length (dimsOf x.types) x.types.length x.orders x.orders.length) false (by simp) (by omega) fun f hf => (oat f hf).mono (by omega)).frozen (by simp)
  have f3 := (show FR (fun _ => True) (ordersOk x.net.places.length (dimsOf x.types) x.types.length x.orders) (1 + 8 * x.orders.length) (ordersF x.net.places.length (dimsOf x.types) x.types.length x.orders x.orders.length) from ⟨ol, onil, fun _ _ => trivial⟩).und [111, 114, 100, 101, 114, 115]
  generalize (ordersF x.net.places.length (dimsOf x.types) x.types.length x.orders x.orders.length).map (und [111, 114, 100, 101, 114, 115]) = q3 at u3 f3
  have f3l := f3.len
  refine awp_drawnS 13 mixed (by kernel_rfl) (by kernel_rfl) ?_
  simp (disch := omega) only [go_sem, seval, reduceCtorEq, ↓reduceIte]
  refine exq_call (dims10_c x.types x.types_c w2) ?_
  simp (disch := omega) only [go_sem, seval, reduceCtorEq, ↓reduceIte]
  refine exq_call ((ck11_c x.net (dimsOf x.types) x.types.length x.orders x.orders_c w1 w4 w5).frozen (by simp)) ?_
  simp (disch := omega) only [go_sem, seval, reduceCtorEq, ↓reduceIte]
  refine exq_call (u3) ?_
  simp (disch := omega) only [go_sem, seval, reduceCtorEq, ↓reduceIte]
  have u4 := (under13_c [114, 117, 108, 101, 115] (chk x.orders.length x.apart x.before) false (by simp) (by omega) cat).frozen (by simp)
  have f4 := (show FR (fun _ => True) (chk x.orders.length x.apart x.before = []) (x.apart.length + x.before.length + 2) (chk x.orders.length x.apart x.before) from ⟨cl, Iff.rfl, fun _ _ => trivial⟩).und [114, 117, 108, 101, 115]
  generalize (chk x.orders.length x.apart x.before).map (und [114, 117, 108, 101, 115]) = q4 at u4 f4
  have f4l := f4.len
  refine ((rcheck_c x.orders.length x.apart x.before x.apart_c x.before_c w6 w8).frozen (by simp)).use ?_
  simp (disch := omega) only [go_sem, seval, reduceCtorEq, ↓reduceIte]
  refine (u4).use ?_
  simp (disch := omega) only [go_sem, seval, reduceCtorEq, ↓reduceIte]
  refine ⟨q1 ++ q2 ++ q3 ++ q4, ((f1.app f2).app f3 |>.app f4).to (by omega) ⟨fun ⟨⟨⟨a, b⟩, c⟩, d⟩ => ⟨a, b, c, d⟩, fun h => ⟨⟨⟨h.net, h.types⟩, h.orders⟩, h.rules⟩⟩, 1, ?_⟩
  simp (disch := omega) only [go_sem, seval, reduceCtorEq, ↓reduceIte]
end Go.Proofs.YtccjopdlbolnhaaGreat.K
set_option linter.unusedVariables false
set_option linter.unusedSimpArgs false
namespace Go.Proofs.YtccjopdlbolnhaaGreat.K
open Go Go.AM Go.Proofs
def instO (x : Inst) : AM.Obj := .cells [.p (.list x.net.places_c (x.net.places.map eS)), .p (.list x.net.arcs_c (x.net.arcs.map eArc)), .p (.list x.types_c (x.types.map eTyp)), .p (.list x.orders_c (x.orders.map eOrd)), .p (.list x.apart_c (x.apart.map eP)), .p (.list x.before_c (x.before.map eP))]
end Go.Proofs.YtccjopdlbolnhaaGreat.K
set_option linter.unusedVariables false
set_option linter.unusedSimpArgs false
namespace Go.Proofs.YtccjopdlbolnhaaGreat.K
open Go Go.AM Go.Proofs
set_option maxRecDepth 8000
set_option maxHeartbeats 8000000
def hv (s k : Nat) : Nat := s / pw k
theorem any_yes {α : Type} [Inhabited α] {l : List α} {f : α → Bool} {k : Nat} (h : k < l.length) (hf : f (nth l k) = true) : l.any f = true := by
  rw [List.any_eq_true]; exact ⟨nth l k, by rw [nth_get h]; exact List.getElem_mem _, hf⟩
theorem any_no {α : Type} [Inhabited α] {l : List α} {f : α → Bool} (h : ∀ j, j < l.length → f (nth l j) = false) : l.any f = false := by
  rw [List.any_eq_false]
  intro x hx
  obtain ⟨j, hj, rfl⟩ := List.mem_iff_getElem.1 hx
  rw [← nth_get hj, h j hj]; simp
end Go.Proofs.YtccjopdlbolnhaaGreat.K
set_option linter.unusedVariables false
set_option linter.unusedSimpArgs false
namespace Go.Proofs.YtccjopdlbolnhaaGreat.K
open Go Go.AM Go.Proofs
set_option maxRecDepth 8000
set_option maxHeartbeats 8000000
deriving instance DecidableEq for Vis
theorem vis_eq {v w : Vis} : v = w ↔ v.order = w.order ∧ v.drp = w.drp := by cases v; cases w; simp
/-- the first place of a visit, or -1 -/
def fIx (f : Vis → Bool) (l : List Vis) : Int := match l.findIdx? f with | some i => (i : Int) | none => -1
def vIx (l : List Vis) (v : Vis) : Int := fIx (fun w => decide (v = w)) l
theorem fIx_at {f : Vis → Bool} {l : List Vis} {k : Nat} (hk : k < l.length) (h : f (nth l k) = true) (hno : ∀ j, j < k → f (nth l j) = false) : fIx f l = (k : Int) := by
  have : l.findIdx? f = some k := by
    rw [List.findIdx?_eq_some_iff_getElem]
    refine ⟨hk, by rw [← nth_get hk]; exact h, fun j hj => ?_⟩
    have h2 := hno j hj
    rw [nth_get (by omega)] at h2
    simpa using h2
  simp [fIx, this]
theorem fIx_no {f : Vis → Bool} {l : List Vis} (hno : ∀ j, j < l.length → f (nth l j) = false) : fIx f l = -1 := by
  have : l.findIdx? f = none := by
    rw [List.findIdx?_eq_none_iff]
    intro x hx
    obtain ⟨j, hj, rfl⟩ := List.mem_iff_getElem.1 hx
    rw [← nth_get hj]; exact hno j hj
  simp [fIx, this]
theorem fIx_ge {f : Vis → Bool} {l : List Vis} : decide (0 ≤ fIx f l) = l.any f := by
  unfold fIx
  cases h : l.findIdx? f with
  | none =>
    rw [List.findIdx?_eq_none_iff] at h
    have : l.any f = false := by rw [List.any_eq_false]; intro x hx; simp [h x hx]
    simp [this]
  | some i =>
    rw [List.findIdx?_eq_some_iff_getElem] at h
    obtain ⟨h1, h2, _⟩ := h
    have : l.any f = true := by rw [List.any_eq_true]; exact ⟨l[i], List.getElem_mem _, h2⟩
    simp [this]
theorem fIx_lt {f : Vis → Bool} {l : List Vis} : fIx f l < l.length ∧ -1 ≤ fIx f l := by
  unfold fIx
  cases h : l.findIdx? f with
  | none => simp; omega
  | some i =>
    rw [List.findIdx?_eq_some_iff_getElem] at h
    obtain ⟨h1, _⟩ := h
    simp; omega
/-- the visits of an order -/
def visO (l : List Ord) (i : Nat) : List Vis := (if 0 ≤ (nth l i).pick.place then [⟨i, false⟩] else []) ++ (if 0 ≤ (nth l i).drp.place then [⟨i, true⟩] else [])
theorem visO_len (l : List Ord) (i : Nat) : (visO l i).length ≤ 2 := by unfold visO; split <;> split <;> simp
/-- a visit occurs twice -/
def twiceB (l : List Vis) : Bool := (List.range l.length).any fun i => decide (0 ≤ vIx (l.take i) (nth l i))
end Go.Proofs.YtccjopdlbolnhaaGreat.K
set_option linter.unusedVariables false
set_option linter.unusedSimpArgs false
namespace Go.Proofs.YtccjopdlbolnhaaGreat.K
open Go Go.AM Go.Proofs
set_option maxRecDepth 8000
set_option maxHeartbeats 8000000
def hasO (l : List Vis) (o : Int) : Bool := l.any fun v => decide (v.order = o)
/-- a pair of orders is in order -/
def beforeB (l : List Vis) (a b : Int) : Bool := if fIx (fun v => decide (v.order = b)) l < 0 then true else hasO l a && !hasO (l.drop (fIx (fun v => decide (v.order = b)) l).toNat) a
/-- the visits of an order ascend in a list -/
def ascB (l : List Vis) : Int → List Vis → Bool
  | _, [] => true
  | last, w :: r => decide (last < vIx l w) && ascB l (vIx l w) r
def pairB (os : List Ord) (l : List Vis) (v : Vis) : Bool := decide (0 ≤ vIx (visO os v.order.toNat) v) && ascB l (-1) (visO os v.order.toNat)
def rteO (r : Rte) : AM.Obj := .cells [.p (.int .i64 r.typ), .p (.int .i64 r.start), .p (.list r.rests_c (r.rests.map eB)), .p (.list r.visits_c (r.visits.map eVis))]
def outB (x : Inst) (v : Vis) : Bool := !decide (0 ≤ v.order ∧ v.order < (x.orders.length : Int))
/-- the visits of a route, checked -/
def seqChk (x : Inst) (l : List Vis) : Int :=
  if l.length = 0 ∨ l.any (outB x) = true then 2
  else if (l.any fun v => (nth x.orders v.order.toNat).off) = true then 9
  else if twiceB l = true then 6
  else if l.all (pairB x.orders l) = false then 19
  else if (x.apart.any fun p => hasO l p.1 && hasO l p.2) = true then 20
  else if (x.before.any fun p => !beforeB l p.1 p.2) = true then 21
  else 0
end Go.Proofs.YtccjopdlbolnhaaGreat.K
set_option linter.unusedVariables false
set_option linter.unusedSimpArgs false
namespace Go.Proofs.YtccjopdlbolnhaaGreat.K
open Go Go.AM Go.Proofs
set_option maxRecDepth 8000
set_option maxHeartbeats 8000000
@[go_sem] theorem wkV_tupe {H : List AM.Obj} {n cs cs'} : wkV H n (.tup cs) (.tup cs') = (cs' = cs ∧ refBs n cs = true) := by simp [wkV, frz, refB]
@[go_sem] theorem resOne_two {a b : V} : resOne [a, b] = .tup [a, b] := Eq.trans rfl rfl
/-- a call that yields two values -/
theorem useT {g : FuncId} {args : List V} {a b : PV} {H : List AM.Obj} {K : V → List AM.Obj → Prop} (h : ACalls Tryz.prog g args [] fun x H' => x = .tup [.p a, .p b] ∧ H' = []) (k : K (.tup [.p a, .p b]) H) (ha : refBs 0 args = true := by rfl) : ACalls Tryz.prog g args H K :=
  (h.behind ha H).mono fun x H' hq => by
    obtain ⟨y, H1, ⟨rfl, rfl⟩, rfl, rfl⟩ := hq
    simpa [shV, shVs] using k
/-- the set of the orders of visits -/
def ordS (l : List Vis) : Nat := l.foldl (fun s v => s ||| pw v.order.toNat) 0
def inS (v : Vis) : Bool := decide (0 ≤ v.order ∧ v.order ≤ 62)
theorem ordS_succ {l : List Vis} {k : Nat} (hk : k < l.length) : ordS (l.take (k + 1)) = ordS (l.take k) ||| pw (nth l k).order.toNat := by
  rw [List.take_succ_eq_append_getElem hk, ordS, List.foldl_append, nth_get hk]; rfl
theorem ordS_lt : ∀ (k : Nat) {l : List Vis}, k ≤ l.length → (∀ v ∈ l.take k, inS v = true) → ordS (l.take k) < 9223372036854775808
  | 0, l, _, _ => by simp [ordS]
  | k + 1, l, hk, h => by
    have hk2 : k < l.length := by omega
    have ih := ordS_lt k (l := l) (by omega) fun v hv => h v (List.take_subset_take_left l (by omega) hv)
    have hv := h (nth l k) (by rw [nth_get hk2]; exact List.mem_iff_getElem.2 ⟨k, by simp; omega, by simp⟩)
    simp only [inS, decide_eq_true_eq] at hv
    have h2 : pw (nth l k).order.toNat ≤ pw 62 := pw_le (by omega)
    have h3 := pw_62
    rw [ordS_succ hk2]
    exact Nat.or_lt_two_pow (n := 63) (by omega) (by omega)
def ordR (l : List Vis) : Int × Int := if l.all inS = true then (((ordS l : Nat) : Int), 0) else (0, 2)
def cmpI (a b : Int) : Int := if a < b then -1 else if b < a then 1 else 0
theorem isNaN_c (a : Int) : ACalls Tryz.prog 86 [.p (.int .i64 a)] [] fun x H' => x = .p (.bool false) ∧ H' = [] := by
  refine acalls_pure (fn := Tryz.f86) Tryz.func86 rfl isF86 ?_
  simp (disch := omega) only [Tryz.f86, go_sem, seval, reduceCtorEq, ↓reduceIte]
  try simp
theorem cmp_c (a b : Int) : ACalls Tryz.prog 60 [.p (.int .i64 a), .p (.int .i64 b)] [] fun x H' => x = .p (.int .i64 (cmpI a b)) ∧ H' = [] := by
  refine acalls_pure (fn := Tryz.f60) Tryz.func60 rfl isF60 ?_
  simp (disch := omega) only [Tryz.f60, go_sem, seval, reduceCtorEq, ↓reduceIte]
  refine (isNaN_c a).use ?_
  simp (disch := omega) only [go_sem, seval, reduceCtorEq, ↓reduceIte]
  refine (isNaN_c b).use ?_
  simp (disch := omega) only [go_sem, seval, reduceCtorEq, ↓reduceIte]
  refine acond_b (fun h => ?_) (fun h => ?_) <;> (try simp only [decide_eq_true_eq, decide_eq_false_iff_not] at h) <;> simp (disch := omega) only [Sh.out h, go_sem, seval, reduceCtorEq, ↓reduceIte]
  · simp [cmpI, h]
  · refine acond_b (fun h2 => ?_) (fun h2 => ?_) <;> (try simp only [decide_eq_true_eq, decide_eq_false_iff_not] at h2) <;> simp (disch := omega) only [Sh.out h2, go_sem, seval, reduceCtorEq, ↓reduceIte]
    · simp [cmpI, h, h2]
    · simp [cmpI, h, h2]
def orI (l : List Int) : Int := (l.find? fun n => decide (n ≠ 0)).getD 0
theorem orI_at {l : List Int} {k : Nat} (hk : k < l.length) (h : nth l k ≠ 0) (hno : ∀ j, j < k → nth l j = 0) : orI l = nth l k := by
  have : l.find? (fun n => decide (n ≠ 0)) = some (nth l k) := by
    rw [List.find?_eq_some_iff_getElem]
    refine ⟨by simpa using h, k, hk, (nth_get hk).symm, fun j hj => ?_⟩
    have := hno j hj
    rw [nth_get (by omega)] at this
    simp [this]
  simp only [orI, this, Option.getD_some]
theorem orI_no {l : List Int} (hno : ∀ j, j < l.length → nth l j = 0) : orI l = 0 := by
  have : l.find? (fun n => decide (n ≠ 0)) = none := by
    rw [List.find?_eq_none]
    intro x hx
    obtain ⟨j, hj, rfl⟩ := List.mem_iff_getElem.1 hx
    rw [← nth_get hj, hno j hj]; simp
  simp only [orI, this, Option.getD_none]
theorem or_c (l : List Int) (c : Bool) (hl : l.length ≤ 100) : ACalls Tryz.prog 59 [.p (.list c (l.map eI))] [] fun x H' => x = .p (.int .i64 (orI l)) ∧ H' = [] := by
  refine acalls_pure (fn := Tryz.f59) Tryz.func59 rfl isF59 ?_
  simp (disch := omega) only [Tryz.f59, go_sem, seval, reduceCtorEq, ↓reduceIte]
  refine awp_for [3, 6, 7] (fun k : Nat => [(8, .p (.int .i64 k))]) (fun _ => []) (fun k => k ≤ l.length ∧ ∀ j, j < k → nth l j = 0) (fun k => l.length - k) 0 (by simp) (Weak.mk ?_) ?_
  · simp (disch := omega) only [go_sem, seval, reduceCtorEq, ↓reduceIte]
  · rintro k ⟨hk, hno⟩
    simp (disch := omega) only [go_sem, seval, reduceCtorEq, ↓reduceIte]
    refine acond_b (fun h => ?_) (fun h => ?_) <;> (try simp only [decide_eq_true_eq, decide_eq_false_iff_not] at h) <;> simp (disch := omega) only [Sh.out h, go_sem, seval, reduceCtorEq, ↓reduceIte]
    · have hk2 : k < l.length := by omega
      refine acond_b (fun h2 => ?_) (fun h2 => ?_) <;> (try simp only [decide_eq_true_eq, decide_eq_false_iff_not] at h2) <;> simp (disch := omega) only [Sh.out h2, go_sem, seval, reduceCtorEq, ↓reduceIte]
      · rw [orI_at hk2 h2 hno]
      · exact ⟨k + 1, ⟨by omega, upto_iff.2 ⟨hno, by simpa using h2⟩⟩, by omega, Weak.mk (by simp (disch := omega) only [go_sem, seval, reduceCtorEq, ↓reduceIte])⟩
    · have hkl : k = l.length := by omega
      subst hkl
      rw [orI_no hno]
theorem orI_two (a b : Int) : orI [a, b] = if a = 0 then b else a := by
  by_cases h : a = 0
  · by_cases h2 : b = 0 <;> simp [orI, h, h2]
  · simp [orI, h]
end Go.Proofs.YtccjopdlbolnhaaGreat.K
set_option linter.unusedVariables false
set_option linter.unusedSimpArgs false
namespace Go.Proofs.YtccjopdlbolnhaaGreat.K
open Go Go.AM Go.Proofs
set_option maxRecDepth 8000
set_option maxHeartbeats 8000000
def allIn (l own : List Vis) : Bool := own.all fun w => decide (0 ≤ vIx l w)
def visOb (v : Vis) : AM.Obj := .cells [.p (.int .i64 v.order), .p (.bool v.drp)]
theorem vIx_ge {l : List Vis} {v : Vis} : -1 ≤ vIx l v ∧ vIx l v < l.length := by
  have := fIx_lt (f := fun w => decide (v = w)) (l := l)
  rw [vIx]; omega
end Go.Proofs.YtccjopdlbolnhaaGreat.K
set_option linter.unusedVariables false
set_option linter.unusedSimpArgs false
namespace Go.Proofs.YtccjopdlbolnhaaGreat.K
open Go Go.AM Go.Proofs
set_option maxRecDepth 8000
set_option maxHeartbeats 8000000
/-- the walk over all sequences -/
def walk (nx : List Vis → List Vis) : Nat → List Vis → List (List Vis) → List (List Vis) × Bool
  | 0, l, outs => (outs ++ [l], decide (outs.length + 1 ≤ 8192))
  | f + 1, l, outs => (nx l).foldl (fun acc v => if acc.2 = true then walk nx f (l ++ [v]) acc.1 else acc) (outs, true)
end Go.Proofs.YtccjopdlbolnhaaGreat.K
set_option linter.unusedVariables false
set_option linter.unusedSimpArgs false
namespace Go.Proofs.YtccjopdlbolnhaaGreat.K
open Go Go.AM Go.Proofs
set_option maxRecDepth 8000
set_option maxHeartbeats 8000000
def nHas (S : Nat) (i : Int) : Bool := decide (0 ≤ i ∧ i ≤ 62) && S.testBit i.toNat
theorem rhas16_c (S : Nat) (i : Int) (hS : S < 9223372036854775808) : ACalls Tryz.prog 70 [.p (.int .i64 (S : Nat)), .p (.int .i64 i)] [] fun x H' => x = .p (.bool (nHas S i)) ∧ H' = [] := by
  refine acalls_pure (fn := Tryz.f70) Tryz.func70 rfl isF70 ?_
  simp (disch := omega) only [Tryz.f70, go_sem, seval, reduceCtorEq, ↓reduceIte]
  refine aguard_t (fun h => ?_) (fun h => ?_) <;> (try simp only [decide_eq_true_eq, decide_eq_false_iff_not] at h) <;> simp (disch := omega) only [Sh.out h, go_sem, seval, reduceCtorEq, ↓reduceIte]
  · refine aguard_t (fun h1 => ?_) (fun h1 => ?_) <;> (try simp only [decide_eq_true_eq, decide_eq_false_iff_not] at h1) <;> simp (disch := omega) only [Sh.out h1, go_sem, seval, reduceCtorEq, ↓reduceIte]
    · refine aguard_t (fun h2 => ?_) (fun h2 => ?_) <;> (try simp only [decide_eq_true_eq, decide_eq_false_iff_not] at h2) <;> simp (disch := omega) only [Sh.out h2, go_sem, seval, reduceCtorEq, ↓reduceIte]
      · have e : ((S / pw i.toNat : Nat) : Int).tmod 2 = ((S / pw i.toNat % 2 : Nat) : Int) := by rw [Int.tmod_eq_emod_of_nonneg (Int.natCast_nonneg _)]; exact (Int.natCast_emod _ _).symm
        rw [e]
        have h3 : (((S / pw i.toNat % 2 : Nat) : Int) = 1) = (S.testBit i.toNat = true) := bit_eq1
        have h4 : 0 ≤ i ∧ i ≤ 62 := ⟨h1, h2⟩
        simp only [h3, nHas, h4, and_self, decide_true, Bool.true_and, Bool.decide_eq_true]
      · simp [nHas, h2]
    · simp [nHas, h1]
  · omega
theorem rvisits_own (x : Inst) (i : Nat) (hi : i < x.orders.length) (hl : x.orders.length ≤ 1048576) (hpl : ∀ o ∈ x.orders, -1 ≤ o.pick.place ∧ -1 ≤ o.drp.place) : ACalls Tryz.prog 71 [.p (eInst x), .p (.int .i64 (i : Nat))] [] fun y H' => y = .sl 0 0 (visO x.orders i).length (visO x.orders i).length ∧ H' = [.elems 2 ((visO x.orders i).map eVis)] := by
  suffices hh : ACalls Tryz.prog 71 [.p (eInst x), .p (.int .i64 (i : Nat))] [] fun y H' => ∃ m : List Vis, m = visO x.orders i ∧ y = .sl 0 0 m.length m.length ∧ H' = [.elems 2 (m.map eVis)] by
    refine hh.mono ?_
    rintro x H' ⟨m, rfl, h1, h2⟩
    exact ⟨h1, h2⟩
  obtain ⟨h1, h2⟩ := hpl _ (nth_mem hi)
  refine acalls_freshE [2] (fn := Tryz.f71) Tryz.func71 rfl isF71 ?_
  simp (disch := omega) only [Tryz.f71, go_sem, seval, reduceCtorEq, ↓reduceIte]
  refine awp_weak (Weak.ofNil 5 2 (by simp (disch := omega) only [go_sem, seval, reduceCtorEq, ↓reduceIte]) (by simp) (Weak.refl _ _ _)) ?_
  refine awp_join [1, 2] (fun m : List Vis => [(5, .sl 1 0 m.length m.length)]) (fun m => [instO x, .elems 2 (m.map eVis)]) (fun m => m = (if 0 ≤ (nth x.orders i).pick.place then [⟨i, false⟩] else [])) ?_ ?_
  · simp (disch := omega) only [go_sem, seval, reduceCtorEq, ↓reduceIte]
    refine acond_b (fun h => ?_) (fun h => ?_) <;> (try simp only [decide_eq_true_eq, decide_eq_false_iff_not] at h) <;> simp (disch := omega) only [Sh.out h, go_sem, seval, reduceCtorEq, ↓reduceIte]
    · exact ⟨[⟨i, false⟩], by rw [if_pos (by omega)], Weak.mk (by simp (disch := omega) only [instO, go_sem, seval, reduceCtorEq, ↓reduceIte])⟩
    · exact ⟨[], by rw [if_neg (by omega)], Weak.mk (by simp (disch := omega) only [instO, go_sem, seval, reduceCtorEq, ↓reduceIte])⟩
  · intro m hm
    have hml : m.length ≤ 1 := by rw [hm]; split <;> simp
    refine awp_sound [] _ _ _ _ ?_
    simp (disch := omega) only [instO, go_sem, seval, reduceCtorEq, ↓reduceIte]
    refine acond_b (fun h => ?_) (fun h => ?_) <;> (try simp only [decide_eq_true_eq, decide_eq_false_iff_not] at h) <;> simp (disch := omega) only [Sh.out h, go_sem, seval, reduceCtorEq, ↓reduceIte]
    · exact ⟨m ++ [⟨i, true⟩], by rw [visO, hm, if_pos (c := 0 ≤ (nth x.orders i).drp.place) (by omega)], 1, by simp (disch := omega) only [go_sem, seval, reduceCtorEq, ↓reduceIte]⟩
    · exact ⟨m, by rw [visO, hm, if_neg (c := 0 ≤ (nth x.orders i).drp.place) (by omega), List.append_nil], 1, by simp (disch := omega) only [go_sem, seval, reduceCtorEq, ↓reduceIte]⟩
theorem rvisits_c (x : Inst) (i : Nat) (hi : i < x.orders.length) (hl : x.orders.length ≤ 1048576) (hpl : ∀ o ∈ x.orders, -1 ≤ o.pick.place ∧ -1 ≤ o.drp.place) : ACalls Tryz.prog 71 [.p (eInst x), .p (.int .i64 (i : Nat))] [] fun y H' => y = .p (.list false ((visO x.orders i).map eVis)) ∧ H' = [] :=
  (rvisits_own x i hi hl hpl).frozen (by simp)
theorem rindex_c (l : List Vis) (c : Bool) (v : Vis) (hl : l.length ≤ 1048576) : ACalls Tryz.prog 46 [.p (.list c (l.map eVis)), .p (eVis v)] [] fun x H' => x = .p (.int .i64 (vIx l v)) ∧ H' = [] := by
  refine acalls_pure (fn := Tryz.f46) Tryz.func46 rfl isF46 ?_
  simp (disch := omega) only [Tryz.f46, go_sem, seval, reduceCtorEq, ↓reduceIte]
  refine awp_for [0, 3] (fun k : Nat => [(5, .p (.int .i64 k))]) (fun _ => [visOb v]) (fun k => k ≤ l.length ∧ ∀ j, j < k → decide (v = nth l j) = false) (fun k => l.length - k) 0 (by simp) (Weak.mk ?_) ?_
  · simp (disch := omega) only [visOb, go_sem, seval, reduceCtorEq, ↓reduceIte]
  · rintro k ⟨hk, hno⟩
    simp (disch := omega) only [visOb, go_sem, seval, reduceCtorEq, ↓reduceIte]
    refine acond_b (fun h => ?_) (fun h => ?_) <;> (try simp only [decide_eq_true_eq, decide_eq_false_iff_not] at h) <;> simp (disch := omega) only [Sh.out h, go_sem, seval, reduceCtorEq, ↓reduceIte]
    · have hk2 : k < l.length := by omega
      refine awp_drawnA mixed (by kernel_rfl) (by kernel_rfl) ?_
      simp (disch := omega) only [go_sem, seval, reduceCtorEq, ↓reduceIte]
      refine acond_b (fun h2 => ?_) (fun h2 => ?_) <;> (try simp only [decide_eq_true_eq, decide_eq_false_iff_not] at h2) <;> simp (disch := omega) only [Sh.out h2, go_sem, seval, reduceCtorEq, ↓reduceIte]
      · have : v = nth l k := Eq.symm (by rw [vis_eq]; simpa using h2)
        rw [vIx, fIx_at hk2 (by simpa using this) hno]
      · have : ¬ v = nth l k := fun e => by rw [← e] at h2; simp at h2
        exact ⟨k + 1, ⟨by omega, upto_iff.2 ⟨hno, by simpa using this⟩⟩, by omega, Weak.mk (by simp (disch := omega) only [visOb, go_sem, seval, reduceCtorEq, ↓reduceIte])⟩
    · have hkl : k = l.length := by omega
      subst hkl
      rw [vIx, fIx_no hno]
theorem rcontains_c (l s : List Vis) (c d : Bool) (hl : l.length ≤ 1048576) (hs : s.length ≤ 1048576) : ACalls Tryz.prog 72 [.p (.list c (l.map eVis)), .p (.list d (s.map eVis))] [] fun x H' => x = .p (.bool (allIn l s)) ∧ H' = [] := by
  refine acalls_pure (fn := Tryz.f72) Tryz.func72 rfl isF72 ?_
  simp (disch := omega) only [Tryz.f72, go_sem, seval, reduceCtorEq, ↓reduceIte]
  refine awp_for [0, 1] (fun k : Nat => [(5, .p (.int .i64 k))]) (fun _ => []) (fun k => k ≤ s.length ∧ ∀ j, j < k → decide (0 ≤ vIx l (nth s j)) = true) (fun k => s.length - k) 0 (by simp) (Weak.mk ?_) ?_
  · simp (disch := omega) only [go_sem, seval, reduceCtorEq, ↓reduceIte]
  · rintro k ⟨hk, hno⟩
    simp (disch := omega) only [go_sem, seval, reduceCtorEq, ↓reduceIte]
    refine acond_b (fun h => ?_) (fun h => ?_) <;> (try simp only [decide_eq_true_eq, decide_eq_false_iff_not] at h) <;> simp (disch := omega) only [Sh.out h, go_sem, seval, reduceCtorEq, ↓reduceIte]
    · have hk2 : k < s.length := by omega
      refine (rindex_c l c (nth s k) hl).use ?_
      simp (disch := omega) only [go_sem, seval, reduceCtorEq, ↓reduceIte]
      refine acond_b (fun h2 => ?_) (fun h2 => ?_) <;> (try simp only [decide_eq_true_eq, decide_eq_false_iff_not] at h2) <;> simp (disch := omega) only [Sh.out h2, go_sem, seval, reduceCtorEq, ↓reduceIte]
      · have : allIn l s = false := by rw [allIn, List.all_eq_false]; exact ⟨nth s k, nth_mem hk2, by simp; omega⟩
        rw [this]
      · exact ⟨k + 1, ⟨by omega, upto_iff.2 ⟨hno, by simp; omega⟩⟩, by omega, Weak.mk (by simp (disch := omega) only [go_sem, seval, reduceCtorEq, ↓reduceIte])⟩
    · have hkl : k = s.length := by omega
      subst hkl
      have : allIn l s = true := by
        rw [allIn, List.all_eq_true]
        intro w hw
        obtain ⟨j, hj, rfl⟩ := List.mem_iff_getElem.1 hw
        rw [← nth_get hj]; exact hno j hj
      rw [this]
theorem cmpI_zero {a b : Int} : cmpI a b = 0 ↔ a = b := by unfold cmpI; split <;> (try split) <;> omega
theorem or_pw_yes {S n : Nat} (h : S.testBit n = true) : S ||| pw n = S := by
  apply Nat.eq_of_testBit_eq
  intro i
  rw [Nat.testBit_or, testBit_pw]
  by_cases h2 : n = i
  · subst h2; simp [h]
  · simp [h2]
theorem or_pw_no {S n : Nat} (h : S.testBit n = false) : S ||| pw n = S + pw n := by
  have e : S % 2 ^ (n + 1) = S % 2 ^ n + 2 ^ n * (S / 2 ^ n % 2) := Nat.mod_pow_succ
  rw [Nat.testBit_eq_decide_div_mod_eq] at h
  have h0 : S / 2 ^ n % 2 = 0 := by simp at h; omega
  rw [h0, Nat.mul_zero, Nat.add_zero] at e
  have hp : 0 < 2 ^ n := Nat.two_pow_pos n
  have hs : 2 ^ (n + 1) = 2 ^ n + 2 ^ n := by rw [Nat.pow_succ]; omega
  have r1 : S % 2 ^ (n + 1) < 2 ^ n := by rw [e]; exact Nat.mod_lt _ hp
  have e1 := Nat.two_pow_add_eq_or_of_lt (i := n) r1 1
  have e2 := Nat.two_pow_add_eq_or_of_lt (i := n + 1) (b := 2 ^ n * 1 + S % 2 ^ (n + 1)) (by omega) (S / 2 ^ (n + 1))
  have e3 := Nat.two_pow_add_eq_or_of_lt (i := n + 1) (b := S % 2 ^ (n + 1)) (by omega) (S / 2 ^ (n + 1))
  have e4 := Nat.div_add_mod S (2 ^ (n + 1))
  rw [pw]
  calc S ||| 2 ^ n = (2 ^ (n + 1) * (S / 2 ^ (n + 1)) + S % 2 ^ (n + 1)) ||| 2 ^ n := by rw [e4]
    _ = 2 ^ (n + 1) * (S / 2 ^ (n + 1)) ||| (2 ^ n * 1 ||| S % 2 ^ (n + 1)) := by rw [e3, Nat.or_assoc, Nat.mul_one, Nat.or_comm (2 ^ n)]
    _ = 2 ^ (n + 1) * (S / 2 ^ (n + 1)) + (2 ^ n * 1 + S % 2 ^ (n + 1)) := by rw [← e1, ← e2]
    _ = S + 2 ^ n := by omega
theorem rorders_c (r : Rte) (hl : r.visits.length ≤ 1048576) : ACalls Tryz.prog 45 [.p (eRte r)] [] fun x H' => x = .tup [.p (.int .i64 (ordR r.visits).1), .p (.int .i64 (ordR r.visits).2)] ∧ H' = [] := by
  refine acalls_weak [] (fn := Tryz.f45) Tryz.func45 rfl isF45 ?_
  simp (disch := omega) only [Tryz.f45, go_sem, seval, reduceCtorEq, ↓reduceIte]
  refine awp_for [1] (fun k : Nat => [(4, .p (.int .i64 (ordS (r.visits.take k) : Nat))), (5, .p (.int .i64 k))]) (fun _ => [rteO r]) (fun k => k ≤ r.visits.length ∧ ∀ j, j < k → inS (nth r.visits j) = true) (fun k => r.visits.length - k) 0 (by simp) (Weak.mk ?_) ?_
  · simp (disch := omega) only [rteO, ordS, List.take_zero, List.foldl_nil, go_sem, seval, reduceCtorEq, ↓reduceIte]
  · rintro k ⟨hk, hno⟩
    have hlt := ordS_lt k hk fun v hv => by
      obtain ⟨j, hj, rfl⟩ := List.mem_iff_getElem.1 hv
      simp at hj
      rw [List.getElem_take, ← nth_get (by omega)]
      exact hno j (by omega)
    simp (disch := omega) only [rteO, go_sem, seval, reduceCtorEq, ↓reduceIte]
    refine acond_b (fun h => ?_) (fun h => ?_) <;> (try simp only [decide_eq_true_eq, decide_eq_false_iff_not] at h) <;> simp (disch := omega) only [Sh.out h, go_sem, seval, reduceCtorEq, ↓reduceIte]
    · have hk2 : k < r.visits.length := by omega
      have hbad : inS (nth r.visits k) = false → ordR r.visits = (0, 2) := fun h4 => by
        have : r.visits.all inS = false := by rw [List.all_eq_false]; exact ⟨nth r.visits k, nth_mem hk2, by rw [h4]; simp⟩
        simp [ordR, this]
      have hs := ordS_succ hk2
      have hp : (nth r.visits k).order ≤ 62 → pw (nth r.visits k).order.toNat ≤ 4611686018427387904 := fun h => by rw [← pw_62]; exact pw_le (by omega)
      refine aguard_f (fun h1 => ?_) (fun h1 => ?_) <;> (try simp only [decide_eq_true_eq, decide_eq_false_iff_not] at h1) <;> simp (disch := omega) only [Sh.out h1, go_sem, seval, reduceCtorEq, ↓reduceIte]
      · have e := hbad (by simp [inS]; omega)
        rw [e]
        exact ⟨_, _, Weak.mk (by simp (disch := omega) only [go_sem, seval, reduceCtorEq, ↓reduceIte]), rfl, rfl⟩
      · refine acond_b (fun h2 => ?_) (fun h2 => ?_) <;> (try simp only [decide_eq_true_eq, decide_eq_false_iff_not] at h2) <;> simp (disch := omega) only [Sh.out h2, go_sem, seval, reduceCtorEq, ↓reduceIte]
        · have e := hbad (by simp [inS]; omega)
          rw [e]
          exact ⟨_, _, Weak.mk (by simp (disch := omega) only [go_sem, seval, reduceCtorEq, ↓reduceIte]), rfl, rfl⟩
        · have h4 := hp (by omega)
          refine (rhas16_c (ordS (r.visits.take k)) (nth r.visits k).order hlt).use ?_
          simp (disch := omega) only [go_sem, seval, reduceCtorEq, ↓reduceIte]
          have hin : 0 ≤ (nth r.visits k).order ∧ (nth r.visits k).order ≤ 62 := by omega
          have hnh : nHas (ordS (r.visits.take k)) (nth r.visits k).order = (ordS (r.visits.take k)).testBit (nth r.visits k).order.toNat := by simp [nHas, hin]
          rw [hnh]
          have hno2 := (upto_iff (p := fun j => inS (nth r.visits j) = true)).2 ⟨hno, by simp [inS]; omega⟩
          have hlt2 := ordS_lt (k + 1) hk2 fun v hv => by
            obtain ⟨j, hj, rfl⟩ := List.mem_iff_getElem.1 hv
            simp at hj
            rw [List.getElem_take, ← nth_get (by omega)]
            exact hno2 j (by omega)
          refine acond_b (fun h5 => ?_) (fun h5 => ?_) <;> (try simp only [decide_eq_true_eq, decide_eq_false_iff_not] at h5) <;> simp (disch := omega) only [Sh.out h5, go_sem, seval, reduceCtorEq, ↓reduceIte]
          · have h6 : (ordS (r.visits.take k)).testBit (nth r.visits k).order.toNat = false := by simpa using h5
            rw [or_pw_no h6] at hs
            rw [hs] at hlt2
            exact ⟨k + 1, ⟨by omega, hno2⟩, by omega, Weak.mk (by simp (disch := omega) only [rteO, hs, Int.natCast_add, go_sem, seval, reduceCtorEq, ↓reduceIte])⟩
          · have h6 : (ordS (r.visits.take k)).testBit (nth r.visits k).order.toNat = true := by simpa using h5
            rw [or_pw_yes h6] at hs
            exact ⟨k + 1, ⟨by omega, hno2⟩, by omega, Weak.mk (by simp (disch := omega) only [rteO, hs, go_sem, seval, reduceCtorEq, ↓reduceIte])⟩
    · have hkl : k = r.visits.length := by omega
      subst hkl
      have : r.visits.all inS = true := by
        rw [List.all_eq_true]
        intro v hv
        obtain ⟨j, hj, rfl⟩ := List.mem_iff_getElem.1 hv
        rw [← nth_get hj]; exact hno j hj
      have e : ordR r.visits = (((ordS r.visits : Nat) : Int), 0) := by simp [ordR, this]
      rw [e, List.take_length]
      exact ⟨_, _, Weak.mk (by simp (disch := omega) only [go_sem, seval, reduceCtorEq, ↓reduceIte]), rfl, rfl⟩
end Go.Proofs.YtccjopdlbolnhaaGreat.K
set_option linter.unusedVariables false
set_option linter.unusedSimpArgs false
namespace Go.Proofs.YtccjopdlbolnhaaGreat.K
open Go Go.AM Go.Proofs
set_option maxRecDepth 8000
set_option maxHeartbeats 8000000
def Plc (x : Inst) : Prop := ∀ o ∈ x.orders, -1 ≤ o.pick.place ∧ -1 ≤ o.drp.place
theorem vIx_inj {l : List Vis} {v w : Vis} (h : vIx l v = vIx l w) (h0 : 0 ≤ vIx l v) : v = w := by
  unfold vIx fIx at h h0
  cases hv : l.findIdx? (fun u => decide (v = u)) with
  | none => rw [hv] at h0; simp at h0
  | some i =>
    rw [hv] at h
    cases hw : l.findIdx? (fun u => decide (w = u)) with
    | none => rw [hw] at h; simp at h
    | some j =>
      rw [hw] at h
      have hij : i = j := by simp at h; omega
      subst hij
      rw [List.findIdx?_eq_some_iff_getElem] at hv hw
      obtain ⟨h1, h2, _⟩ := hv
      obtain ⟨_, h4, _⟩ := hw
      simp at h2 h4
      rw [h2, h4]
theorem visO_cases (os : List Ord) (i : Nat) : visO os i = [] ∨ visO os i = [⟨i, false⟩] ∨ visO os i = [⟨i, true⟩] ∨ visO os i = [⟨i, false⟩, ⟨i, true⟩] := by
  unfold visO; split <;> split <;> simp
theorem pair_ref {l own : List Vis} (ho : own = [] ∨ (∃ v, own = [v]) ∨ ∃ v w, own = [v, w] ∧ v ≠ w) :
    ascB l (-1) own = (allIn l own && !(decide (own.length = 2) && decide (vIx l (nth own 1) < vIx l (nth own 0)))) := by
  rcases ho with rfl | ⟨v, rfl⟩ | ⟨v, w, rfl, hne⟩
  · rfl
  · have := @vIx_ge l v
    by_cases h : 0 ≤ vIx l v
    · have : -1 < vIx l v := by omega
      simp [ascB, allIn, h, this]
    · have : ¬ -1 < vIx l v := by omega
      simp [ascB, allIn, h, this]
  · have hne2 : 0 ≤ vIx l v → vIx l v ≠ vIx l w := fun h0 h => hne (vIx_inj h h0)
    have h1 := @vIx_ge l v
    have h2 := @vIx_ge l w
    rw [Bool.eq_iff_iff]
    simp [ascB, allIn, nth]
    omega
theorem visO_two (os : List Ord) (i : Nat) : visO os i = [] ∨ (∃ v, visO os i = [v]) ∨ ∃ v w, visO os i = [v, w] ∧ v ≠ w := by
  rcases visO_cases os i with h | h | h | h
  · exact .inl h
  · exact .inr (.inl ⟨_, h⟩)
  · exact .inr (.inl ⟨_, h⟩)
  · exact .inr (.inr ⟨_, _, h, by simp⟩)
theorem all_no {α : Type} [Inhabited α] {l : List α} {f : α → Bool} {k : Nat} (hk : k < l.length) (h : f (nth l k) = false) : l.all f = false := by
  rw [List.all_eq_false]; exact ⟨nth l k, nth_mem hk, by rw [h]; simp⟩
theorem all_yes {α : Type} [Inhabited α] {l : List α} {f : α → Bool} (h : ∀ j, j < l.length → f (nth l j) = true) : l.all f = true := by
  rw [List.all_eq_true]
  intro v hv
  obtain ⟨j, hj, rfl⟩ := List.mem_iff_getElem.1 hv
  rw [← nth_get hj]; exact h j hj
theorem rpaired_c (x : Inst) (l : List Vis) (c : Bool) (hl : l.length ≤ 1048576) (ho : x.orders.length ≤ 1048576) (hp : Plc x) (hv : ∀ v ∈ l, 0 ≤ v.order ∧ v.order < x.orders.length) :
    ACalls Tryz.prog 47 [.p (eInst x), .p (.list c (l.map eVis))] [] fun y H' => y = .p (.bool (l.all (pairB x.orders l))) ∧ H' = [] := by
  refine acalls_pure (fn := Tryz.f47) Tryz.func47 rfl isF47 ?_
  simp (disch := omega) only [Tryz.f47, go_sem, seval, reduceCtorEq, ↓reduceIte]
  refine awp_for [1, 2] (fun k : Nat => [(5, .p (.int .i64 k))]) (fun _ => [instO x]) (fun k => k ≤ l.length ∧ ∀ j, j < k → pairB x.orders l (nth l j) = true) (fun k => l.length - k) 0 (by simp) (Weak.mk ?_) ?_
  · simp (disch := omega) only [instO, go_sem, seval, reduceCtorEq, ↓reduceIte]
  · rintro k ⟨hk, hno⟩
    simp (disch := omega) only [instO, go_sem, seval, reduceCtorEq, ↓reduceIte]
    refine acond_b (fun h => ?_) (fun h => ?_) <;> (try simp only [decide_eq_true_eq, decide_eq_false_iff_not] at h) <;> simp (disch := omega) only [Sh.out h, go_sem, seval, reduceCtorEq, ↓reduceIte]
    · have hk2 : k < l.length := by omega
      obtain ⟨v1, v2⟩ := hv _ (nth_mem hk2)
      obtain ⟨i, hi⟩ : ∃ i : Nat, (nth l k).order = (i : Int) := ⟨(nth l k).order.toNat, by omega⟩
      rw [hi] at v1 v2
      have hpb : pairB x.orders l (nth l k) = (decide (0 ≤ vIx (visO x.orders i) (nth l k)) && ascB l (-1) (visO x.orders i)) := by rw [pairB, hi]; rfl
      have hown := visO_two x.orders i
      rw [pair_ref hown] at hpb
      refine awp_drawnA mixed (by kernel_rfl) (by kernel_rfl) ?_
      simp (disch := omega) only [hi, go_sem, seval, reduceCtorEq, ↓reduceIte]
      refine exq_call (rvisits_c x i (by omega) ho hp) ?_
      simp (disch := omega) only [go_sem, seval, reduceCtorEq, ↓reduceIte]
      have hvl := visO_len x.orders i
      generalize visO x.orders i = own at hvl hpb
      have hix := rindex_c own false (nth l k) (by omega)
      rw [eVis_eq, hi] at hix
      refine awp_drawnA mixed (by kernel_rfl) (by kernel_rfl) ?_
      simp (disch := omega) only [hi, go_sem, seval, reduceCtorEq, ↓reduceIte]
      refine exq_call (hix) ?_
      simp (disch := omega) only [go_sem, seval, reduceCtorEq, ↓reduceIte]
      refine aguard_f (fun h2 => ?_) (fun h2 => ?_) <;> (try simp only [decide_eq_true_eq, decide_eq_false_iff_not] at h2) <;> simp (disch := omega) only [Sh.out h2, go_sem, seval, reduceCtorEq, ↓reduceIte]
      · have h3 : ¬ 0 ≤ vIx own (nth l k) := by omega
        rw [all_no hk2 (by rw [hpb]; simp [h3])]
      · have h3 : 0 ≤ vIx own (nth l k) := by omega
        have hgo : pairB x.orders l (nth l k) = true → ∀ j, j < k + 1 → pairB x.orders l (nth l j) = true := fun e => upto_iff.2 ⟨hno, e⟩
        refine exq_call (rcontains_c l own c false hl (by omega)) ?_
        simp (disch := omega) only [go_sem, seval, reduceCtorEq, ↓reduceIte]
        refine aguard_f (fun h4 => ?_) (fun h4 => ?_) <;> (try simp only [decide_eq_true_eq, decide_eq_false_iff_not] at h4) <;> simp (disch := omega) only [Sh.out h4, go_sem, seval, reduceCtorEq, ↓reduceIte]
        · have h5 : allIn l own = false := by simpa using h4
          rw [all_no hk2 (by rw [hpb, h5]; simp)]
        · have h5 : allIn l own = true := by simpa using h4
          rw [h5] at hpb
          refine aguard_t (fun h6 => ?_) (fun h6 => ?_) <;> (try simp only [decide_eq_true_eq, decide_eq_false_iff_not] at h6) <;> simp (disch := omega) only [Sh.out h6, go_sem, seval, reduceCtorEq, ↓reduceIte]
          · have h7 : own.length = 2 := by omega
            refine exq_call (rindex_c l c (nth own 0) hl) ?_
            simp (disch := omega) only [go_sem, seval, reduceCtorEq, ↓reduceIte]
            refine exq_call (rindex_c l c (nth own 1) hl) ?_
            simp (disch := omega) only [go_sem, seval, reduceCtorEq, ↓reduceIte]
            refine acond_b (fun h8 => ?_) (fun h8 => ?_) <;> (try simp only [decide_eq_true_eq, decide_eq_false_iff_not] at h8) <;> simp (disch := omega) only [Sh.out h8, go_sem, seval, reduceCtorEq, ↓reduceIte]
            · rw [all_no hk2 (by rw [hpb]; simp [h7, h8])]
            · exact ⟨k + 1, ⟨by omega, hgo (by rw [hpb]; simp [h3]; omega)⟩, by omega, Weak.mk (by simp (disch := omega) only [instO, go_sem, seval, reduceCtorEq, ↓reduceIte])⟩
          · exact ⟨k + 1, ⟨by omega, hgo (by rw [hpb]; simp [h3]; omega)⟩, by omega, Weak.mk (by simp (disch := omega) only [instO, go_sem, seval, reduceCtorEq, ↓reduceIte])⟩
    · have hkl : k = l.length := by omega
      subst hkl
      rw [all_yes hno]
/-- two orders of a set that must be apart -/
def apB (x : Inst) (S : Nat) : Bool := x.apart.any fun p => nHas S p.1 && nHas S p.2
theorem rapart_c (x : Inst) (S : Nat) (hS : S < 9223372036854775808) (ha : x.apart.length ≤ 1048576) : ACalls Tryz.prog 48 [.p (eInst x), .p (.int .i64 (S : Nat))] [] fun y H' => y = .p (.bool (!apB x S)) ∧ H' = [] := by
  refine acalls_pure (fn := Tryz.f48) Tryz.func48 rfl isF48 ?_
  simp (disch := omega) only [Tryz.f48, go_sem, seval, reduceCtorEq, ↓reduceIte]
  refine awp_for [1, 2] (fun k : Nat => [(5, .p (.int .i64 k))]) (fun _ => [instO x]) (fun k => k ≤ x.apart.length ∧ ∀ j, j < k → (nHas S (nth x.apart j).1 && nHas S (nth x.apart j).2) = false) (fun k => x.apart.length - k) 0 (by simp) (Weak.mk ?_) ?_
  · simp (disch := omega) only [instO, go_sem, seval, reduceCtorEq, ↓reduceIte]
  · rintro k ⟨hk, hno⟩
    simp (disch := omega) only [instO, go_sem, seval, reduceCtorEq, ↓reduceIte]
    refine acond_b (fun h => ?_) (fun h => ?_) <;> (try simp only [decide_eq_true_eq, decide_eq_false_iff_not] at h) <;> simp (disch := omega) only [Sh.out h, go_sem, seval, reduceCtorEq, ↓reduceIte]
    · have hk2 : k < x.apart.length := by omega
      refine (rhas16_c S (nth x.apart k).1 hS).use ?_
      simp (disch := omega) only [go_sem, seval, reduceCtorEq, ↓reduceIte]
      refine aguard_t (fun h2 => ?_) (fun h2 => ?_) <;> (try simp only [decide_eq_true_eq, decide_eq_false_iff_not] at h2) <;> simp (disch := omega) only [Sh.out h2, go_sem, seval, reduceCtorEq, ↓reduceIte]
      · refine (rhas16_c S (nth x.apart k).2 hS).use ?_
        simp (disch := omega) only [go_sem, seval, reduceCtorEq, ↓reduceIte]
        refine acond_b (fun h3 => ?_) (fun h3 => ?_) <;> (try simp only [decide_eq_true_eq, decide_eq_false_iff_not] at h3) <;> simp (disch := omega) only [Sh.out h3, go_sem, seval, reduceCtorEq, ↓reduceIte]
        · have : apB x S = true := any_yes hk2 (by rw [h2, h3]; rfl)
          rw [this]; rfl
        · exact ⟨k + 1, ⟨by omega, upto_iff.2 ⟨hno, by rw [h2, h3]; rfl⟩⟩, by omega, Weak.mk (by simp (disch := omega) only [instO, go_sem, seval, reduceCtorEq, ↓reduceIte])⟩
      · exact ⟨k + 1, ⟨by omega, upto_iff.2 ⟨hno, by rw [h2]; rfl⟩⟩, by omega, Weak.mk (by simp (disch := omega) only [instO, go_sem, seval, reduceCtorEq, ↓reduceIte])⟩
    · have hkl : k = x.apart.length := by omega
      subst hkl
      have : apB x S = false := any_no hno
      rw [this]; rfl
/-- an order of a pair stands before the other -/
def lateB (l : List Vis) (a b : Int) (j k : Nat) : Bool := decide ((nth l j).order = a) && decide ((nth l k).order = b)
def rbefB (S : Nat) (l : List Vis) (p : Int × Int) : Bool := !nHas S p.2 || (nHas S p.1 && (List.range l.length).all fun j => (List.range j).all fun k => !lateB l p.1 p.2 j k)
theorem rbefore_c (x : Inst) (S : Nat) (l : List Vis) (c : Bool) (hS : S < 9223372036854775808) (hl : l.length ≤ 1048576) (hb : x.before.length ≤ 1048576) : ACalls Tryz.prog 49 [.p (eInst x), .p (.int .i64 (S : Nat)), .p (.list c (l.map eVis))] [] fun y H' => y = .p (.bool (x.before.all (rbefB S l))) ∧ H' = [] := by
  refine acalls_pure (fn := Tryz.f49) Tryz.func49 rfl isF49 ?_
  simp (disch := omega) only [Tryz.f49, go_sem, seval, reduceCtorEq, ↓reduceIte]
  refine awp_for [1, 2, 3] (fun k : Nat => [(7, .p (.int .i64 k))]) (fun _ => [instO x]) (fun k => k ≤ x.before.length ∧ ∀ j, j < k → rbefB S l (nth x.before j) = true) (fun k => x.before.length - k) 0 (by simp) (Weak.mk ?_) ?_
  · simp (disch := omega) only [instO, go_sem, seval, reduceCtorEq, ↓reduceIte]
  · rintro i ⟨hi, hno⟩
    simp (disch := omega) only [instO, go_sem, seval, reduceCtorEq, ↓reduceIte]
    refine acond_b (fun h => ?_) (fun h => ?_) <;> (try simp only [decide_eq_true_eq, decide_eq_false_iff_not] at h) <;> simp (disch := omega) only [Sh.out h, go_sem, seval, reduceCtorEq, ↓reduceIte]
    · have hi2 : i < x.before.length := by omega
      have hgo : rbefB S l (nth x.before i) = true → ∀ j, j < i + 1 → rbefB S l (nth x.before j) = true := fun e => upto_iff.2 ⟨hno, e⟩
      have hbad : rbefB S l (nth x.before i) = false → x.before.all (rbefB S l) = false := fun e => all_no hi2 e
      have hdef : rbefB S l (nth x.before i) = (!nHas S (nth x.before i).2 || (nHas S (nth x.before i).1 && (List.range l.length).all fun j => (List.range j).all fun k => !lateB l (nth x.before i).1 (nth x.before i).2 j k)) := rfl
      generalize rbefB S l (nth x.before i) = R at hgo hbad hdef
      generalize nth x.before i = p at hdef ⊢
      refine (rhas16_c S p.2 hS).use ?_
      simp (disch := omega) only [go_sem, seval, reduceCtorEq, ↓reduceIte]
      refine acond_b (fun h2 => ?_) (fun h2 => ?_) <;> (try simp only [decide_eq_true_eq, decide_eq_false_iff_not] at h2) <;> simp (disch := omega) only [Sh.out h2, go_sem, seval, reduceCtorEq, ↓reduceIte]
      · have h3 : nHas S p.2 = false := by simpa using h2
        exact ⟨i + 1, ⟨by omega, hgo (by rw [hdef, h3]; rfl)⟩, by omega, Weak.mk (by simp (disch := omega) only [instO, go_sem, seval, reduceCtorEq, ↓reduceIte])⟩
      · have h3 : nHas S p.2 = true := by simpa using h2
        refine (rhas16_c S p.1 hS).use ?_
        simp (disch := omega) only [go_sem, seval, reduceCtorEq, ↓reduceIte]
        refine acond_b (fun h4 => ?_) (fun h4 => ?_) <;> (try simp only [decide_eq_true_eq, decide_eq_false_iff_not] at h4) <;> simp (disch := omega) only [Sh.out h4, go_sem, seval, reduceCtorEq, ↓reduceIte]
        · have h5 : nHas S p.1 = false := by simpa using h4
          rw [hbad (by rw [hdef, h3, h5]; rfl)]
        · have h5 : nHas S p.1 = true := by simpa using h4
          rw [h3, h5] at hdef
          simp only [Bool.not_true, Bool.false_or, Bool.true_and] at hdef
          refine awp_for [1, 2, 3, 7, 8, 9] (fun k : Nat => [(10, .p (.int .i64 k))]) (fun _ => [instO x]) (fun k => k ≤ l.length ∧ ∀ j, j < k → ∀ q, q < j → lateB l p.1 p.2 j q = false) (fun k => l.length - k) 0 (by simp) (Weak.mk ?_) ?_
          · simp (disch := omega) only [instO, go_sem, seval, reduceCtorEq, ↓reduceIte]
          · rintro j ⟨hj, hnj⟩
            simp (disch := omega) only [instO, go_sem, seval, reduceCtorEq, ↓reduceIte]
            refine acond_b (fun h6 => ?_) (fun h6 => ?_) <;> (try simp only [decide_eq_true_eq, decide_eq_false_iff_not] at h6) <;> simp (disch := omega) only [Sh.out h6, go_sem, seval, reduceCtorEq, ↓reduceIte]
            · have hj2 : j < l.length := by omega
              refine awp_for [1, 2, 3, 7, 8, 9, 10] (fun k : Nat => [(11, .p (.int .i64 k))]) (fun _ => [instO x]) (fun k => k ≤ j ∧ ∀ q, q < k → lateB l p.1 p.2 j q = false) (fun k => j - k) 0 (by simp) (Weak.mk ?_) ?_
              · simp (disch := omega) only [instO, go_sem, seval, reduceCtorEq, ↓reduceIte]
              · rintro k ⟨hk, hnk⟩
                simp (disch := omega) only [instO, go_sem, seval, reduceCtorEq, ↓reduceIte]
                refine acond_b (fun h7 => ?_) (fun h7 => ?_) <;> (try simp only [decide_eq_true_eq, decide_eq_false_iff_not] at h7) <;> simp (disch := omega) only [Sh.out h7, go_sem, seval, reduceCtorEq, ↓reduceIte]
                · have hk2 : k < j := by omega
                  refine aguard_t (fun h8 => ?_) (fun h8 => ?_) <;> (try simp only [decide_eq_true_eq, decide_eq_false_iff_not] at h8) <;> simp (disch := omega) only [Sh.out h8, go_sem, seval, reduceCtorEq, ↓reduceIte]
                  · refine acond_b (fun h9 => ?_) (fun h9 => ?_) <;> (try simp only [decide_eq_true_eq, decide_eq_false_iff_not] at h9) <;> simp (disch := omega) only [Sh.out h9, go_sem, seval, reduceCtorEq, ↓reduceIte]
                    · rw [hbad (by
                        rw [hdef, List.all_eq_false]
                        refine ⟨j, by simpa using hj2, ?_⟩
                        rw [Bool.not_eq_true, List.all_eq_false]
                        exact ⟨k, by simpa using hk2, by simp [lateB, h8, h9]⟩)]
                    · exact ⟨k + 1, ⟨by omega, upto_iff.2 ⟨hnk, by simp [lateB, h9]⟩⟩, by omega, Weak.mk (by simp (disch := omega) only [instO, go_sem, seval, reduceCtorEq, ↓reduceIte])⟩
                  · exact ⟨k + 1, ⟨by omega, upto_iff.2 ⟨hnk, by simp [lateB, h8]⟩⟩, by omega, Weak.mk (by simp (disch := omega) only [instO, go_sem, seval, reduceCtorEq, ↓reduceIte])⟩
                · have hkl : k = j := by omega
                  subst hkl
                  exact ⟨k + 1, ⟨by omega, (upto_iff (p := fun j => ∀ q, q < j → lateB l p.1 p.2 j q = false)).2 ⟨hnj, hnk⟩⟩, by omega, Weak.mk (by simp (disch := omega) only [instO, go_sem, seval, reduceCtorEq, ↓reduceIte])⟩
            · have hjl : j = l.length := by omega
              subst hjl
              refine ⟨i + 1, ⟨by omega, hgo ?_⟩, by omega, Weak.mk (by simp (disch := omega) only [instO, go_sem, seval, reduceCtorEq, ↓reduceIte])⟩
              rw [hdef, List.all_eq_true]
              intro j hj
              rw [List.all_eq_true]
              intro k hk
              simp at hj hk
              simp [hnj j hj k hk]
    · have hkl : i = x.before.length := by omega
      subst hkl
      rw [all_yes hno]
end Go.Proofs.YtccjopdlbolnhaaGreat.K
set_option linter.unusedVariables false
set_option linter.unusedSimpArgs false
namespace Go.Proofs.YtccjopdlbolnhaaGreat.K
open Go Go.AM Go.Proofs
theorem nHas_iff {S : Nat} {i : Int} : nHas S i = true ↔ 0 ≤ i ∧ i ≤ 62 ∧ S.testBit i.toNat = true := by simp [nHas, and_assoc]
theorem vIx_mem {l : List Vis} {v : Vis} : 0 ≤ vIx l v ↔ v ∈ l := by
  have := fIx_ge (f := fun w => decide (v = w)) (l := l)
  have h2 : (l.any fun w => decide (v = w)) = true ↔ v ∈ l := by
    rw [List.any_eq_true]
    exact ⟨fun ⟨w, hw, e⟩ => by simp at e; rw [e]; exact hw, fun h => ⟨v, h, by simp⟩⟩
  rw [← h2, ← this, vIx]; simp
def Vne (x : Inst) : Prop := ∀ i, i < x.orders.length → visO x.orders i ≠ []
end Go.Proofs.YtccjopdlbolnhaaGreat.K
set_option linter.unusedVariables false
set_option linter.unusedSimpArgs false
namespace Go.Proofs.YtccjopdlbolnhaaGreat.K
open Go Go.AM Go.Proofs
/-- the specification's list -/
def ext (nx : List Vis → List Vis) : Nat → List Vis → List (List Vis) → List (List Vis)
  | 0, l, outs => if 8192 < outs.length then outs else outs ++ [l]
  | f + 1, l, outs => if 8192 < outs.length then outs else (nx l).foldl (fun acc v => ext nx f (l ++ [v]) acc) outs
end Go.Proofs.YtccjopdlbolnhaaGreat.K
set_option linter.unusedVariables false
set_option linter.unusedSimpArgs false
namespace Go.Proofs.YtccjopdlbolnhaaGreat.K
open Go Go.AM Go.Proofs
set_option maxRecDepth 8000
set_option maxHeartbeats 8000000
/-- the specification's check -/
def rchk (x : Inst) (l : List Vis) : Int :=
  if l.any (outB x) = true then 2
  else if l.length = 0 then 2
  else if (l.any fun v => (nth x.orders v.order.toNat).off) = true then 9
  else if ((List.range l.length).any fun i => decide (vIx l (nth l i) ≠ (i : Int))) = true then 6
  else if l.all (pairB x.orders l) = false then 19
  else if apB x (ordS l) = true then 20
  else if x.before.all (rbefB (ordS l) l) = false then 21
  else 0
theorem rcheck16_c (x : Inst) (r : Rte) (ho : x.orders.length ≤ 60) (hl : r.visits.length ≤ 1048576) (hap : x.apart.length ≤ 1048576) (hbe : x.before.length ≤ 1048576) (hp : Plc x) :
    ACalls Tryz.prog 26 [.p (eInst x), .p (eRte r)] [] fun y H' => y = .p (.int .i64 (rchk x r.visits)) ∧ H' = [] := by
  refine acalls_pure (fn := Tryz.f26) Tryz.func26 rfl isF26 ?_
  simp (disch := omega) only [Tryz.f26, go_sem, seval, reduceCtorEq, ↓reduceIte]
  refine awp_for [2, 3, 5] (fun k : Nat => [(6, .p (.int .i64 k))]) (fun _ => [instO x, rteO r]) (fun k => k ≤ r.visits.length ∧ ∀ j, j < k → outB x (nth r.visits j) = false) (fun k => r.visits.length - k) 0 (by simp) (Weak.mk ?_) ?_
  · simp (disch := omega) only [instO, rteO, go_sem, seval, reduceCtorEq, ↓reduceIte]
  · rintro k ⟨hk, hno⟩
    simp (disch := omega) only [instO, rteO, go_sem, seval, reduceCtorEq, ↓reduceIte]
    refine acond_b (fun h => ?_) (fun h => ?_) <;> (try simp only [decide_eq_true_eq, decide_eq_false_iff_not] at h) <;> simp (disch := omega) only [Sh.out h, go_sem, seval, reduceCtorEq, ↓reduceIte]
    · have hk2 : k < r.visits.length := by omega
      refine awp_drawnA mixed (by kernel_rfl) (by kernel_rfl) ?_
      simp (disch := omega) only [go_sem, seval, reduceCtorEq, ↓reduceIte]
      refine aguard_f (fun h2 => ?_) (fun h2 => ?_) <;> (try simp only [decide_eq_true_eq, decide_eq_false_iff_not] at h2) <;> simp (disch := omega) only [Sh.out h2, go_sem, seval, reduceCtorEq, ↓reduceIte]
      · have : outB x (nth r.visits k) = true := by simp [outB]; omega
        rw [rchk, if_pos (any_yes hk2 this)]
      · refine acond_b (fun h3 => ?_) (fun h3 => ?_) <;> (try simp only [decide_eq_true_eq, decide_eq_false_iff_not] at h3) <;> simp (disch := omega) only [Sh.out h3, go_sem, seval, reduceCtorEq, ↓reduceIte]
        · have : outB x (nth r.visits k) = true := by simp [outB]; omega
          rw [rchk, if_pos (any_yes hk2 this)]
        · exact ⟨k + 1, ⟨by omega, upto_iff.2 ⟨hno, by simp [outB]; omega⟩⟩, by omega, Weak.mk (by simp (disch := omega) only [instO, rteO, go_sem, seval, reduceCtorEq, ↓reduceIte])⟩
    · have hkl : k = r.visits.length := by omega
      subst hkl
      have hr1 : rchk x r.visits = if r.visits.length = 0 then 2 else if (r.visits.any fun v => (nth x.orders v.order.toNat).off) = true then 9 else if ((List.range r.visits.length).any fun i => decide (vIx r.visits (nth r.visits i) ≠ (i : Int))) = true then 6 else if r.visits.all (pairB x.orders r.visits) = false then 19 else if apB x (ordS r.visits) = true then 20 else if x.before.all (rbefB (ordS r.visits) r.visits) = false then 21 else 0 := by
        rw [rchk, if_neg (by rw [any_no hno]; simp)]
      have hin : ∀ j, j < r.visits.length → 0 ≤ (nth r.visits j).order ∧ (nth r.visits j).order < x.orders.length := fun j hj => by
        have := hno j hj
        simpa [outB] using this
      have hmem : ∀ v ∈ r.visits, 0 ≤ v.order ∧ v.order < x.orders.length := fun v hv => by
        obtain ⟨j, hj, rfl⟩ := List.mem_iff_getElem.1 hv
        rw [← nth_get hj]; exact hin j hj
      have hord : ordR r.visits = (((ordS r.visits : Nat) : Int), 0) := by
        rw [ordR, if_pos]
        rw [List.all_eq_true]
        intro v hv
        have := hmem v hv
        simp [inS]; omega
      have hlt : ordS r.visits < 9223372036854775808 := by
        have := ordS_lt r.visits.length (l := r.visits) (Nat.le_refl _) (fun v hv => by
          rw [List.take_length] at hv
          have := hmem v hv
          simp [inS]; omega)
        rwa [List.take_length] at this
      have hoc := rorders_c r hl
      rw [hord] at hoc
      refine useT hoc ?_
      simp (disch := omega) only [instO, rteO, go_sem, seval, reduceCtorEq, ↓reduceIte]
      refine acond_b (fun h3 => ?_) (fun h3 => ?_) <;> (try simp only [decide_eq_true_eq, decide_eq_false_iff_not] at h3) <;> simp (disch := omega) only [Sh.out h3, go_sem, seval, reduceCtorEq, ↓reduceIte]
      · rw [hr1, if_pos (by omega)]
      · rw [hr1, if_neg (by omega)]
        clear hno hr1 h3 h hk
        refine awp_for [2, 5, 7] (fun k : Nat => [(9, .p (.int .i64 k))]) (fun _ => [instO x, rteO r]) (fun k => k ≤ r.visits.length ∧ ∀ j, j < k → (nth x.orders (nth r.visits j).order.toNat).off = false) (fun k => r.visits.length - k) 0 (by simp) (Weak.mk ?_) ?_
        · simp (disch := omega) only [instO, rteO, go_sem, seval, reduceCtorEq, ↓reduceIte]
        · rintro k ⟨hk, hno⟩
          simp (disch := omega) only [instO, rteO, go_sem, seval, reduceCtorEq, ↓reduceIte]
          refine acond_b (fun h => ?_) (fun h => ?_) <;> (try simp only [decide_eq_true_eq, decide_eq_false_iff_not] at h) <;> simp (disch := omega) only [Sh.out h, go_sem, seval, reduceCtorEq, ↓reduceIte]
          · have hk2 : k < r.visits.length := by omega
            obtain ⟨i1, i2⟩ := hin k hk2
            have i3 : (nth r.visits k).order.toNat < x.orders.length := by omega
            refine awp_drawnA mixed (by kernel_rfl) (by kernel_rfl) ?_
            simp (disch := omega) only [elt_map, go_sem, seval, reduceCtorEq, ↓reduceIte]
            refine acond_b (fun h4 => ?_) (fun h4 => ?_) <;> (try simp only [decide_eq_true_eq, decide_eq_false_iff_not] at h4) <;> simp (disch := omega) only [Sh.out h4, go_sem, seval, reduceCtorEq, ↓reduceIte]
            · rw [if_pos (any_yes hk2 h4)]
            · exact ⟨k + 1, ⟨by omega, upto_iff.2 ⟨hno, h4⟩⟩, by omega, Weak.mk (by simp (disch := omega) only [instO, rteO, go_sem, seval, reduceCtorEq, ↓reduceIte])⟩
          · have hkl : k = r.visits.length := by omega
            subst hkl
            have e9 : (r.visits.any fun v => (nth x.orders v.order.toNat).off) = false := any_no hno
            rw [e9, if_neg (by simp)]
            clear hno h hk
            refine awp_for [2, 5, 7] (fun k : Nat => [(10, .p (.int .i64 k))]) (fun _ => [instO x, rteO r]) (fun k => k ≤ r.visits.length ∧ ∀ j, j < k → vIx r.visits (nth r.visits j) = (j : Int)) (fun k => r.visits.length - k) 0 (by simp) (Weak.mk ?_) ?_
            · simp (disch := omega) only [instO, rteO, go_sem, seval, reduceCtorEq, ↓reduceIte]
            · rintro k ⟨hk, hno⟩
              simp (disch := omega) only [instO, rteO, go_sem, seval, reduceCtorEq, ↓reduceIte]
              refine acond_b (fun h => ?_) (fun h => ?_) <;> (try simp only [decide_eq_true_eq, decide_eq_false_iff_not] at h) <;> simp (disch := omega) only [Sh.out h, go_sem, seval, reduceCtorEq, ↓reduceIte]
              · have hk2 : k < r.visits.length := by omega
                refine (rindex_c r.visits r.visits_c (nth r.visits k) hl).use ?_
                simp (disch := omega) only [go_sem, seval, reduceCtorEq, ↓reduceIte]
                refine acond_b (fun h4 => ?_) (fun h4 => ?_) <;> (try simp only [decide_eq_true_eq, decide_eq_false_iff_not] at h4) <;> simp (disch := omega) only [Sh.out h4, go_sem, seval, reduceCtorEq, ↓reduceIte]
                · have : ((List.range r.visits.length).any fun i => decide (vIx r.visits (nth r.visits i) ≠ (i : Int))) = true := by
                    rw [List.any_eq_true]; exact ⟨k, by simpa using hk2, by simpa using h4⟩
                  rw [if_pos this]
                · exact ⟨k + 1, ⟨by omega, upto_iff.2 ⟨hno, by omega⟩⟩, by omega, Weak.mk (by simp (disch := omega) only [instO, rteO, go_sem, seval, reduceCtorEq, ↓reduceIte])⟩
              · have hkl : k = r.visits.length := by omega
                subst hkl
                have : ((List.range r.visits.length).any fun i => decide (vIx r.visits (nth r.visits i) ≠ (i : Int))) = false := by
                  rw [List.any_eq_false]; intro i hi; simpa using hno i (by simpa using hi)
                rw [this, if_neg (by simp)]
                refine (rpaired_c x r.visits r.visits_c hl (by omega) hp hmem).use ?_
                simp (disch := omega) only [go_sem, seval, reduceCtorEq, ↓reduceIte]
                refine acond_b (fun h4 => ?_) (fun h4 => ?_) <;> (try simp only [decide_eq_true_eq, decide_eq_false_iff_not] at h4) <;> simp (disch := omega) only [Sh.out h4, go_sem, seval, reduceCtorEq, ↓reduceIte]
                · rw [if_pos (by simpa using h4)]
                · rw [if_neg (by simpa using h4)]
                  refine (rapart_c x (ordS r.visits) hlt hap).use ?_
                  simp (disch := omega) only [go_sem, seval, reduceCtorEq, ↓reduceIte]
                  refine acond_b (fun h5 => ?_) (fun h5 => ?_) <;> (try simp only [decide_eq_true_eq, decide_eq_false_iff_not] at h5) <;> simp (disch := omega) only [Sh.out h5, go_sem, seval, reduceCtorEq, ↓reduceIte]
                  · rw [if_pos (by simpa using h5)]
                  · rw [if_neg (by simpa using h5)]
                    refine (rbefore_c x (ordS r.visits) r.visits r.visits_c hlt hl hbe).use ?_
                    simp (disch := omega) only [go_sem, seval, reduceCtorEq, ↓reduceIte]
                    refine acond_b (fun h6 => ?_) (fun h6 => ?_) <;> (try simp only [decide_eq_true_eq, decide_eq_false_iff_not] at h6) <;> simp (disch := omega) only [Sh.out h6, go_sem, seval, reduceCtorEq, ↓reduceIte]
                    · rw [if_pos (by simpa using h6)]
                    · rw [if_neg (by simpa using h6)]
end Go.Proofs.YtccjopdlbolnhaaGreat.K
set_option linter.unusedVariables false
set_option linter.unusedSimpArgs false
namespace Go.Proofs.YtccjopdlbolnhaaGreat.K
open Go Go.AM Go.Proofs
/-- what of a right instance the sequences need -/
structure IFacts (x : Inst) : Prop where
  len : x.orders.length ≤ 10
  plc : Plc x
  vne : Vne x
  val : Val x.orders.length x.before
  ne : ∀ p ∈ x.before, p.1 ≠ p.2
  aval : Val x.orders.length x.apart
theorem flt_ok {n : Int} {word : List UInt8} {sm : Int × Int → Int × Int → Bool} {l : List (Int × Int)} (h : fltU n word sm l l.length = []) : ∀ p ∈ l, okP n p = true := by
  intro p hp
  obtain ⟨i, hi, rfl⟩ := List.mem_iff_getElem.1 hp
  have h2 := (List.append_eq_nil_iff.1 h).2
  rw [List.flatMap_eq_nil_iff] at h2
  have h3 := h2 i (by simpa using hi)
  rw [flt, nth_get hi] at h3
  cases h4 : okP n l[i] with
  | true => rfl
  | false => rw [h4] at h3; simp at h3
theorem instFacts {x : Inst} (h : InstOk x) : IFacts x := by
  have ho := h.orders
  obtain ⟨h1, h2⟩ := List.append_eq_nil_iff.1 h.rules
  have ha := flt_ok h1
  have hb := flt_ok h2
  have hpl : Plc x := fun o hm => by
    obtain ⟨i, hi, rfl⟩ := List.mem_iff_getElem.1 hm
    have := ho.2 i hi
    rw [← nth_get hi]
    exact ⟨this.pick.1, this.drp.1⟩
  have val : ∀ l : List (Int × Int), (∀ p ∈ l, okP x.orders.length p = true) → Val x.orders.length l := fun l h p hp => by
    have := h p hp
    simp [okP] at this; omega
  refine ⟨ho.1, hpl, fun i hi => ?_, val _ hb, fun p hp => ?_, val _ ha⟩
  · have h3 := ho.2 i hi
    have h4 := hpl _ (nth_mem hi)
    have h5 := h3.one
    unfold visO
    by_cases h6 : 0 ≤ (nth x.orders i).pick.place
    · simp [h6]
    · have : 0 ≤ (nth x.orders i).drp.place := by omega
      simp [this]
  · have := hb p hp
    simp [okP] at this; exact this.2
theorem hasO_iff {l : List Vis} {o : Int} : hasO l o = true ↔ ∃ v ∈ l, v.order = o := by simp [hasO]
theorem ordS_bit : ∀ (l : List Vis) (i : Nat), (ordS l).testBit i = true ↔ ∃ v ∈ l, v.order.toNat = i := by
  have key : ∀ (l : List Vis) (s i : Nat), (l.foldl (fun s v => s ||| pw v.order.toNat) s).testBit i = true ↔ s.testBit i = true ∨ ∃ v ∈ l, v.order.toNat = i := by
    intro l
    induction l with
    | nil => intro s i; simp
    | cons v l ih =>
      intro s i
      rw [List.foldl_cons, ih, Nat.testBit_or, testBit_pw, Bool.or_eq_true, decide_eq_true_eq, or_assoc]
      refine or_congr Iff.rfl ?_
      constructor
      · rintro (h | ⟨w, hw, h⟩)
        · exact ⟨v, by simp, h⟩
        · exact ⟨w, by simp [hw], h⟩
      · rintro ⟨w, hw, h⟩
        rcases List.mem_cons.1 hw with rfl | hw
        · exact .inl h
        · exact .inr ⟨w, hw, h⟩
  intro l i
  rw [ordS, key]
  simp
def Inr (x : Inst) (l : List Vis) : Prop := ∀ v ∈ l, 0 ≤ v.order ∧ v.order < x.orders.length
theorem ordS_has {x : Inst} {l : List Vis} (hi : Inr x l) (hn : x.orders.length ≤ 60) (o : Int) (h : 0 ≤ o ∧ o ≤ 62) : nHas (ordS l) o = hasO l o := by
  rw [Bool.eq_iff_iff, nHas_iff, ordS_bit, hasO_iff]
  constructor
  · rintro ⟨h1, h2, v, hv, h3⟩
    have := hi v hv
    exact ⟨v, hv, by omega⟩
  · rintro ⟨v, hv, rfl⟩
    exact ⟨h.1, h.2, v, hv, rfl⟩
theorem vIx_at {l : List Vis} (hd : l.Nodup) {k : Nat} (hk : k < l.length) : vIx l (nth l k) = (k : Int) := by
  refine fIx_at hk (by simp) fun j hj => ?_
  have : nth l k ≠ nth l j := by
    rw [nth_get hk, nth_get (by omega)]
    exact fun e => (List.pairwise_iff_getElem.1 hd) j k (by omega) hk hj e.symm
  simpa using this
theorem vIx_le {l : List Vis} {k : Nat} (hk : k < l.length) : 0 ≤ vIx l (nth l k) ∧ vIx l (nth l k) ≤ (k : Int) := by
  have hm : 0 ≤ vIx l (nth l k) := vIx_mem.2 (nth_mem hk)
  refine ⟨hm, ?_⟩
  unfold vIx fIx at hm ⊢
  cases hv : l.findIdx? (fun u => decide (nth l k = u)) with
  | none => rw [hv] at hm; simp at hm
  | some i =>
    rw [List.findIdx?_eq_some_iff_getElem] at hv
    obtain ⟨h1, h2, h3⟩ := hv
    simp
    rcases Nat.lt_or_ge k i with h4 | h4
    · have := h3 k h4
      rw [← nth_get hk] at this
      simp at this
    · exact h4
theorem take_mem {l : List Vis} {v : Vis} {i : Nat} (h : v ∈ l.take i) : ∃ j, j < i ∧ j < l.length ∧ nth l j = v := by
  obtain ⟨j, hj, rfl⟩ := List.mem_iff_getElem.1 h
  simp at hj
  exact ⟨j, by omega, by omega, by rw [List.getElem_take, nth_get (by omega)]⟩
theorem mem_take {l : List Vis} {i j : Nat} (h : j < i) (hl : j < l.length) : nth l j ∈ l.take i := by
  rw [nth_get hl]
  exact List.mem_iff_getElem.2 ⟨j, by simp; omega, by simp⟩
theorem twiceB_iff {l : List Vis} : twiceB l = false ↔ l.Nodup := by
  rw [twiceB, List.any_eq_false]
  constructor
  · intro h
    rw [List.nodup_iff_pairwise_ne, List.pairwise_iff_getElem]
    intro i j hi hj hij e
    have := h j (by simpa using hj)
    simp only [decide_eq_true_eq, vIx_mem] at this
    refine this ?_
    rw [nth_get hj, ← e, ← nth_get hi]
    exact mem_take hij hi
  · intro h j hj
    simp only [decide_eq_true_eq, vIx_mem]
    intro hm
    obtain ⟨i, h1, h2, h3⟩ := take_mem hm
    have hj2 : j < l.length := by simpa using hj
    have e1 := vIx_at h h2
    have e2 := vIx_at h hj2
    rw [h3] at e1
    omega
theorem twice_ref {l : List Vis} : ((List.range l.length).any fun i => decide (vIx l (nth l i) ≠ (i : Int))) = twiceB l := by
  rw [Bool.eq_iff_iff]
  constructor
  · intro h
    rw [List.any_eq_true] at h
    obtain ⟨i, hi, h2⟩ := h
    cases ht : twiceB l with
    | true => rfl
    | false => have := vIx_at (twiceB_iff.1 ht) (by simpa using hi); simp [this] at h2
  · intro h
    rw [twiceB, List.any_eq_true] at h
    obtain ⟨j, hj, h2⟩ := h
    simp only [decide_eq_true_eq, vIx_mem] at h2
    obtain ⟨i, h3, h4, h5⟩ := take_mem h2
    rw [List.any_eq_true]
    refine ⟨j, hj, ?_⟩
    have := (vIx_le h4).2
    rw [h5] at this
    simp only [ne_eq, decide_not, Bool.not_eq_true', decide_eq_false_iff_not]
    omega
/-- the first place of an order -/
def oIx (l : List Vis) (b : Int) : Int := fIx (fun v => decide (v.order = b)) l
theorem oIx_mem {l : List Vis} {b : Int} : 0 ≤ oIx l b ↔ ∃ v ∈ l, v.order = b := by
  have := fIx_ge (f := fun v => decide (v.order = b)) (l := l)
  rw [← hasO_iff, hasO, ← this, oIx]; simp
theorem oIx_get {l : List Vis} {b : Int} (h : 0 ≤ oIx l b) : (oIx l b).toNat < l.length ∧ (nth l (oIx l b).toNat).order = b ∧ ∀ j, j < (oIx l b).toNat → (nth l j).order ≠ b := by
  unfold oIx fIx at h ⊢
  cases hv : l.findIdx? (fun v => decide (v.order = b)) with
  | none => rw [hv] at h; simp at h
  | some i =>
    rw [List.findIdx?_eq_some_iff_getElem] at hv
    obtain ⟨h1, h2, h3⟩ := hv
    simp at h2
    refine ⟨by simpa using h1, by simpa [nth_get h1] using h2, fun j hj => ?_⟩
    have hj2 : j < i := by simpa using hj
    have := h3 j hj2
    rw [nth_get (by omega)]
    simpa using this
theorem oIx_le {l : List Vis} {b : Int} {k : Nat} (hk : k < l.length) (h : (nth l k).order = b) : 0 ≤ oIx l b ∧ oIx l b ≤ (k : Int) := by
  have h0 : 0 ≤ oIx l b := oIx_mem.2 ⟨_, nth_mem hk, h⟩
  refine ⟨h0, ?_⟩
  obtain ⟨h1, h2, h3⟩ := oIx_get h0
  rcases Nat.lt_or_ge k (oIx l b).toNat with h4 | h4
  · exact absurd h (h3 k h4)
  · omega
/-- a pair is in order: all visits of its first order stand before the first one of its second -/
theorem beforeB_iff {l : List Vis} {a b : Int} : beforeB l a b = true ↔ (0 ≤ oIx l b → (∃ v ∈ l, v.order = a) ∧ ∀ j, j < l.length → (nth l j).order = a → (j : Int) < oIx l b) := by
  unfold beforeB
  rw [show fIx (fun v => decide (v.order = b)) l = oIx l b from rfl]
  by_cases h : oIx l b < 0
  · rw [if_pos h]
    exact ⟨fun _ h2 => by omega, fun _ => rfl⟩
  · rw [if_neg h, Bool.and_eq_true, hasO_iff]
    have h0 : 0 ≤ oIx l b := by omega
    obtain ⟨h1, h2, h3⟩ := oIx_get h0
    have hd : (!hasO (l.drop (oIx l b).toNat) a) = true ↔ ∀ j, j < l.length → (nth l j).order = a → (j : Int) < oIx l b := by
      rw [Bool.not_eq_true', ← Bool.not_eq_true, hasO_iff]
      constructor
      · intro hno j hj e
        rcases Int.lt_or_le (j : Int) (oIx l b) with h4 | h4
        · exact h4
        · refine absurd ⟨nth l j, ?_, e⟩ hno
          rw [nth_get hj]
          exact List.mem_iff_getElem.2 ⟨j - (oIx l b).toNat, by simp; omega, by simp; congr 1; omega⟩
      · rintro hall ⟨v, hv, e⟩
        obtain ⟨j, hj, rfl⟩ := List.mem_iff_getElem.1 hv
        simp at hj
        rw [List.getElem_drop] at e
        have := hall ((oIx l b).toNat + j) (by omega) (by rw [nth_get (by omega)]; exact e)
        omega
    rw [hd]
    exact ⟨fun h _ => h, fun h => h h0⟩
theorem before_ref {x : Inst} {l : List Vis} (hi : Inr x l) (hn : x.orders.length ≤ 60) {p : Int × Int} (h1 : 0 ≤ p.1 ∧ p.1 < x.orders.length) (h2 : 0 ≤ p.2 ∧ p.2 < x.orders.length) (hne : p.1 ≠ p.2) : rbefB (ordS l) l p = beforeB l p.1 p.2 := by
  rw [Bool.eq_iff_iff, beforeB_iff, rbefB, ordS_has hi hn _ (by omega), ordS_has hi hn _ (by omega)]
  simp only [Bool.or_eq_true, Bool.not_eq_true', Bool.and_eq_true]
  rw [← Bool.not_eq_true, hasO_iff, hasO_iff, ← oIx_mem, ← oIx_mem (b := p.1)]
  constructor
  · rintro (h | ⟨h3, h4⟩) h0
    · exact absurd h0 h
    · refine ⟨h3, fun j hj e => ?_⟩
      rw [List.all_eq_true] at h4
      have h5 := h4 j (by simpa using hj)
      rw [List.all_eq_true] at h5
      obtain ⟨g1, g2, g3⟩ := oIx_get h0
      rcases Int.lt_or_le (j : Int) (oIx l p.2) with h6 | h6
      · exact h6
      · have hne2 : j ≠ (oIx l p.2).toNat := fun e2 => hne (by rw [← e, e2]; exact g2)
        have := h5 (oIx l p.2).toNat (by simp; omega)
        simp [lateB, e, g2] at this
  · intro h
    by_cases h0 : 0 ≤ oIx l p.2
    · obtain ⟨h3, h4⟩ := h h0
      refine .inr ⟨h3, ?_⟩
      rw [List.all_eq_true]
      intro j hj
      rw [List.all_eq_true]
      intro k hk
      simp at hj hk
      cases hb : lateB l p.1 p.2 j k with
      | false => rfl
      | true =>
        simp [lateB] at hb
        have h5 := h4 j hj hb.1
        have h6 := (oIx_le (by omega) hb.2).2
        omega
    · exact .inl h0
theorem rchk_eq {x : Inst} (hf : IFacts x) (l : List Vis) : rchk x l = seqChk x l := by
  by_cases ho : l.any (outB x) = true
  · rw [rchk, if_pos ho, seqChk, if_pos (.inr ho)]
  · have ho' : l.any (outB x) = false := by simpa using ho
    have hi : Inr x l := fun v hv => by
      rw [List.any_eq_false] at ho'
      simpa [outB] using ho' v hv
    have hn : x.orders.length ≤ 60 := by have := hf.len; omega
    rw [rchk, if_neg ho, seqChk]
    by_cases h0 : l.length = 0
    · rw [if_pos h0, if_pos (.inl h0)]
    · have hc : ¬ (l.length = 0 ∨ l.any (outB x) = true) := fun h => h.elim h0 ho
      rw [if_neg h0, if_neg hc, twice_ref]
      have e1 : apB x (ordS l) = x.apart.any fun p => hasO l p.1 && hasO l p.2 := by
        rw [apB, Bool.eq_iff_iff, List.any_eq_true, List.any_eq_true]
        have : ∀ p ∈ x.apart, (nHas (ordS l) p.1 && nHas (ordS l) p.2) = (hasO l p.1 && hasO l p.2) := fun p hp => by
          have := hf.aval p hp
          rw [ordS_has hi hn _ (by omega), ordS_has hi hn _ (by omega)]
        exact ⟨fun ⟨p, hp, h⟩ => ⟨p, hp, by rw [← this p hp]; exact h⟩, fun ⟨p, hp, h⟩ => ⟨p, hp, by rw [this p hp]; exact h⟩⟩
      have e2 : (x.before.all (rbefB (ordS l) l) = false) = ((x.before.any fun p => !beforeB l p.1 p.2) = true) := by
        have : ∀ p ∈ x.before, rbefB (ordS l) l p = beforeB l p.1 p.2 := fun p hp => by
          have := hf.val p hp
          exact before_ref hi hn (by omega) (by omega) (hf.ne p hp)
        rw [List.all_eq_false, List.any_eq_true]
        simp only [eq_iff_iff]
        exact ⟨fun ⟨p, hp, h⟩ => ⟨p, hp, by rw [← this p hp]; simpa using h⟩, fun ⟨p, hp, h⟩ => ⟨p, hp, by rw [this p hp]; simpa using h⟩⟩
      rw [e1]
      simp only [e2]
end Go.Proofs.YtccjopdlbolnhaaGreat.K
set_option linter.unusedVariables false
set_option linter.unusedSimpArgs false
namespace Go.Proofs.YtccjopdlbolnhaaGreat.K
open Go Go.AM Go.Proofs
theorem cmpI_lt {a b : Int} : cmpI a b < 0 ↔ a < b := by unfold cmpI; split <;> (try split) <;> omega
end Go.Proofs.YtccjopdlbolnhaaGreat.K
set_option linter.unusedVariables false
set_option linter.unusedSimpArgs false
namespace Go.Proofs.YtccjopdlbolnhaaGreat.K
section
variable {L : Type} (fin : L → Int) (beats : L → L → Bool) (nxt : Nat → L → Bool → Option L) (choices : Nat → List Bool)
/-- the first one that ends first -/
def fmL : Option L → List L → Option L
  | b, [] => b
  | none, x :: l => fmL (some x) l
  | some m, x :: l => if fin x < fin m then fmL (some x) l else fmL (some m) l
theorem fmL_some : ∀ (l : List L) (m : L), ∃ z, fmL fin (some m) l = some z ∧ fin z ≤ fin m ∧ ∀ y ∈ l, fin z ≤ fin y
  | [], m => ⟨m, rfl, by omega, by simp⟩
  | x :: l, m => by
    rw [fmL]
    split
    · rename_i h
      obtain ⟨z, e, h1, h2⟩ := fmL_some l x
      refine ⟨z, e, by omega, fun y hy => ?_⟩
      rcases List.mem_cons.1 hy with rfl | hy
      · exact h1
      · exact h2 y hy
    · rename_i h
      obtain ⟨z, e, h1, h2⟩ := fmL_some l m
      refine ⟨z, e, h1, fun y hy => ?_⟩
      rcases List.mem_cons.1 hy with rfl | hy
      · omega
      · exact h2 y hy
def runO : Nat → L → List Bool → Option L
  | _, x, [] => some x
  | k, x, b :: bs => match nxt k x b with
    | some y => runO (k + 1) y bs
    | none => none
/-- the lists that come behind one, itself among them -/
def fromB : List Bool → List (List Bool)
  | [] => [[]]
  | b :: bs => if b then (fromB bs).map (true :: ·) else (fromB bs).map (false :: ·) ++ (fromB (List.replicate bs.length false)).map (true :: ·)
termination_by l => l.length
decreasing_by all_goals simp
def nextB : List Bool → Option (List Bool)
  | [] => none
  | b :: bs => match nextB bs with
    | some l => some (b :: l)
    | none => if b then none else some (true :: List.replicate bs.length false)
theorem fromB_next : ∀ l : List Bool, fromB l = l :: (match nextB l with | some r => fromB r | none => [])
  | [] => by simp [fromB, nextB]
  | b :: bs => by
    have ih := fromB_next bs
    have e0 : ∀ l : List Bool, fromB (true :: l) = (fromB l).map (true :: ·) := fun l => by rw [fromB]; simp
    have e1 : ∀ l : List Bool, fromB (false :: l) = (fromB l).map (false :: ·) ++ (fromB (List.replicate l.length false)).map (true :: ·) := fun l => by rw [fromB]; simp
    cases b with
    | true =>
      rw [e0, ih, nextB]
      cases h : nextB bs with
      | none => simp
      | some r => simp [e0]
    | false =>
      rw [e1, ih, nextB]
      cases h : nextB bs with
      | none => simp [e0]
      | some r =>
        have hl : r.length = bs.length := nlen bs r h
        simp [e1, hl]
where nlen : ∀ (l r : List Bool), nextB l = some r → r.length = l.length
  | [], r, h => by simp [nextB] at h
  | b :: bs, r, h => by
    rw [nextB] at h
    cases h2 : nextB bs with
    | none =>
      rw [h2] at h
      cases b <;> simp at h
      subst h; simp
    | some q =>
      rw [h2] at h
      simp at h
      subst h
      simp [nlen bs q h2]
end
end Go.Proofs.YtccjopdlbolnhaaGreat.K
set_option linter.unusedVariables false
set_option linter.unusedSimpArgs false
namespace Go.Proofs.YtccjopdlbolnhaaGreat.K
open Go Go.AM Go.Proofs
def onB (x : Inst) (l : List Vis) (n i : Nat) : Bool := (l.take n).foldl (fun on v => if v.order = (i : Int) then !v.drp else on) (decide ((nth x.orders i).pick.place < 0))
/-- what of a right route the loads need -/
structure SqOk (x : Inst) (l : List Vis) : Prop where
  ne : l ≠ []
  inr : Inr x l
  nd : l.Nodup
  pair : ∀ v ∈ l, pairB x.orders l v = true
theorem sqOk_of {x : Inst} {l : List Vis} (h : seqChk x l = 0) : SqOk x l := by
  unfold seqChk at h
  split at h
  · simp at h
  · rename_i h1
    split at h
    · simp at h
    · split at h
      · simp at h
      · rename_i h3
        split at h
        · simp at h
        · rename_i h4
          refine ⟨fun e => h1 (.inl (by simp [e])), fun v hv => ?_, twiceB_iff.1 (by simpa using h3), fun v hv => ?_⟩
          · have h5 : ¬ (l.any (outB x)) = true := fun e => h1 (.inr e)
            have h6 : outB x v = false := by
              cases hb : outB x v with
              | false => rfl
              | true => exact absurd (List.any_eq_true.2 ⟨v, hv, hb⟩) h5
            simpa [outB] using h6
          · have h5 : l.all (pairB x.orders l) = true := by simpa using h4
            exact List.all_eq_true.1 h5 v hv
/-- the visits of an order on a right route -/
structure OwnV (x : Inst) (l : List Vis) (i : Nat) : Prop where
  pick : 0 ≤ (nth x.orders i).pick.place → (⟨i, false⟩ : Vis) ∈ l
  drp : 0 ≤ (nth x.orders i).drp.place → (⟨i, true⟩ : Vis) ∈ l
  both : 0 ≤ (nth x.orders i).pick.place → 0 ≤ (nth x.orders i).drp.place → vIx l ⟨i, false⟩ < vIx l ⟨i, true⟩
  isP : (⟨i, false⟩ : Vis) ∈ l → 0 ≤ (nth x.orders i).pick.place
  isD : (⟨i, true⟩ : Vis) ∈ l → 0 ≤ (nth x.orders i).drp.place
theorem SqOk.own {x : Inst} {l : List Vis} (h : SqOk x l) {i : Nat} (hi : ∃ v ∈ l, v.order = (i : Int)) : OwnV x l i := by
  obtain ⟨v0, hv0, ho⟩ := hi
  have key : ∀ v ∈ l, v.order = (i : Int) → v ∈ visO x.orders i ∧ ascB l (-1) (visO x.orders i) = true := fun v hv hvo => by
    have := h.pair v hv
    simp only [pairB, hvo, Int.toNat_natCast, Bool.and_eq_true, decide_eq_true_eq] at this
    exact ⟨vIx_mem.1 this.1, this.2⟩
  obtain ⟨_, hasc⟩ := key v0 hv0 ho
  have mem : ∀ b : Bool, (⟨i, b⟩ : Vis) ∈ l → (⟨i, b⟩ : Vis) ∈ visO x.orders i := fun b hb => (key _ hb rfl).1
  have hp : (⟨i, false⟩ : Vis) ∈ visO x.orders i → 0 ≤ (nth x.orders i).pick.place := fun hm => by
    unfold visO at hm
    rcases List.mem_append.1 hm with hm | hm
    · split at hm
      · assumption
      · simp at hm
    · split at hm <;> simp at hm
  have hd : (⟨i, true⟩ : Vis) ∈ visO x.orders i → 0 ≤ (nth x.orders i).drp.place := fun hm => by
    unfold visO at hm
    rcases List.mem_append.1 hm with hm | hm
    · split at hm <;> simp at hm
    · split at hm
      · assumption
      · simp at hm
  have m1 : ∀ v, -1 < vIx l v → v ∈ l := fun v hv => vIx_mem.1 (by omega)
  unfold visO at hasc
  by_cases c1 : 0 ≤ (nth x.orders i).pick.place <;> by_cases c2 : 0 ≤ (nth x.orders i).drp.place
  · simp only [c1, c2, if_true, List.cons_append, List.nil_append, ascB, Bool.and_true, Bool.and_eq_true, decide_eq_true_eq] at hasc
    exact ⟨fun _ => m1 _ hasc.1, fun _ => m1 _ (by omega), fun _ _ => hasc.2, fun _ => c1, fun _ => c2⟩
  · simp only [c1, c2, if_true, if_false, List.append_nil, ascB, Bool.and_true, decide_eq_true_eq] at hasc
    exact ⟨fun _ => m1 _ hasc, fun h => absurd h c2, fun _ h => absurd h c2, fun _ => c1, fun hm => hd (mem _ hm)⟩
  · simp only [c1, c2, if_true, if_false, List.nil_append, ascB, Bool.and_true, decide_eq_true_eq] at hasc
    exact ⟨fun h => absurd h c1, fun _ => m1 _ hasc, fun h => absurd h c1, fun hm => hp (mem _ hm), fun _ => c2⟩
  · exact ⟨fun h => absurd h c1, fun h => absurd h c2, fun h => absurd h c1, fun hm => hp (mem _ hm), fun hm => hd (mem _ hm)⟩
theorem sum_filter {p : Nat → Bool} {f : Nat → Int} : ∀ l : List Nat, ((l.filter p).map f).sum = (l.map fun i => if p i = true then f i else 0).sum
  | [] => rfl
  | a :: l => by
    rw [List.filter_cons, List.map_cons, List.sum_cons]
    by_cases h : p a = true
    · rw [if_pos h, List.map_cons, List.sum_cons, sum_filter l, if_pos h]
    · rw [if_neg h, sum_filter l, if_neg h]; omega
/-- the load on board behind n visits, in one dimension -/
def sumB (x : Inst) (l : List Vis) (n j : Nat) : Int := ((List.range x.orders.length).map fun i => if (onB x l n i && hasO l i) = true then nth (nth x.orders i).load j else 0).sum
/-- what is on board behind n visits -/
def aftF (x : Inst) (l : List Vis) (n : Nat) : List Int := (List.range (dimsOf x.types).toNat).map fun j => sumB x l n j
theorem aftF_len {x : Inst} {l : List Vis} {n : Nat} : (aftF x l n).length = (dimsOf x.types).toNat := by simp [aftF]
end Go.Proofs.YtccjopdlbolnhaaGreat.K
set_option linter.unusedVariables false
set_option linter.unusedSimpArgs false
namespace Go.Proofs.YtccjopdlbolnhaaGreat.K
open Go Go.AM Go.Proofs
set_option maxRecDepth 8000
set_option maxHeartbeats 8000000
def segI (l : List Pt) (t : Int) (i : Nat) : Bool := decide ((nth l i).t ≤ t) && decide (t < (nth l (i + 1)).t)
def segA (p q : Pt) (t : Int) : Int := p.a + ((t - p.t) * (q.a - p.a) + q.t - p.t - 1) / (q.t - p.t)
/-- the arrival of a travel function -/
def arrT (l : List Pt) (t : Int) : Int := match (List.range (l.length - 1)).find? (segI l t) with
  | some i => segA (nth l i) (nth l (i + 1)) t
  | none => if (nth l 0).t < t then t + (nth l (l.length - 1)).a - (nth l (l.length - 1)).t else t + (nth l 0).a - (nth l 0).t
theorem arrT_at {l : List Pt} {t : Int} {i : Nat} (hi : i + 1 < l.length) (hno : ∀ j, j < i → segI l t j = false) (h : segI l t i = true) : arrT l t = segA (nth l i) (nth l (i + 1)) t := by
  have : (List.range (l.length - 1)).find? (segI l t) = some i := by
    rw [List.find?_eq_some_iff_getElem]
    refine ⟨h, i, by simp; omega, by simp, fun j hj => ?_⟩
    simp [hno j hj]
  rw [arrT, this]
theorem arrT_no {l : List Pt} {t : Int} (hno : ∀ j, j + 1 < l.length → segI l t j = false) : arrT l t = if (nth l 0).t < t then t + (nth l (l.length - 1)).a - (nth l (l.length - 1)).t else t + (nth l 0).a - (nth l 0).t := by
  have : (List.range (l.length - 1)).find? (segI l t) = none := by
    rw [List.find?_eq_none]
    intro j hj
    simp at hj
    rw [hno j (by omega)]; simp
  rw [arrT, this]
theorem segA_rng {p q : Pt} {t : Int} (h1 : p.t ≤ t) (h2 : t < q.t) (hp : 0 ≤ p.t) (hq : q.t ≤ 4096) (ha : p.a ≤ q.a) (hpa : 0 ≤ p.a) (hqa : q.a ≤ 8192) : 0 ≤ (t - p.t) * (q.a - p.a) ∧ (t - p.t) * (q.a - p.a) ≤ 33554432 := by
  refine ⟨Int.mul_nonneg (by omega) (by omega), ?_⟩
  have : (t - p.t) * (q.a - p.a) ≤ 4096 * 8192 := Int.mul_le_mul (by omega) (by omega) (by omega) (by omega)
  omega
theorem arrive07_c (l : List Pt) (c : Bool) (t : Int) (hl : ptsOk l) (ht : 0 ≤ t ∧ t ≤ 1073741824) : ACalls Tryz.prog 105 [.p (.list c (l.map ePt)), .p (.int .i64 t)] [] fun x H' => x = .p (.int .i64 (arrT l t)) ∧ H' = [] := by
  obtain ⟨⟨hl1, hl2⟩, hpt⟩ := hl
  refine acalls_pure (fn := Tryz.f105) Tryz.func105 rfl isF105 ?_
  simp (disch := omega) only [Tryz.f105, go_sem, seval, reduceCtorEq, ↓reduceIte]
  refine ((ck07_c l c (by omega)).frozenE).useV fun m hm => ?_
  simp (disch := omega) only [go_sem, seval, reduceCtorEq, ↓reduceIte]
  have hm0 : m.length = 0 := by rw [hm.emp.2 ⟨⟨hl1, hl2⟩, hpt⟩]; rfl
  have e1 : ¬ t < 0 := by omega
  have e2 : ¬ 1073741824 < t := by omega
  simp (disch := omega) only [hm0, e1, e2, go_sem, seval, reduceCtorEq, ↓reduceIte]
  refine awp_for [0, 1] (fun k : Nat => [(5, .p (.int .i64 k))]) (fun _ => []) (fun k => k < l.length ∧ ∀ j, j < k → segI l t j = false) (fun k => l.length - k) 0 (by simp; omega) (Weak.mk ?_) ?_
  · simp (disch := omega) only [go_sem, seval, reduceCtorEq, ↓reduceIte]
  · rintro k ⟨hk, hno⟩
    simp (disch := omega) only [go_sem, seval, reduceCtorEq, ↓reduceIte]
    refine acond_b (fun h => ?_) (fun h => ?_) <;> (try simp only [decide_eq_true_eq, decide_eq_false_iff_not] at h) <;> simp (disch := omega) only [Sh.out h, go_sem, seval, reduceCtorEq, ↓reduceIte]
    · have hk2 : k + 1 < l.length := by omega
      obtain ⟨⟨p1, p2, p3, p4⟩, _⟩ := hpt k hk
      obtain ⟨⟨q1, q2, q3, q4⟩, q5⟩ := hpt (k + 1) hk2
      obtain ⟨r1, r2⟩ := q5 (by omega)
      rw [Nat.add_sub_cancel] at r1 r2
      refine aguard_t (fun h2 => ?_) (fun h2 => ?_) <;> (try simp only [decide_eq_true_eq, decide_eq_false_iff_not] at h2) <;> simp (disch := omega) only [Sh.out h2, go_sem, seval, reduceCtorEq, ↓reduceIte]
      · refine acond_b (fun h3 => ?_) (fun h3 => ?_) <;> (try simp only [decide_eq_true_eq, decide_eq_false_iff_not] at h3) <;> simp (disch := omega) only [Sh.out h3, go_sem, seval, reduceCtorEq, ↓reduceIte]
        · have hsg : segI l t k = true := by simp [segI, h2, h3]
          rw [arrT_at hk2 hno hsg]
          obtain ⟨s1, s2⟩ := segA_rng h2 h3 p1 q2 r2 (by omega) (by omega)
          have d1 : 0 ≤ ((t - (nth l k).t) * ((nth l (k + 1)).a - (nth l k).a) + (nth l (k + 1)).t - (nth l k).t - 1) / ((nth l (k + 1)).t - (nth l k).t) := Int.ediv_nonneg (by omega) (by omega)
          have d2 : ((t - (nth l k).t) * ((nth l (k + 1)).a - (nth l k).a) + (nth l (k + 1)).t - (nth l k).t - 1) / ((nth l (k + 1)).t - (nth l k).t) ≤ 33558528 := Int.le_trans (Int.ediv_le_self _ (by omega)) (by omega)
          have d3 : ¬ (nth l (k + 1)).t - (nth l k).t = 0 := by omega
          simp only [segA]
          refine awp_drawnA mixed (by kernel_rfl) (by kernel_rfl) ?_
          simp (disch := omega) only [d3, go_sem, seval, reduceCtorEq, ↓reduceIte]
        · have hsg : segI l t k = false := by simp [segI, h3]
          exact ⟨k + 1, ⟨by omega, upto_iff.2 ⟨hno, hsg⟩⟩, by omega, Weak.mk (by simp (disch := omega) only [go_sem, seval, reduceCtorEq, ↓reduceIte])⟩
      · have hsg : segI l t k = false := by simp [segI, h2]
        exact ⟨k + 1, ⟨by omega, upto_iff.2 ⟨hno, hsg⟩⟩, by omega, Weak.mk (by simp (disch := omega) only [go_sem, seval, reduceCtorEq, ↓reduceIte])⟩
    · have hkl : k + 1 = l.length := by omega
      rw [arrT_no (fun j hj => hno j (by omega))]
      obtain ⟨⟨p1, p2, p3, p4⟩, _⟩ := hpt 0 (by omega)
      obtain ⟨⟨q1, q2, q3, q4⟩, _⟩ := hpt (l.length - 1) (by omega)
      have i1 : ((l.length : Int) - 1).toNat = l.length - 1 := by omega
      refine acond_b (fun h2 => ?_) (fun h2 => ?_) <;> (try simp only [decide_eq_true_eq, decide_eq_false_iff_not] at h2) <;> simp (disch := omega) only [Sh.out h2, go_sem, seval, reduceCtorEq, ↓reduceIte]
theorem nth_in {α : Type} [Inhabited α] {l : List α} {i : Nat} (h : i < l.length) : nth l i ∈ l := by rw [nth_get h]; exact List.getElem_mem h
/-- the arrival over an arc -/
def arcR (a : Arc) : Prop := ptsOk a.travel ∧ a.slow.length ≤ 16 ∧ ∀ p ∈ a.slow, 0 ≤ p.t ∧ p.t ≤ 4096 ∧ 0 ≤ p.a ∧ p.a ≤ 4096
def slowS (l : List Pt) (t : Int) (k : Nat) : Int := (l.take k).foldl (fun s p => if p.t ≤ t then s + p.a else s) 0
def arrA (a : Arc) (t : Int) : Int := arrT a.travel t + slowS a.slow t a.slow.length
theorem slowS_succ {l : List Pt} {t : Int} {k : Nat} (h : k < l.length) : slowS l t (k + 1) = if (nth l k).t ≤ t then slowS l t k + (nth l k).a else slowS l t k := by
  rw [slowS, List.take_succ_eq_append_getElem h, List.foldl_append, nth_get h]; rfl
theorem slowS_rng {l : List Pt} {t : Int} (hl : ∀ p ∈ l, 0 ≤ p.a ∧ p.a ≤ 4096) : ∀ k, k ≤ l.length → 0 ≤ slowS l t k ∧ slowS l t k ≤ 4096 * k
  | 0, _ => by simp [slowS]
  | k + 1, h => by
    have ih := slowS_rng (t := t) hl k (by omega)
    have hp := hl _ (nth_in (show k < l.length by omega))
    rw [slowS_succ (by omega)]
    split <;> omega
theorem arrT_rng {l : List Pt} {t : Int} (hl : ptsOk l) (ht : 0 ≤ t ∧ t ≤ 1073741824) : 0 ≤ arrT l t ∧ arrT l t ≤ 1107304448 := by
  obtain ⟨⟨hl1, hl2⟩, hpt⟩ := hl
  unfold arrT
  split
  · rename_i i hi
    have hm := List.mem_of_find?_eq_some hi
    have hs := List.find?_some hi
    simp at hm
    simp only [segI, Bool.and_eq_true, decide_eq_true_eq] at hs
    obtain ⟨⟨p1, p2, p3, p4⟩, _⟩ := hpt i (by omega)
    obtain ⟨⟨q1, q2, q3, q4⟩, q5⟩ := hpt (i + 1) (by omega)
    obtain ⟨r1, r2⟩ := q5 (by omega)
    rw [Nat.add_sub_cancel] at r1 r2
    obtain ⟨s1, s2⟩ := segA_rng hs.1 hs.2 p1 q2 r2 (by omega) (by omega)
    have d1 : 0 ≤ ((t - (nth l i).t) * ((nth l (i + 1)).a - (nth l i).a) + (nth l (i + 1)).t - (nth l i).t - 1) / ((nth l (i + 1)).t - (nth l i).t) := Int.ediv_nonneg (by omega) (by omega)
    have d2 : ((t - (nth l i).t) * ((nth l (i + 1)).a - (nth l i).a) + (nth l (i + 1)).t - (nth l i).t - 1) / ((nth l (i + 1)).t - (nth l i).t) ≤ 33558528 := Int.le_trans (Int.ediv_le_self _ (by omega)) (by omega)
    unfold segA
    omega
  · obtain ⟨⟨p1, p2, p3, p4⟩, _⟩ := hpt 0 (by omega)
    obtain ⟨⟨q1, q2, q3, q4⟩, _⟩ := hpt (l.length - 1) (by omega)
    split <;> omega
theorem arrive09_c (a : Arc) (t : Int) (ha : arcR a) (ht : 0 ≤ t ∧ t ≤ 1073741824) : ACalls Tryz.prog 104 [.p (eArc a), .p (.int .i64 t)] [] fun x H' => x = .p (.int .i64 (arrA a t)) ∧ H' = [] := by
  obtain ⟨h1, h2, h3⟩ := ha
  have hr := arrT_rng h1 ht
  have hs := slowS_rng (t := t) (fun p hp => (h3 p hp).2.2)
  refine acalls_pure (fn := Tryz.f104) Tryz.func104 rfl isF104 ?_
  simp (disch := omega) only [Tryz.f104, go_sem, seval, reduceCtorEq, ↓reduceIte]
  refine (arrive07_c a.travel a.travel_c t h1 ht).use ?_
  simp (disch := omega) only [go_sem, seval, reduceCtorEq, ↓reduceIte]
  refine awp_for [1, 2] (fun k : Nat => [(5, .p (.int .i64 (arrT a.travel t + slowS a.slow t k))), (6, .p (.int .i64 k))]) (fun _ => [arcO a]) (fun k => k ≤ a.slow.length) (fun k => a.slow.length - k) 0 (by simp) (Weak.mk ?_) ?_
  · simp (disch := omega) only [arcO, slowS, List.foldl_nil, go_sem, seval, reduceCtorEq, ↓reduceIte]
    simp
  · intro k hk
    have hsk := hs k hk
    simp (disch := omega) only [arcO, go_sem, seval, reduceCtorEq, ↓reduceIte]
    refine acond_b (fun h => ?_) (fun h => ?_) <;> (try simp only [decide_eq_true_eq, decide_eq_false_iff_not] at h) <;> simp (disch := omega) only [Sh.out h, go_sem, seval, reduceCtorEq, ↓reduceIte]
    · have hk2 : k < a.slow.length := by omega
      have hp := h3 _ (nth_in hk2)
      have hsn := slowS_succ (t := t) hk2
      refine acond_b (fun h4 => ?_) (fun h4 => ?_) <;> (try simp only [decide_eq_true_eq, decide_eq_false_iff_not] at h4) <;> simp (disch := omega) only [Sh.out h4, go_sem, seval, reduceCtorEq, ↓reduceIte]
      · rw [if_pos h4] at hsn
        exact ⟨k + 1, by omega, by omega, Weak.mk (by simp (disch := omega) only [arcO, hsn, Int.add_assoc, go_sem, seval, reduceCtorEq, ↓reduceIte])⟩
      · rw [if_neg h4] at hsn
        exact ⟨k + 1, by omega, by omega, Weak.mk (by simp (disch := omega) only [arcO, hsn, go_sem, seval, reduceCtorEq, ↓reduceIte])⟩
    · have hkl : k = a.slow.length := by omega
      subst hkl
      simp only [arrA]
end Go.Proofs.YtccjopdlbolnhaaGreat.K
set_option linter.unusedVariables false
set_option linter.unusedSimpArgs false
namespace Go.Proofs.YtccjopdlbolnhaaGreat.K
open Go Go.AM Go.Proofs
set_option maxRecDepth 8000
set_option maxHeartbeats 8000000
theorem useT3 {g : FuncId} {args : List V} {a b c : PV} {H : List AM.Obj} {K : V → List AM.Obj → Prop} (h : ACalls Tryz.prog g args [] fun x H' => x = .tup [.p a, .p b, .p c] ∧ H' = []) (k : K (.tup [.p a, .p b, .p c]) H) (ha : refBs 0 args = true := by rfl) : ACalls Tryz.prog g args H K :=
  (h.behind ha H).mono fun x H' hq => by
    obtain ⟨y, H1, ⟨rfl, rfl⟩, rfl, rfl⟩ := hq
    simpa [shV, shVs] using k
theorem useT' {g : FuncId} {args : List V} {a b : PV} {H : List AM.Obj} {K : V → List AM.Obj → Prop} (h : ACalls Tryz.prog g args [] fun x H' => x = .tup [.p a, .p b] ∧ H' = []) (k : K (.tup [.p a, .p b]) H) (ha : refBs 0 args = true := by rfl) : ACalls Tryz.prog g args H K :=
  (h.behind ha H).mono fun x H' hq => by
    obtain ⟨y, H1, ⟨rfl, rfl⟩, rfl, rfl⟩ := hq
    simpa [shV, shVs] using k
def placeB (n : Net) (p : Int) : Bool := decide (0 ≤ p) && decide (p < (n.places.length : Int))
theorem place09_c (n : Net) (p : Int) (hn : n.places.length ≤ 1048576) : ACalls Tryz.prog 102 [.p (eNet n), .p (.int .i64 p)] [] fun x H' => x = .p (.bool (placeB n p)) ∧ H' = [] := by
  refine acalls_pure (fn := Tryz.f102) Tryz.func102 rfl isF102 ?_
  simp (disch := omega) only [Tryz.f102, go_sem, seval, reduceCtorEq, ↓reduceIte]
  refine aguard_t (fun h => ?_) (fun h => ?_) <;> (try simp only [decide_eq_true_eq, decide_eq_false_iff_not] at h) <;> simp (disch := omega) only [Sh.out h, go_sem, seval, reduceCtorEq, ↓reduceIte]
  · simp [placeB, h]
  · simp [placeB, h]
def arcEq (pr f t : Int) (a : Arc) : Bool := decide (a.src = f) && decide (a.dst = t) && decide (a.prof = pr)
def zeroArc : Arc := ⟨0, 0, 0, 0, true, [], true, []⟩
def findA (n : Net) (pr f t : Int) : Arc × Bool := match n.arcs.find? (arcEq pr f t) with | some a => (a, true) | none => (zeroArc, false)
theorem findA_at {n : Net} {pr f t : Int} {k : Nat} (hk : k < n.arcs.length) (hno : ∀ j, j < k → arcEq pr f t (nth n.arcs j) = false) (h : arcEq pr f t (nth n.arcs k) = true) : findA n pr f t = (nth n.arcs k, true) := by
  have : n.arcs.find? (arcEq pr f t) = some (nth n.arcs k) := by
    rw [List.find?_eq_some_iff_getElem]
    refine ⟨h, k, hk, by rw [nth_get hk], fun j hj => ?_⟩
    have := hno j hj
    rw [nth_get (by omega)] at this
    simp [this]
  rw [findA, this]
theorem findA_no {n : Net} {pr f t : Int} (hno : ∀ j, j < n.arcs.length → arcEq pr f t (nth n.arcs j) = false) : findA n pr f t = (zeroArc, false) := by
  have : n.arcs.find? (arcEq pr f t) = none := by
    rw [List.find?_eq_none]
    intro a ha
    obtain ⟨j, hj, rfl⟩ := List.mem_iff_getElem.1 ha
    have := hno j hj
    rw [nth_get hj] at this
    simp [this]
  rw [findA, this]
theorem find09_c (n : Net) (pr f t : Int) (hn : n.arcs.length ≤ 1048576) : ACalls Tryz.prog 103 [.p (eNet n), .p (.int .i64 pr), .p (.int .i64 f), .p (.int .i64 t)] [] fun x H' => x = .tup [.p (eArc (findA n pr f t).1), .p (.bool (findA n pr f t).2)] ∧ H' = [] := by
  refine acalls_weak [] (fn := Tryz.f103) Tryz.func103 rfl isF103 ?_
  simp (disch := omega) only [Tryz.f103, go_sem, seval, reduceCtorEq, ↓reduceIte]
  refine awp_for [1, 2, 3, 4, 8] (fun k : Nat => [(10, .p (.int .i64 k))]) (fun _ => netH n ++ [arcO zeroArc]) (fun k => k ≤ n.arcs.length ∧ ∀ j, j < k → arcEq pr f t (nth n.arcs j) = false) (fun k => n.arcs.length - k) 0 (by simp) (Weak.mk ?_) ?_
  · simp (disch := omega) only [netH, arcO, zeroArc, List.map_nil, List.cons_append, List.nil_append, go_sem, seval, reduceCtorEq, ↓reduceIte]
  · rintro k ⟨hk, hno⟩
    simp (disch := omega) only [netH, arcO, zeroArc, List.map_nil, List.cons_append, List.nil_append, go_sem, seval, reduceCtorEq, ↓reduceIte]
    refine acond_b (fun h => ?_) (fun h => ?_) <;> (try simp only [decide_eq_true_eq, decide_eq_false_iff_not] at h) <;> simp (disch := omega) only [Sh.out h, go_sem, seval, reduceCtorEq, ↓reduceIte]
    · have hk2 : k < n.arcs.length := by omega
      have nx : arcEq pr f t (nth n.arcs k) = false → ∀ j, j < k + 1 → arcEq pr f t (nth n.arcs j) = false := fun h => upto_iff.2 ⟨hno, h⟩
      refine aguard_t (fun h1 => ?_) (fun h1 => ?_) <;> (try simp only [decide_eq_true_eq, decide_eq_false_iff_not] at h1) <;> simp (disch := omega) only [Sh.out h1, go_sem, seval, reduceCtorEq, ↓reduceIte]
      · refine aguard_t (fun h2 => ?_) (fun h2 => ?_) <;> (try simp only [decide_eq_true_eq, decide_eq_false_iff_not] at h2) <;> simp (disch := omega) only [Sh.out h2, go_sem, seval, reduceCtorEq, ↓reduceIte]
        · refine acond_b (fun h3 => ?_) (fun h3 => ?_) <;> (try simp only [decide_eq_true_eq, decide_eq_false_iff_not] at h3) <;> simp (disch := omega) only [Sh.out h3, go_sem, seval, reduceCtorEq, ↓reduceIte]
          · have e := findA_at hk2 hno (by simp [arcEq, h1, h2, h3])
            rw [e]
            exact ⟨_, _, Weak.mk (by simp (disch := omega) only [go_sem, seval, reduceCtorEq, ↓reduceIte]), rfl, rfl⟩
          · exact ⟨k + 1, ⟨by omega, nx (by simp [arcEq, h3])⟩, by omega, Weak.mk (by simp (disch := omega) only [netH, arcO, zeroArc, List.map_nil, List.cons_append, List.nil_append, go_sem, seval, reduceCtorEq, ↓reduceIte])⟩
        · exact ⟨k + 1, ⟨by omega, nx (by simp [arcEq, h2])⟩, by omega, Weak.mk (by simp (disch := omega) only [netH, arcO, zeroArc, List.map_nil, List.cons_append, List.nil_append, go_sem, seval, reduceCtorEq, ↓reduceIte])⟩
      · exact ⟨k + 1, ⟨by omega, nx (by simp [arcEq, h1])⟩, by omega, Weak.mk (by simp (disch := omega) only [netH, arcO, zeroArc, List.map_nil, List.cons_append, List.nil_append, go_sem, seval, reduceCtorEq, ↓reduceIte])⟩
    · have hkn : k = n.arcs.length := by omega
      subst hkn
      rw [findA_no hno]
      exact ⟨_, _, Weak.mk (by simp (disch := omega) only [zeroArc, List.map_nil, go_sem, seval, reduceCtorEq, ↓reduceIte]), rfl, rfl⟩
/-- arrival, miles and error of a way -/
def goN (n : Net) (pr f t τ : Int) : Int × Int × Int :=
  if (placeB n f && placeB n t) = false then (0, 0, 11) else if f = t then (τ, 0, 0) else if (findA n pr f t).2 = true then (arrA (findA n pr f t).1 τ, (findA n pr f t).1.miles, 0) else (0, 0, 12)
def netR (n : Net) : Prop := n.places.length ≤ 1048576 ∧ n.arcs.length ≤ 1048576 ∧ ∀ a ∈ n.arcs, arcR a
theorem findA_mem {n : Net} {pr f t : Int} (h : (findA n pr f t).2 = true) : (findA n pr f t).1 ∈ n.arcs := by
  unfold findA at h ⊢
  cases hf : n.arcs.find? (arcEq pr f t) with
  | none => rw [hf] at h; simp at h
  | some a => exact List.mem_of_find?_eq_some hf
theorem go09_c (n : Net) (pr f t τ : Int) (hn : netR n) (hτ : 0 ≤ τ ∧ τ ≤ 1073741824) : ACalls Tryz.prog 101 [.p (eNet n), .p (.int .i64 pr), .p (.int .i64 f), .p (.int .i64 t), .p (.int .i64 τ)] [] fun x H' => x = .tup [.p (.int .i64 (goN n pr f t τ).1), .p (.int .i64 (goN n pr f t τ).2.1), .p (.int .i64 (goN n pr f t τ).2.2)] ∧ H' = [] := by
  refine acalls_weak [] (fn := Tryz.f101) Tryz.func101 rfl isF101 ?_
  simp (disch := omega) only [Tryz.f101, go_sem, seval, reduceCtorEq, ↓reduceIte]
  refine (place09_c n f hn.1).use ?_
  simp (disch := omega) only [go_sem, seval, reduceCtorEq, ↓reduceIte]
  refine aguard_f (fun h1 => ?_) (fun h1 => ?_) <;> (try simp only [decide_eq_true_eq, decide_eq_false_iff_not] at h1) <;> simp (disch := omega) only [Sh.out h1, go_sem, seval, reduceCtorEq, ↓reduceIte]
  · have e : goN n pr f t τ = (0, 0, 11) := by simp only [Bool.not_eq_true'] at h1; simp [goN, h1]
    rw [e]
    exact ⟨_, _, Weak.mk (by simp (disch := omega) only [go_sem, seval, reduceCtorEq, ↓reduceIte]), rfl, rfl⟩
  · simp only [Bool.not_eq_false'] at h1
    refine (place09_c n t hn.1).use ?_
    simp (disch := omega) only [go_sem, seval, reduceCtorEq, ↓reduceIte]
    refine acond_b (fun h2 => ?_) (fun h2 => ?_) <;> (try simp only [decide_eq_true_eq, decide_eq_false_iff_not] at h2) <;> simp (disch := omega) only [Sh.out h2, go_sem, seval, reduceCtorEq, ↓reduceIte]
    · have e : goN n pr f t τ = (0, 0, 11) := by simp only [Bool.not_eq_true'] at h2; simp [goN, h2]
      rw [e]
      exact ⟨_, _, Weak.mk (by simp (disch := omega) only [go_sem, seval, reduceCtorEq, ↓reduceIte]), rfl, rfl⟩
    · simp only [Bool.not_eq_false'] at h2
      refine acond_b (fun h3 => ?_) (fun h3 => ?_) <;> (try simp only [decide_eq_true_eq, decide_eq_false_iff_not] at h3) <;> simp (disch := omega) only [Sh.out h3, go_sem, seval, reduceCtorEq, ↓reduceIte]
      · have e : goN n pr f t τ = (τ, 0, 0) := by simp [goN, h1, h2, h3]
        rw [e]
        exact ⟨_, _, Weak.mk (by simp (disch := omega) only [go_sem, seval, reduceCtorEq, ↓reduceIte]), rfl, rfl⟩
      · have cf := find09_c n pr f t hn.2.1
        have hm := @findA_mem n pr f t
        have e0 : goN n pr f t τ = if (findA n pr f t).2 = true then (arrA (findA n pr f t).1 τ, (findA n pr f t).1.miles, 0) else (0, 0, 12) := by simp [goN, h1, h2, h3]
        rw [e0]
        generalize findA n pr f t = A at cf hm ⊢
        obtain ⟨a, b⟩ := A
        simp only at cf hm ⊢
        refine useT' cf ?_
        simp (disch := omega) only [go_sem, seval, reduceCtorEq, ↓reduceIte]
        refine acond_b (fun h4 => ?_) (fun h4 => ?_) <;> (try simp only [decide_eq_true_eq, decide_eq_false_iff_not] at h4) <;> simp (disch := omega) only [Sh.out h4, go_sem, seval, reduceCtorEq, ↓reduceIte]
        · have hb : b = false := by simpa using h4
          subst hb
          exact ⟨_, _, Weak.mk (by simp (disch := omega) only [go_sem, seval, reduceCtorEq, ↓reduceIte]), rfl, rfl⟩
        · have hb : b = true := by simpa using h4
          subst hb
          refine awp_drawnA mixed (by kernel_rfl) (by kernel_rfl) ?_
          simp (disch := omega) only [go_sem, seval, reduceCtorEq, ↓reduceIte]
          refine exq_call (arrive09_c a τ (hn.2.2 a (hm rfl)) hτ) ?_
          simp (disch := omega) only [go_sem, seval, reduceCtorEq, ↓reduceIte]
          exact ⟨_, _, Weak.mk (by simp (disch := omega) only [go_sem, seval, reduceCtorEq, ↓reduceIte]), rfl, rfl⟩
end Go.Proofs.YtccjopdlbolnhaaGreat.K
set_option linter.unusedVariables false
set_option linter.unusedSimpArgs false
namespace Go.Proofs.YtccjopdlbolnhaaGreat.K
open Go Go.AM Go.Proofs
set_option maxRecDepth 8000
set_option maxHeartbeats 8000000
theorem way18_c (x : Inst) (pr f t τ : Int) (hn : netR x.net) (hτ : 0 ≤ τ ∧ τ ≤ 1073741824) : ACalls Tryz.prog 99 [.p (eInst x), .p (.int .i64 pr), .p (.int .i64 f), .p (.int .i64 t), .p (.int .i64 τ)] [] fun y H' => y = .tup [.p (.int .i64 (goN x.net pr f t τ).1), .p (.int .i64 (goN x.net pr f t τ).2.1), .p (.bool (decide ((goN x.net pr f t τ).2.2 = 0)))] ∧ H' = [] := by
  refine acalls_weak [] (fn := Tryz.f99) Tryz.func99 rfl isF99 ?_
  simp (disch := omega) only [Tryz.f99, go_sem, seval, reduceCtorEq, ↓reduceIte]
  refine useT3 (go09_c x.net pr f t τ hn hτ) ?_
  simp (disch := omega) only [go_sem, seval, reduceCtorEq, ↓reduceIte]
  exact ⟨_, _, Weak.mk (by simp (disch := omega) only [go_sem, seval, reduceCtorEq, ↓reduceIte]), rfl, rfl⟩
/-- a vehicle between two visits -/
structure StD where
  place : Int
  time : Int
  driven : Int
  miles : Int
def eStD (s : StD) : PV := .agg [.int .i64 s.place, .int .i64 s.time, .int .i64 s.driven, .int .i64 s.miles]
@[go_sem] theorem eStD_eq (s : StD) : eStD s = .agg [.int .i64 s.place, .int .i64 s.time, .int .i64 s.driven, .int .i64 s.miles] := Eq.trans rfl rfl
def restF (t : Typ) (s : StD) (b : Bool) : StD := if b = true then { s with time := s.time + t.rest, driven := 0 } else s
theorem rest18_c (t : Typ) (s : StD) (b : Bool) (hb : -1099511627776 ≤ s.time ∧ s.time ≤ 1099511627776 ∧ -1099511627776 ≤ t.rest ∧ t.rest ≤ 1099511627776) : ACalls Tryz.prog 91 [.p (eTyp t), .p (eStD s), .p (.bool b)] [] fun y H' => y = .p (eStD (restF t s b)) ∧ H' = [] := by
  refine acalls_pure (fn := Tryz.f91) Tryz.func91 rfl isF91 ?_
  cases b with
  | true => simp (disch := omega) only [Tryz.f91, restF, go_sem, seval, reduceCtorEq, ↓reduceIte]
  | false => simp (disch := omega) only [Tryz.f91, restF, Bool.false_eq_true, go_sem, seval, reduceCtorEq, ↓reduceIte]
def stepF (x : Inst) (t : Typ) (s : StD) (to cl late : Int) : StD × Int :=
  if ¬ (goN x.net t.prof s.place to s.time).2.2 = 0 then (s, 12)
  else if cl < (goN x.net t.prof s.place to s.time).1 then (s, late)
  else if t.drive < s.driven + (goN x.net t.prof s.place to s.time).1 - s.time then (s, 16)
  else (⟨to, (goN x.net t.prof s.place to s.time).1, s.driven + (goN x.net t.prof s.place to s.time).1 - s.time, s.miles + (goN x.net t.prof s.place to s.time).2.1⟩, 0)
def Sml (n : Int) : Prop := -1099511627776 ≤ n ∧ n ≤ 1099511627776
theorem step18_c (x : Inst) (t : Typ) (s : StD) (to cl late : Int) (hn : netR x.net) (hs : 0 ≤ s.time ∧ s.time ≤ 1073741824) (hd : Sml s.driven) (hm : Sml s.miles) (hg : Sml (goN x.net t.prof s.place to s.time).1 ∧ Sml (goN x.net t.prof s.place to s.time).2.1) :
    ACalls Tryz.prog 92 [.p (eInst x), .p (eTyp t), .p (eStD s), .p (.int .i64 to), .p (.int .i64 cl), .p (.int .i64 late)] [] fun y H' => y = .tup [.p (eStD (stepF x t s to cl late).1), .p (.int .i64 (stepF x t s to cl late).2)] ∧ H' = [] := by
  have cw := way18_c x t.prof s.place to s.time hn hs
  unfold stepF
  generalize goN x.net t.prof s.place to s.time = g at cw hg ⊢
  obtain ⟨a, m, e⟩ := g
  unfold Sml at hd hm hg
  simp only at cw hg ⊢
  refine acalls_weak [] (fn := Tryz.f92) Tryz.func92 rfl isF92 ?_
  simp (disch := omega) only [Tryz.f92, go_sem, seval, reduceCtorEq, ↓reduceIte]
  refine useT3 cw ?_
  simp (disch := omega) only [go_sem, seval, reduceCtorEq, ↓reduceIte]
  refine acond_b (fun h1 => ?_) (fun h1 => ?_) <;> (try simp only [decide_eq_true_eq, decide_eq_false_iff_not] at h1) <;> simp (disch := omega) only [Sh.out h1, go_sem, seval, reduceCtorEq, ↓reduceIte]
  · exact ⟨_, _, Weak.mk (by simp (disch := omega) only [go_sem, seval, reduceCtorEq, ↓reduceIte]), rfl, rfl⟩
  · rw [if_neg h1]
    refine acond_b (fun h2 => ?_) (fun h2 => ?_) <;> (try simp only [decide_eq_true_eq, decide_eq_false_iff_not] at h2) <;> simp (disch := omega) only [Sh.out h2, go_sem, seval, reduceCtorEq, ↓reduceIte]
    · exact ⟨_, _, Weak.mk (by simp (disch := omega) only [go_sem, seval, reduceCtorEq, ↓reduceIte]), rfl, rfl⟩
    · rw [if_neg h2]
      refine acond_b (fun h3 => ?_) (fun h3 => ?_) <;> (try simp only [decide_eq_true_eq, decide_eq_false_iff_not] at h3) <;> simp (disch := omega) only [Sh.out h3, go_sem, seval, reduceCtorEq, ↓reduceIte]
      · exact ⟨_, _, Weak.mk (by simp (disch := omega) only [go_sem, seval, reduceCtorEq, ↓reduceIte]), rfl, rfl⟩
      · exact ⟨_, _, Weak.mk (by simp (disch := omega) only [go_sem, seval, reduceCtorEq, ↓reduceIte]), rfl, rfl⟩
end Go.Proofs.YtccjopdlbolnhaaGreat.K
set_option linter.unusedVariables false
set_option linter.unusedSimpArgs false
namespace Go.Proofs.YtccjopdlbolnhaaGreat.K
open Go Go.AM Go.Proofs
/-- how far a schedule has been made -/
structure Lab where
  ready : Int
  since : Int
  she : She
  deriving Inhabited
def zShe : She := ⟨false, 0, true, [], 0, 0⟩
def zLab : Lab := ⟨0, 0, zShe⟩
def depF (t : Typ) (L : Lab) (b : Bool) : Int := if b = true then L.ready + t.rest else L.ready
def sncF (L : Lab) (b : Bool) : Int := if b = true then 0 else L.since
def markT (l : List Tim) (k : Nat) (d : Int) (b : Bool) : List Tim := l.set k { nth l k with dep := d, rest := b }
def markF (k : Nat) (d : Int) (b : Bool) (s : She) : She := if k = 0 then { s with rest := b, dep := d } else { s with times := markT s.times (k - 1) d b }
def plcF (t : Typ) (sp : List Stp) (k : Nat) : Int := if k = 0 then t.src else (nth sp (k - 1)).place
def toF (t : Typ) (sp : List Stp) (k : Nat) : Int := if k = sp.length then t.dst else (nth sp k).place
def goL (x : Inst) (t : Typ) (sp : List Stp) (k : Nat) (d : Int) : Int × Int × Int := goN x.net t.prof (plcF t sp k) (toF t sp k) d
/-- the next label, of a departure at d with the driving time s until then -/
def arrF (t : Typ) (sp : List Stp) (k : Nat) (g : Int × Int × Int) (d s : Int) (h : She) : Lab × Int :=
  if ¬ g.2.2 = 0 then (zLab, 12)
  else if k = sp.length then
    if t.cls < g.1 then (zLab, 15) else if t.drive < s + g.1 - d then (zLab, 16)
    else (⟨g.1, s + g.1 - d, { h with fin := g.1, miles := h.miles + g.2.1 }⟩, 0)
  else if (nth sp k).cls < max g.1 (nth sp k).opn then (zLab, 14)
  else if t.drive < s + g.1 - d then (zLab, 16)
  else (⟨max g.1 (nth sp k).opn + (nth sp k).serv, s + g.1 - d, { h with times_c := false, times := h.times ++ [⟨g.1, max g.1 (nth sp k).opn, 0, false⟩], miles := h.miles + g.2.1 }⟩, 0)
def nxtF (x : Inst) (t : Typ) (sp : List Stp) (k : Nat) (L : Lab) (b : Bool) : Lab × Int :=
  arrF t sp k (goL x t sp k (depF t L b)) (depF t L b) (sncF L b) (markF k (depF t L b) b L.she)
def nxtO (x : Inst) (t : Typ) (sp : List Stp) (k : Nat) (L : Lab) (b : Bool) : Option Lab := if (nxtF x t sp k L b).2 = 0 then some (nxtF x t sp k L b).1 else none
def runF (x : Inst) (t : Typ) (sp : List Stp) : Nat → Lab → List Bool → Lab × Int
  | _, L, [] => (L, 0)
  | k, L, b :: bs => if (nxtF x t sp k L b).2 = 0 then runF x t sp (k + 1) (nxtF x t sp k L b).1 bs else (zLab, (nxtF x t sp k L b).2)
def labF (t : Typ) (st : Int) : Lab := ⟨max t.opn st, 0, zShe⟩
theorem runF_opt {x : Inst} {t : Typ} {sp : List Stp} : ∀ (bs : List Bool) (k : Nat) (L : Lab), runO (nxtO x t sp) k L bs = if (runF x t sp k L bs).2 = 0 then some (runF x t sp k L bs).1 else none
  | [], k, L => by simp [runO, runF]
  | b :: bs, k, L => by
    rw [runO, runF, nxtO]
    by_cases h : (nxtF x t sp k L b).2 = 0
    · simp only [h, if_true]
      exact runF_opt bs (k + 1) _
    · simp [h]
/-- what a vehicle needs of its surroundings -/
structure TrpOk (x : Inst) (t : Typ) (sp : List Stp) : Prop where
  net : netR x.net
  mil : ∀ a ∈ x.net.arcs, 0 ≤ a.miles ∧ a.miles ≤ 10000
  opn : 0 ≤ t.opn ∧ t.opn ≤ t.cls ∧ t.cls ≤ 4096
  drv : 1 ≤ t.drive ∧ t.drive ≤ 4096
  rst : 0 ≤ t.rest ∧ t.rest ≤ 4096
  stp : ∀ s ∈ sp, 0 ≤ s.opn ∧ s.opn ≤ s.cls ∧ s.cls ≤ 4096 ∧ 0 ≤ s.serv ∧ s.serv ≤ 4096
  len : sp.length ≤ 20
/-- what labels are like -/
structure LabR (k : Nat) (L : Lab) : Prop where
  rdy : 0 ≤ L.ready ∧ L.ready ≤ 8192
  snc : -(12288 * (k : Int)) ≤ L.since ∧ L.since ≤ 4096
  mil : 0 ≤ L.she.miles ∧ L.she.miles ≤ 10000 * (k : Int)
theorem goN_rng {n : Net} {pr f t τ : Int} (hn : netR n) (hm : ∀ a ∈ n.arcs, 0 ≤ a.miles ∧ a.miles ≤ 10000) (hτ : 0 ≤ τ ∧ τ ≤ 1073741824) : (0 ≤ (goN n pr f t τ).1 ∧ (goN n pr f t τ).1 ≤ 1107369984) ∧ (0 ≤ (goN n pr f t τ).2.1 ∧ (goN n pr f t τ).2.1 ≤ 10000) := by
  unfold goN
  split
  · simp
  · split
    · simp only; omega
    · split
      · rename_i h
        have hA := findA_mem h
        have h1 := arrT_rng (hn.2.2 _ hA).1 hτ
        have h2 := slowS_rng (t := τ) (fun p hp => ((hn.2.2 _ hA).2.2 p hp).2.2) _ (Nat.le_refl _)
        have h3 := (hn.2.2 _ hA).2.1
        have h4 := hm _ hA
        simp only [arrA]
        omega
      · simp
theorem depF_rng {x t sp k L} (h : TrpOk x t sp) (hl : LabR k L) (b : Bool) : 0 ≤ depF t L b ∧ depF t L b ≤ 12288 := by
  have := h.rst
  have := hl.rdy
  unfold depF
  split <;> omega
theorem sncF_rng {k L} (hl : LabR k L) (b : Bool) : -(12288 * (k : Int)) ≤ sncF L b ∧ sncF L b ≤ 4096 := by
  have := hl.snc
  unfold sncF
  split <;> omega
theorem goL_rng {x t sp k L} (h : TrpOk x t sp) (hl : LabR k L) (b : Bool) : (0 ≤ (goL x t sp k (depF t L b)).1 ∧ (goL x t sp k (depF t L b)).1 ≤ 1107369984) ∧ (0 ≤ (goL x t sp k (depF t L b)).2.1 ∧ (goL x t sp k (depF t L b)).2.1 ≤ 10000) := by
  have := depF_rng h hl b
  exact goN_rng h.net h.mil (by omega)
theorem markF_miles {k d b s} : (markF k d b s).miles = s.miles := by unfold markF; split <;> rfl
theorem markF_fin {k d b s} : (markF k d b s).fin = s.fin := by unfold markF; split <;> rfl
theorem markF_len {k d b s} : (markF k d b s).times.length = s.times.length := by unfold markF; split <;> simp [markT]
/-- what a next label is -/
theorem nxtF_ok {x t sp k L b} (h : TrpOk x t sp) (hk : k ≤ sp.length) (hl : LabR k L) (he : (nxtF x t sp k L b).2 = 0) : LabR (k + 1) (nxtF x t sp k L b).1 := by
  have h1 := depF_rng h hl b
  have h2 := sncF_rng hl b
  obtain ⟨h3, h4⟩ := goL_rng h hl b
  have h5 := hl.mil
  have h6 := h.opn
  have h7 := h.drv
  have hm : (markF k (depF t L b) b L.she).miles = L.she.miles := markF_miles
  unfold nxtF at he ⊢
  generalize goL x t sp k (depF t L b) = g at *
  generalize depF t L b = d at *
  generalize sncF L b = s at *
  generalize markF k d b L.she = m at *
  unfold arrF at he ⊢
  split at he
  · simp at he
  · rename_i c1
    rw [if_neg c1]
    split at he
    · rename_i c2
      rw [if_pos c2]
      split at he
      · simp at he
      · rename_i c3
        rw [if_neg c3]
        split at he
        · simp at he
        · rename_i c4
          rw [if_neg c4]
          exact ⟨by simp only; omega, by simp only; omega, by simp only; omega⟩
    · rename_i c2
      rw [if_neg c2]
      have h8 := h.stp _ (nth_in (show k < sp.length by omega))
      split at he
      · simp at he
      · rename_i c3
        rw [if_neg c3]
        split at he
        · simp at he
        · rename_i c4
          rw [if_neg c4]
          exact ⟨by simp only; omega, by simp only; omega, by simp only; omega⟩
theorem nxtF_times {x t sp k L b} (hl : L.she.times.length = k) (he : (nxtF x t sp k L b).2 = 0) (hk : k < sp.length) : (nxtF x t sp k L b).1.she.times.length = k + 1 := by
  have hm : (markF k (depF t L b) b L.she).times.length = L.she.times.length := markF_len
  unfold nxtF at he ⊢
  generalize goL x t sp k (depF t L b) = g at *
  generalize depF t L b = d at *
  generalize sncF L b = s at *
  generalize markF k d b L.she = m at *
  have hk2 : ¬ k = sp.length := by omega
  unfold arrF at he ⊢
  simp only [if_neg hk2] at he ⊢
  split at he
  · simp at he
  · rename_i c1
    rw [if_neg c1]
    split at he
    · simp at he
    · rename_i c3
      rw [if_neg c3]
      split at he
      · simp at he
      · rename_i c4
        rw [if_neg c4]
        simp [hm, hl]
/-- a label beats another one -/
def beatsF (m x : Lab) : Bool := decide (m.ready = x.ready) && decide (m.since ≤ x.since)
theorem beats_next {x t sp k} {m y z : Lab} {b : Bool} (hb : beatsF m y = true) (hn : nxtO x t sp k y b = some z) : ∃ u, nxtO x t sp k m b = some u ∧ beatsF u z = true := by
  simp only [beatsF, Bool.and_eq_true, decide_eq_true_eq] at hb
  obtain ⟨hb1, hb2⟩ := hb
  have hd : depF t m b = depF t y b := by simp [depF, hb1]
  have hs : sncF m b ≤ sncF y b := by unfold sncF; split <;> omega
  unfold nxtO at hn ⊢
  unfold nxtF at hn ⊢
  rw [hd]
  generalize goL x t sp k (depF t y b) = g at *
  generalize depF t y b = d at *
  generalize sncF y b = s at *
  generalize sncF m b = s2 at *
  generalize markF k d b y.she = h1 at *
  generalize markF k d b m.she = h2 at *
  unfold arrF at hn ⊢
  by_cases c1 : g.2.2 = 0
  · by_cases c2 : k = sp.length
    · simp only [c1, c2, not_true, if_true, if_false] at hn ⊢
      by_cases c3 : t.cls < g.1
      · simp [c3] at hn
      · by_cases c4 : t.drive < s + g.1 - d
        · simp [c3, c4] at hn
        · have c5 : ¬ t.drive < s2 + g.1 - d := by omega
          simp only [c3, c4, if_false, if_true, Option.some.injEq] at hn
          subst hn
          refine ⟨_, by simp only [c3, c5, if_false, if_true]; rfl, ?_⟩
          simp [beatsF]; omega
    · simp only [c1, c2, not_true, if_true, if_false] at hn ⊢
      by_cases c3 : (nth sp k).cls < max g.1 (nth sp k).opn
      · simp [c3] at hn
      · by_cases c4 : t.drive < s + g.1 - d
        · simp [c3, c4] at hn
        · have c5 : ¬ t.drive < s2 + g.1 - d := by omega
          simp only [c3, c4, if_false, if_true, Option.some.injEq] at hn
          subst hn
          refine ⟨_, by simp only [c3, c5, if_false, if_true]; rfl, ?_⟩
          simp [beatsF]; omega
  · simp [c1] at hn
def finF (L : Lab) : Int := L.she.fin
theorem nxtO_fin {x t sp} {y z : Lab} {b : Bool} (hn : nxtO x t sp sp.length y b = some z) : z.she.fin = z.ready := by
  unfold nxtO nxtF arrF at hn
  by_cases c1 : (goL x t sp sp.length (depF t y b)).2.2 = 0
  · by_cases c3 : t.cls < (goL x t sp sp.length (depF t y b)).1
    · simp [c1, c3] at hn
    · by_cases c4 : t.drive < sncF y b + (goL x t sp sp.length (depF t y b)).1 - depF t y b
      · simp [c1, c3, c4] at hn
      · simp only [c1, c3, c4, not_true, if_true, if_false, Option.some.injEq] at hn
        subst hn; rfl
  · simp [c1] at hn
end Go.Proofs.YtccjopdlbolnhaaGreat.K
set_option linter.unusedVariables false
set_option linter.unusedSimpArgs false
namespace Go.Proofs.YtccjopdlbolnhaaGreat.K
open Go Go.AM Go.Proofs
/-- all lists of rests -/
def restsR (r : List Bool) (n : Nat) : List (List Bool) := (fromB (List.replicate (n - r.length) false)).map (r ++ ·)
def padR (r : List Bool) (n : Nat) : List Bool := r ++ List.replicate (n - r.length) false
/-- the schedule that ends first, and the error -/
def bestF (x : Inst) (t : Typ) (sp : List Stp) (st : Int) (r : List Bool) : She × Int :=
  match fmL finF none ((restsR r (sp.length + 1)).filterMap (runO (nxtO x t sp) 0 (labF t st))) with
  | some L => (L.she, 0)
  | none => (zShe, (runF x t sp 0 (labF t st) (padR r (sp.length + 1))).2)
theorem runF_len {x t sp} : ∀ (bs : List Bool) (k : Nat) (L : Lab), L.she.times.length = k → k + bs.length = sp.length + 1 → 0 < bs.length → (runF x t sp k L bs).2 = 0 → (runF x t sp k L bs).1.she.times.length = sp.length
  | [], k, L, h1, h2, h3, h => by simp at h3
  | b :: bs, k, L, h1, h2, _, h => by
    rw [runF] at h ⊢
    by_cases h4 : (nxtF x t sp k L b).2 = 0
    · simp only [h4, if_true] at h ⊢
      cases bs with
      | nil =>
        simp at h2
        subst h2
        rw [runF]
        unfold nxtF at h4 ⊢
        unfold arrF at h4 ⊢
        split at h4
        · simp at h4
        · rename_i c1
          rw [if_neg c1]
          simp only [if_true] at h4 ⊢
          split at h4
          · simp at h4
          · rename_i c2
            rw [if_neg c2]
            split at h4
            · simp at h4
            · rename_i c3
              rw [if_neg c3]
              simp [markF_len, h1]
      | cons b2 bs =>
        simp at h2
        exact runF_len (b2 :: bs) (k + 1) _ (nxtF_times h1 h4 (by omega)) (by simp; omega) (by simp) h
    · simp [h4] at h
/-- what a schedule is in its surroundings: its times, one for each visit -/
theorem bestF_len {x t sp} {st : Int} {r : List Bool} (hr : r.length ≤ sp.length + 1) (h : (bestF x t sp st r).2 = 0) : (bestF x t sp st r).1.times.length = sp.length := by
  unfold bestF at h ⊢
  cases hf : fmL finF none ((restsR r (sp.length + 1)).filterMap (runO (nxtO x t sp) 0 (labF t st))) with
  | none =>
    rw [hf] at h
    simp only at h ⊢
    exfalso
    have hm : padR r (sp.length + 1) ∈ restsR r (sp.length + 1) := by
      unfold restsR padR
      rw [fromB_next]
      simp
    have h2 : runO (nxtO x t sp) 0 (labF t st) (padR r (sp.length + 1)) = some (runF x t sp 0 (labF t st) (padR r (sp.length + 1))).1 := by rw [runF_opt, if_pos h]
    have h3 : (runF x t sp 0 (labF t st) (padR r (sp.length + 1))).1 ∈ (restsR r (sp.length + 1)).filterMap (runO (nxtO x t sp) 0 (labF t st)) := List.mem_filterMap.2 ⟨_, hm, h2⟩
    generalize (restsR r (sp.length + 1)).filterMap (runO (nxtO x t sp) 0 (labF t st)) = l at hf h3
    cases l with
    | nil => simp at h3
    | cons a l =>
      rw [fmL] at hf
      obtain ⟨z, e, _⟩ := fmL_some finF l a
      rw [e] at hf
      cases hf
  | some L =>
    simp only
    have hm := fmL_mem _ _ hf
    obtain ⟨bs, hbs, hrun⟩ := List.mem_filterMap.1 hm
    rw [runF_opt] at hrun
    split at hrun
    · rename_i h5
      simp at hrun
      subst hrun
      obtain ⟨q, hq, rfl⟩ := List.mem_map.1 hbs
      have hql := fromB_len _ _ hq
      simp at hql
      exact runF_len _ 0 _ rfl (by simp [hql]; omega) (by simp [hql]; omega) h5
    · cases hrun
where
  fmL_mem : ∀ (l : List Lab) (L : Lab), fmL finF none l = some L → L ∈ l
  | [], L, h => by simp [fmL] at h
  | a :: l, L, h => by
    rw [fmL] at h
    exact fmL_mem2 l a L h
  fmL_mem2 : ∀ (l : List Lab) (a L : Lab), fmL finF (some a) l = some L → L ∈ a :: l
  | [], a, L, h => by simp [fmL] at h; subst h; simp
  | y :: l, a, L, h => by
    rw [fmL] at h
    split at h
    · have := fmL_mem2 l y L h; simp only [List.mem_cons] at this ⊢; rcases this with h | h <;> simp [h]
    · have := fmL_mem2 l a L h; simp only [List.mem_cons] at this ⊢; rcases this with h | h <;> simp [h]
  fromB_len : ∀ (l q : List Bool), q ∈ fromB l → q.length = l.length
  | [], q, h => by simp [fromB] at h; subst h; rfl
  | b :: bs, q, h => by
    rw [fromB] at h
    split at h
    · obtain ⟨q', hq, rfl⟩ := List.mem_map.1 h
      simp [fromB_len bs q' hq]
    · rcases List.mem_append.1 h with h | h
      · obtain ⟨q', hq, rfl⟩ := List.mem_map.1 h
        simp [fromB_len bs q' hq]
      · obtain ⟨q', hq, rfl⟩ := List.mem_map.1 h
        simp [fromB_len (List.replicate bs.length false) q' hq]
  termination_by l => l.length
  decreasing_by all_goals simp
end Go.Proofs.YtccjopdlbolnhaaGreat.K
set_option linter.unusedVariables false
set_option linter.unusedSimpArgs false
namespace Go.Proofs.YtccjopdlbolnhaaGreat.K
open Go Go.AM Go.Proofs
def stopV (x : Inst) (v : Vis) : Stp := if v.drp = true then (nth x.orders v.order.toNat).drp else (nth x.orders v.order.toNat).pick
def stopsF (x : Inst) (l : List Vis) : List Stp := l.map (stopV x)
/-- has a type the skills? -/
def ableB (t : Typ) (s : Int) : Bool := decide (0 ≤ t.skills) && decide (0 ≤ s) && (List.range 63).all fun i => !s.toNat.testBit i || t.skills.toNat.testBit i
def fitsB (a c : List Int) : Bool := decide (a.length = c.length) && (List.range a.length).all fun i => decide (nth a i ≤ nth c i)
/-- is a load of a route within the capacity? -/
def loadB (x : Inst) (c : List Int) (l : List Vis) : Bool := (List.range (l.length + 1)).all fun n => fitsB (aftF x l n) c
def typR (x : Inst) (r : Rte) : Typ := nth x.types r.typ.toNat
/-- is the visit the first of its order? -/
def firstB (l : List Vis) (i : Nat) : Bool := !((l.take i).any fun v => decide (v.order = (nth l i).order))
def foreign (k t : Int) : Bool := decide (k ≠ -1) && decide (k ≠ t)
/-- how many orders of the first n visits are moved, and how many have been with another type -/
def chgF (x : Inst) (l : List Vis) (t : Int) : Nat → Int × Int
  | 0 => (0, 0)
  | n + 1 => if firstB l n = true then ((chgF x l t n).1 + (if foreign (nth x.orders (nth l n).order.toNat).now t = true then 1 else 0), (chgF x l t n).2 + (if foreign (nth x.orders (nth l n).order.toNat).last t = true then 1 else 0)) else chgF x l t n
def scoF (x : Inst) (r : Rte) (s : She) : Sco :=
  ⟨(typR x r).fixed + (typR x r).perMile * s.miles + (typR x r).perTick * (s.fin - (typR x r).opn), (chgF x r.visits r.typ r.visits.length).1, (chgF x r.visits r.typ r.visits.length).2, (s.fin - (typR x r).opn).tdiv 64 * (s.fin - (typR x r).opn).tdiv 64⟩
def zSco : Sco := ⟨0, 0, 0, 0⟩
/-- the error of a route's rules but for its schedule -/
def ruleE (x : Inst) (r : Rte) : Int :=
  if ¬ (0 ≤ r.typ ∧ r.typ < (x.types.length : Int)) then 2
  else if ¬ seqChk x r.visits = 0 then seqChk x r.visits
  else if (r.visits.any fun v => !ableB (typR x r) (nth x.orders v.order.toNat).skills) = true then 18
  else if loadB x (typR x r).cap r.visits = false then 17
  else if ¬ (0 ≤ r.start ∧ r.start ≤ 4096 ∧ r.rests.length ≤ r.visits.length + 1) then 2
  else 0
def bestR (x : Inst) (r : Rte) : She × Int := bestF x (typR x r) (stopsF x r.visits) r.start r.rests
def evalE (x : Inst) (r : Rte) : Int := if ruleE x r = 0 then (bestR x r).2 else ruleE x r
def evalS (x : Inst) (r : Rte) : She := if evalE x r = 0 then (bestR x r).1 else zShe
def evalP (x : Inst) (r : Rte) : Sco := if evalE x r = 0 then scoF x r (bestR x r).1 else zSco
end Go.Proofs.YtccjopdlbolnhaaGreat.K
set_option linter.unusedVariables false
set_option linter.unusedSimpArgs false
namespace Go.Proofs.YtccjopdlbolnhaaGreat.K
open Go Go.AM Go.Proofs
set_option maxRecDepth 8000
set_option maxHeartbeats 8000000
def zStp : Stp := ⟨0, 0, 0, 0⟩
def inB (x : Inst) (v : Vis) : Bool := decide (0 ≤ v.order) && decide (v.order < (x.orders.length : Int))
def visB (x : Inst) (v : Vis) : Bool := inB x v && decide (0 ≤ (stopV x v).place)
def stopG (x : Inst) (v : Vis) : Stp := if inB x v = true then stopV x v else zStp
theorem stop18_c (x : Inst) (v : Vis) (ho : x.orders.length ≤ 1048576) : ACalls Tryz.prog 74 [.p (eInst x), .p (eVis v)] [] fun y H' => y = .tup [.p (eStp (stopG x v)), .p (.bool (visB x v))] ∧ H' = [] := by
  refine acalls_weak [] (fn := Tryz.f74) Tryz.func74 rfl isF74 ?_
  simp (disch := omega) only [Tryz.f74, go_sem, seval, reduceCtorEq, ↓reduceIte]
  refine aguard_f (fun h1 => ?_) (fun h1 => ?_) <;> (try simp only [decide_eq_true_eq, decide_eq_false_iff_not] at h1) <;> simp (disch := omega) only [Sh.out h1, go_sem, seval, reduceCtorEq, ↓reduceIte]
  · have e : inB x v = false := by
      have : ¬ 0 ≤ v.order := by omega
      simp [inB, this]
    simp only [stopG, visB, e, Bool.false_and, Bool.false_eq_true, if_false, zStp]
    exact ⟨_, _, Weak.mk (by simp (disch := omega) only [go_sem, seval, reduceCtorEq, ↓reduceIte]), rfl, rfl⟩
  · refine acond_b (fun h2 => ?_) (fun h2 => ?_) <;> (try simp only [decide_eq_true_eq, decide_eq_false_iff_not] at h2) <;> simp (disch := omega) only [Sh.out h2, go_sem, seval, reduceCtorEq, ↓reduceIte]
    · have e : inB x v = false := by
        have : ¬ v.order < (x.orders.length : Int) := by omega
        simp [inB, this]
      simp only [stopG, visB, e, Bool.false_and, Bool.false_eq_true, if_false, zStp]
      exact ⟨_, _, Weak.mk (by simp (disch := omega) only [go_sem, seval, reduceCtorEq, ↓reduceIte]), rfl, rfl⟩
    · have e : inB x v = true := by simp [inB]; omega
      have hi : v.order.toNat < x.orders.length := by omega
      refine acond_b (fun hd => ?_) (fun hd => ?_) <;> (try simp only [decide_eq_true_eq, decide_eq_false_iff_not] at hd) <;> simp (disch := omega) only [Sh.out hd, go_sem, seval, reduceCtorEq, ↓reduceIte]
      · have hG : stopG x v = (nth x.orders v.order.toNat).drp := by simp [stopG, e, stopV, hd]
        have hV : visB x v = decide (0 ≤ (nth x.orders v.order.toNat).drp.place) := by simp [visB, e, stopV, hd]
        rw [hG, hV]
        refine awp_tree (.cons 0 (.cons 1 (.cons 2 (.cons 3 (.cons 4 (.cons 5 .nil .nil) .nil) (.cons 4 (.cons 3 (.cons 5 .nil .nil) .nil) .nil)) (.cons 4 (.cons 2 (.cons 3 (.cons 5 .nil .nil) .nil) .nil) .nil)) (.cons 4 (.cons 1 (.cons 2 (.cons 3 (.cons 5 .nil .nil) .nil) .nil) .nil) .nil)) (.cons 1 (.cons 0 (.cons 2 (.cons 3 (.cons 4 (.cons 5 .nil .nil) .nil) (.cons 4 (.cons 3 (.cons 5 .nil .nil) .nil) .nil)) (.cons 4 (.cons 2 (.cons 3 (.cons 5 .nil .nil) .nil) .nil) .nil)) (.cons 2 (.cons 0 (.cons 3 (.cons 4 (.cons 5 .nil .nil) .nil) (.cons 4 (.cons 3 (.cons 5 .nil .nil) .nil) .nil)) (.cons 3 (.cons 0 (.cons 4 (.cons 5 .nil .nil) .nil) .nil) .nil)) .nil)) .nil)) mixed (by kernel_rfl) ?_
        simp (disch := omega) only [go_sem, seval, reduceCtorEq, ↓reduceIte]
        repeat' first
          | refine akids_two ?_ ?_
          | exact ⟨_, _, Weak.mk (by simp (disch := omega) only [go_sem, seval, reduceCtorEq, ↓reduceIte]), rfl, rfl⟩
          | simp (disch := omega) only [go_sem, seval, reduceCtorEq, ↓reduceIte]
      · have hG : stopG x v = (nth x.orders v.order.toNat).pick := by simp [stopG, e, stopV, hd]
        have hV : visB x v = decide (0 ≤ (nth x.orders v.order.toNat).pick.place) := by simp [visB, e, stopV, hd]
        rw [hG, hV]
        refine awp_tree (.cons 0 (.cons 1 (.cons 2 (.cons 3 (.cons 4 (.cons 5 .nil .nil) .nil) (.cons 4 (.cons 3 (.cons 5 .nil .nil) .nil) .nil)) (.cons 4 (.cons 2 (.cons 3 (.cons 5 .nil .nil) .nil) .nil) .nil)) (.cons 4 (.cons 1 (.cons 2 (.cons 3 (.cons 5 .nil .nil) .nil) .nil) .nil) .nil)) (.cons 1 (.cons 0 (.cons 2 (.cons 3 (.cons 4 (.cons 5 .nil .nil) .nil) (.cons 4 (.cons 3 (.cons 5 .nil .nil) .nil) .nil)) (.cons 4 (.cons 2 (.cons 3 (.cons 5 .nil .nil) .nil) .nil) .nil)) (.cons 2 (.cons 0 (.cons 3 (.cons 4 (.cons 5 .nil .nil) .nil) (.cons 4 (.cons 3 (.cons 5 .nil .nil) .nil) .nil)) (.cons 3 (.cons 0 (.cons 4 (.cons 5 .nil .nil) .nil) .nil) .nil)) .nil)) .nil)) mixed (by kernel_rfl) ?_
        simp (disch := omega) only [go_sem, seval, reduceCtorEq, ↓reduceIte]
        repeat' first
          | refine akids_two ?_ ?_
          | exact ⟨_, _, Weak.mk (by simp (disch := omega) only [go_sem, seval, reduceCtorEq, ↓reduceIte]), rfl, rfl⟩
          | simp (disch := omega) only [go_sem, seval, reduceCtorEq, ↓reduceIte]
/-- is a route possible here? -/
def possB (x : Inst) (r : Rte) : Bool := (decide (0 ≤ r.typ) && decide (r.typ < (x.types.length : Int)) && decide (0 ≤ r.start) && decide (r.start ≤ 4096) && decide (r.visits.length ≤ 20)) && r.visits.all (visB x)
theorem poss18_c (x : Inst) (r : Rte) (ho : x.orders.length ≤ 1048576) (ht : x.types.length ≤ 1048576) (hl : r.visits.length ≤ 1048576) : ACalls Tryz.prog 52 [.p (eInst x), .p (eRte r)] [] fun y H' => y = .p (.bool (possB x r)) ∧ H' = [] := by
  refine acalls_pure (fn := Tryz.f52) Tryz.func52 rfl isF52 ?_
  simp (disch := omega) only [Tryz.f52, go_sem, seval, reduceCtorEq, ↓reduceIte]
  refine aguard_f (fun h1 => ?_) (fun h1 => ?_) <;> (try simp only [decide_eq_true_eq, decide_eq_false_iff_not] at h1) <;> simp (disch := omega) only [Sh.out h1, go_sem, seval, reduceCtorEq, ↓reduceIte]
  · simp [possB]; omega
  · refine aguard_f (fun h2 => ?_) (fun h2 => ?_) <;> (try simp only [decide_eq_true_eq, decide_eq_false_iff_not] at h2) <;> simp (disch := omega) only [Sh.out h2, go_sem, seval, reduceCtorEq, ↓reduceIte]
    · simp [possB]; omega
    · refine aguard_f (fun h3 => ?_) (fun h3 => ?_) <;> (try simp only [decide_eq_true_eq, decide_eq_false_iff_not] at h3) <;> simp (disch := omega) only [Sh.out h3, go_sem, seval, reduceCtorEq, ↓reduceIte]
      · simp [possB]; omega
      · refine aguard_f (fun h4 => ?_) (fun h4 => ?_) <;> (try simp only [decide_eq_true_eq, decide_eq_false_iff_not] at h4) <;> simp (disch := omega) only [Sh.out h4, go_sem, seval, reduceCtorEq, ↓reduceIte]
        · simp [possB]; omega
        · refine acond_b (fun h5 => ?_) (fun h5 => ?_) <;> (try simp only [decide_eq_true_eq, decide_eq_false_iff_not] at h5) <;> simp (disch := omega) only [Sh.out h5, go_sem, seval, reduceCtorEq, ↓reduceIte]
          · simp [possB]; omega
          · refine awp_for [2, 3] (fun k : Nat => [(5, .p (.int .i64 k))]) (fun _ => [instO x, rteO r]) (fun k => k ≤ r.visits.length ∧ ∀ j, j < k → visB x (nth r.visits j) = true) (fun k => r.visits.length - k) 0 (by simp) (Weak.mk ?_) ?_
            · simp (disch := omega) only [instO, rteO, go_sem, seval, reduceCtorEq, ↓reduceIte]
            · rintro k ⟨hk, hno⟩
              simp (disch := omega) only [instO, rteO, go_sem, seval, reduceCtorEq, ↓reduceIte]
              refine acond_b (fun h => ?_) (fun h => ?_) <;> (try simp only [decide_eq_true_eq, decide_eq_false_iff_not] at h) <;> simp (disch := omega) only [Sh.out h, go_sem, seval, reduceCtorEq, ↓reduceIte]
              · have hk2 : k < r.visits.length := by omega
                refine awp_drawnM [10, 11] 12 mixed (by kernel_rfl) (by kernel_rfl) (by kernel_rfl) (by simp) ?_
                simp (disch := omega) only [go_sem, seval, reduceCtorEq, ↓reduceIte]
                refine exq_callT (stop18_c x (nth r.visits k) ho) ?_
                simp (disch := omega) only [go_sem, seval, reduceCtorEq, ↓reduceIte]
                refine lateR_cons _ _ (by simp (disch := omega) only [go_sem, seval, reduceCtorEq, ↓reduceIte]; exact ⟨rfl, rfl⟩) ?_
                simp (disch := omega) only [go_sem, seval, reduceCtorEq, ↓reduceIte]
                refine lateR_cons _ _ (by simp (disch := omega) only [go_sem, seval, reduceCtorEq, ↓reduceIte]; exact ⟨rfl, rfl⟩) ?_
                simp (disch := omega) only [go_sem, seval, reduceCtorEq, ↓reduceIte]
                refine acond_b (fun h6 => ?_) (fun h6 => ?_) <;> (try simp only [decide_eq_true_eq, decide_eq_false_iff_not] at h6) <;> simp (disch := omega) only [Sh.out h6, go_sem, seval, reduceCtorEq, ↓reduceIte]
                · have : r.visits.all (visB x) = false := by
                    rw [List.all_eq_false]; exact ⟨nth r.visits k, nth_mem hk2, by simpa using h6⟩
                  simp [possB, this]
                · exact ⟨k + 1, ⟨by omega, upto_iff.2 ⟨hno, by simpa using h6⟩⟩, by omega, Weak.mk (by simp (disch := omega) only [instO, rteO, go_sem, seval, reduceCtorEq, ↓reduceIte])⟩
              · have hkl : k = r.visits.length := by omega
                subst hkl
                have : r.visits.all (visB x) = true := by
                  rw [List.all_eq_true]
                  intro v hv
                  obtain ⟨j, hj, rfl⟩ := List.mem_iff_getElem.1 hv
                  rw [← nth_get hj]; exact hno j hj
                simp [possB, this]; omega
end Go.Proofs.YtccjopdlbolnhaaGreat.K
