/- Declarations that the closing texts need, part 16: joined by tools/slim.py. -/
import Derived.Test.YtcdoglogglbemaaGreatDoorZ15
import Derived.Shelf.Slices.In.SortNone
import Derived.Shelf.Sort.Plain
set_option linter.unusedVariables false
set_option linter.unusedSimpArgs false
namespace Go.AM
open Go.RowKit Go.Shelf Go.Lib Go.Sort Go.Proofs
theorem ACalls.sortInts {P : Program} {ρ : Ren} (L : Lays.n189 P ρ) (hg : IsFun P (ρ.f 189)) (l : List Int) (hlen : l.length < 4611686018427387904) {H : List AM.Obj} {o : Nat} (hHo : H[o]? = some (.elems 1 (l.map (PV.int .i64)))) :
  ACalls P (ρ.f 189) [.sl o 0 l.length l.length] H fun y H' => y = .tup [] ∧ H' = H.set o (.elems 1 ((l.mergeSort fun x y => decide (x ≤ y)).map (PV.int .i64))) := by
 refine ⟨hg, fun F ι w vs hr hv => ?_⟩
 obtain ⟨hv1, hv2⟩ := hv
 have h0 := hv2 0 _ rfl
 have hvs : vs = #[vs.getD 0 undef] := by
  apply Array.ext
  ·simpa using hv1
  ·intro i h2 h3
   have : i = 0 := by simp at h3; omega
   subst this
   simp [Array.getD, h2]
 rw [hvs]
 generalize vs.getD 0 undef = v0 at h0 ⊢
 clear hvs hv1 hv2
 have hol := (List.getElem?_eq_some_iff.1 hHo).1
 generalize hL : l.length = n at h0 hlen
 by_cases hn : n = 0
 ·subst hn
  have hl0 : l = [] := List.length_eq_zero_iff.1 hL
  subst hl0
  have e1 : H.set o (.elems 1 ((([] : List Int).mergeSort fun x y => decide (x ≤ y)).map (PV.int .i64))) = H := by
   apply List.ext_getElem?
   intro i
   rw [List.getElem?_set]
   split
   ·rename_i hi; subst hi; rw [hHo]; simp
   ·rfl
  obtain ⟨ad, cap, rfl⟩ : ∃ ad cap, v0 = .slice ad 0 cap := by
   cases h0 with
   | slNil => exact ⟨_, _, rfl⟩
   | sl => exact ⟨_, _, rfl⟩
   | slD _ _ _ _ _ hd => rw [hHo] at hd; cases hd
   | slS _ _ _ _ _ S2 xs2 hd hne => rw [hHo] at hd; simp at hd; obtain ⟨_, rfl⟩ := hd; simp at hne
   | slC _ _ _ _ _ _ hd => rw [hHo] at hd; cases hd
  refine (Any.slices_Sort_int_none L ad cap w).mono ?_
  rintro e w' ⟨rfl, rfl⟩
  exact ⟨.tup [], _, ι, _, rfl, ⟨rfl, e1.symm⟩, Good.refl hr, .tup [] #[] (by simp) (by simp)⟩
 cases h0 with
 | slNil => omega
 | slD _ _ _ _ _ hd => rw [hHo] at hd; cases hd
 | slS _ _ _ _ _ S ys hd hlt => rw [hHo] at hd; simp at hd; obtain ⟨_, rfl⟩ := hd; simp at hlt; omega
 | slC _ _ _ _ _ _ hd => rw [hHo] at hd; cases hd
 | sl _ _ _ _ b S cap t ys c hι hH ht2 hw hcap hl hle hm =>
 rw [hHo] at hH
 simp at hH
 obtain ⟨rfl, rfl⟩ := hH
 rcases hr.elm o 1 (l.map (PV.int .i64)) hHo with ⟨e1, _⟩ | ⟨b2, c2, t2, cap2, e1, e2, e3, e4, e5, e6, e7⟩
 ·rw [hι] at e1; cases e1
 rw [hι] at e1
 simp at e1; subst e1
 rw [hw] at e2
 simp at e2
 obtain ⟨rfl, rfl⟩ := e2
 have hbs : b < w.heap.size := (hr.avo o b hι).2
 simp only [List.length_map, Nat.mul_one] at e3 e4 hcap
 have cell : ∀ i (hi : i < n), c.getD i undef = .int .i64 (l[i]'(by omega)) := fun i hi => by
  have := e7 i (.int .i64 (l[i]'(by omega))) 0 (.int .i64 (l[i]'(by omega))) (by simp [hL, hi]) (by rfl)
  simp only [Nat.mul_one, Nat.add_zero] at this
  exact this.int_inv
 have hHolds : Holds (Value.int .i64) w b (0 * 1) l.toArray := fun j hj => by
  have hj2 : j < n := by simpa [hL] using hj
  have hjc : j < c.size := by omega
  refine ⟨?_, by simp [World.frozen?, hw]⟩
  have e9 := cell j hj2
  simp only [Array.getD_eq_getD_getElem?, hjc, getElem?_pos, Option.getD_some] at e9
  simp [World.cell?, hw, hjc, e9, hj2, hL]
 have main := Any.slices_Sort_int L b (0 * 1) cap l w hHolds hbs (by omega)
 rw [hL] at main
 refine main.mono ?_
 rintro e' w' ⟨rfl, m, os, rfl⟩
 generalize hS : (l.mergeSort fun x y => decide (x ≤ y)) = s
 have hsl : s.length = n := by rw [← hS, (List.mergeSort_perm l _).length_eq, hL]
 have hat : (grow (putRow (Value.int .i64) (Sort.ahead w m) b (0 * 1) s.toArray) os).heap[b]? = some (.cells (putCells (Value.int .i64) 0 s.toArray c) t (0, 0)) := by
  simp only [grow, putRow, mapBlock, Sort.ahead]
  rw [Array.getElem?_append_left (by simpa using hbs), Array.getElem?_modify, if_pos rfl, hw]
  rfl
 have hother : ∀ k, k < w.heap.size → k ≠ b → (grow (putRow (Value.int .i64) (Sort.ahead w m) b (0 * 1) s.toArray) os).heap[k]? = w.heap[k]? := fun k hk hne => by
  simp only [grow, putRow, mapBlock, Sort.ahead]
  rw [Array.getElem?_append_left (by simpa using hk), Array.getElem?_modify, if_neg (fun e => hne e.symm)]
 have hcs : (putCells (Value.int .i64) 0 s.toArray c).size = c.size := by simp [putCells]
 have g := good_setElems (xs' := s.map (PV.int .i64)) (w' := grow (putRow (Value.int .i64) (Sort.ahead w m) b (0 * 1) s.toArray) os) (cap := cap2) hr hHo rfl rfl rfl
  (fun c0 t0 hc0 => by rw [hw] at hc0; simp at hc0; obtain ⟨rfl, rfl⟩ := hc0; exact ⟨rfl, hcs⟩) (by simp [grow, putRow, mapBlock, Sort.ahead]) hat hother
  (.inl ⟨hι, .inl ⟨by simp [hsl, hL], fun c0 t0 hc0 => by rw [hw] at hc0; simp at hc0; obtain ⟨rfl, rfl⟩ := hc0; exact ⟨rfl, hcs⟩⟩⟩)
  (by rw [hcs, e3, Nat.mul_one]) (by simp; omega) e5 (fun i x hi => by
   rw [List.getElem?_map] at hi
   obtain ⟨y, _, rfl⟩ := Option.map_eq_some_iff.1 hi
   rfl) (fun i x j y hi hj => by
   rw [List.getElem?_map] at hi
   obtain ⟨q, hq, rfl⟩ := Option.map_eq_some_iff.1 hi
   have hj0 : j = 0 := by have := (List.getElem?_eq_some_iff.1 hj).1; simpa [PV.cells] using this
   subst hj0
   simp [PV.cells] at hj; subst hj
   have hil := (List.getElem?_eq_some_iff.1 hq).1
   have hic : i < c.size := by omega
   have e9 : (putCells (Value.int .i64) 0 s.toArray c).getD (i * 1 + 0) undef = .int .i64 q := by
    have hg := (List.getElem?_eq_some_iff.1 hq).2
    simp [putCells, Array.getD_eq_getD_getElem?, hic, hil, hg]
   rw [e9]
   exact .int _ _)
 have eι : ι.set o (some b) = ι := by
  apply List.ext_getElem?
  intro i
  rw [List.getElem?_set]
  have hιl := (List.getElem?_eq_some_iff.1 hι).1
  split
  ·rename_i hi; subst hi; rw [hι]
  ·rfl
 exact ⟨.tup [], _, _, _, rfl, ⟨rfl, rfl⟩, g, .tup [] #[] (by simp) (by simp)⟩
end Go.AM
set_option linter.unusedVariables false
set_option linter.unusedSimpArgs false
namespace Go.Proofs.YtcdoglogglbemaaGreatDoor.K
open Go Go.AM Go.Proofs
set_option maxRecDepth 8000
set_option maxHeartbeats 8000000
theorem zvalV : zval Tryz.prog 73 = some (.agg [.int .i64 0, .bool false]) := by kernel_rfl
theorem zvalI : zval Tryz.prog 3 = some (.int .i64 0) := by kernel_rfl
@[go_sem] theorem clrV {H : List AM.Obj} {o off len tot : Nat} : aclear Tryz.prog H 42 (.sl o off len tot) = clrB 2 (.agg [.int .i64 0, .bool false]) H (oat H o) o off len tot := aclear_own Tryz.underlying42 zvalV rfl rfl
@[go_sem] theorem clrI {H : List AM.Obj} {o off len tot : Nat} : aclear Tryz.prog H 32 (.sl o off len tot) = clrB 1 (.int .i64 0) H (oat H o) o off len tot := aclear_own Tryz.underlying32 zvalI rfl rfl
theorem mapVz (k : Nat) : List.replicate k (PV.agg [.int .i64 0, .bool false]) = (List.replicate k (⟨0, false⟩ : Vis)).map eVis := by rw [List.map_replicate]; rfl
theorem mapIz (k : Nat) : List.replicate k (PV.int .i64 0) = (List.replicate k (0 : Int)).map eI := by rw [List.map_replicate]; rfl
def slV (o k n : Nat) : V := if k = 0 ∧ 0 < n then .p (.list false []) else .sl o 0 k n
def rmH (x : Inst) (p : Pln) (g : Nat) (R : List Rte) (r : Rte) (m : List Vis) : List AM.Obj :=
 [instO x, plnO p, .cells [.p (.list true []), .p (.list true [])], .cells [.p (.int .i64 (g : Int))], .cells [.sl 5 0 R.length R.length, .p (.list true [])], .elems 4 (R.map eRte), rteO r, .elems 2 (m.map eVis)]
def goB (g : Nat) (v : Vis) : Bool := g.testBit v.order.toNat
theorem ord1_c (x : Inst) (p : Pln) (g : Nat) (R : List Rte) (r : Rte) (m : List Vis) (v : Vis) (hv : 0 ≤ v.order ∧ v.order ≤ 62) :
  ACalls Tryz.prog 40 [.p (eVis v), .ptr 3 0] (rmH x p g R r m) fun y H' => y = .p (.bool (goB g v)) ∧ H' = rmH x p g R r m := by
 refine acalls_weak [] (fn := Tryz.f40) Tryz.func40 rfl isF40 ?_
 simp (disch := omega) only [Tryz.f40, rmH, instO, plnO, rteO, go_sem, seval]
 refine (has_c (g : Int) v.order).use ?_
 simp (disch := omega) only [go_sem, seval]
 obtain ⟨n, hn⟩ : ∃ n : Nat, v.order = n := ⟨v.order.toNat, by omega⟩
 have e : sHas (g : Int) v.order = goB g v := by rw [goB, hn, sHas_nat g n (by omega)]; rfl
 rw [e]
 exact ⟨_, _, Weak.mk (by simp (disch := omega) only [rmH, instO, plnO, rteO, go_sem, seval]), rfl, rfl⟩
theorem delIx_c (x : Inst) (p : Pln) (g : Nat) (R : List Rte) (r : Rte) (m : List Vis) (hl : m.length ≤ 1048576) (hm : ∀ v ∈ m, 0 ≤ v.order ∧ v.order ≤ 62) :
  ACalls Tryz.prog 104 [.sl 7 0 m.length m.length, .fn (.func 40) [] [.ptr 3 0]] (rmH x p g R r m) fun y H' => y = .p (.int .i64 (fIx (goB g) m)) ∧ H' = rmH x p g R r m := by
 refine acalls_weak [] (fn := Tryz.f104) Tryz.func104 rfl isF104 ?_
 simp (disch := omega) only [Tryz.f104, rmH, instO, plnO, rteO, go_sem, seval]
 refine awp_for [0, 1, 7] (fun k : Nat => [(8, .p (.int .i64 k))]) (fun _ => rmH x p g R r m) (fun k => k ≤ m.length ∧ ∀ j, j < k → goB g (nth m j) = false) (fun k => m.length - k) 0 (by simp) (Weak.mk ?_) ?_
 ·simp (disch := omega) only [rmH, instO, plnO, rteO, go_sem, seval]
 ·rintro k ⟨hk, hno⟩
  simp (disch := omega) only [rmH, instO, plnO, rteO, go_sem, seval]
  refine acond_b (fun h => ?_) (fun h => ?_) <;> (try simp only [decide_eq_true_eq, decide_eq_false_iff_not] at h) <;> simp (disch := omega) only [Sh.out h, go_sem, seval]
  ·have hk2 : k < m.length := by omega
   simp (disch := first | omega | (simp only [List.length_cons, List.length_nil, List.length_append, List.length_map, List.length_take, List.length_drop] <;> omega)) only [elt_map hk2, hk2, if_true, go_sem, seval]
   refine (ord1_c x p g R r m (nth m k) (hm _ (nth_mem hk2))).useH ?_
   simp (disch := omega) only [go_sem, seval]
   refine acond_b (fun h2 => ?_) (fun h2 => ?_) <;> (try simp only [decide_eq_true_eq, decide_eq_false_iff_not] at h2) <;> simp (disch := omega) only [Sh.out h2, go_sem, seval]
   ·rw [fIx_at hk2 h2 hno]
    exact ⟨_, _, Weak.mk (by simp (disch := omega) only [rmH, instO, plnO, rteO, go_sem, seval]), rfl, rfl⟩
   ·exact ⟨k + 1, ⟨by omega, upto_iff.2 ⟨hno, by simpa using h2⟩⟩, by omega, Weak.mk (by simp (disch := omega) only [rmH, instO, plnO, rteO, go_sem, seval])⟩
  ·have hkl : k = m.length := by omega
   subst hkl
   rw [fIx_no hno]
   exact ⟨_, _, Weak.mk (by simp (disch := omega) only [rmH, instO, plnO, rteO, go_sem, seval]), rfl, rfl⟩
theorem fIx_neg {f : Vis → Bool} {l : List Vis} (h : fIx f l = -1) : ∀ v ∈ l, f v = false := fun v hv => by
 have := fIx_ge (f := f) (l := l)
 rw [h] at this
 have h2 : l.any f = false := by rw [← this]; rfl
 simpa using List.any_eq_false.1 h2 v hv
theorem fIx_pos {f : Vis → Bool} {l : List Vis} (h : ¬ fIx f l = -1) : ∃ i : Nat, fIx f l = (i : Int) ∧ i < l.length ∧ f (nth l i) = true ∧ ∀ j, j < i → f (nth l j) = false := by
 unfold fIx at h ⊢
 cases hi : l.findIdx? f with
 | none => rw [hi] at h; simp at h
 | some i =>
  rw [List.findIdx?_eq_some_iff_getElem] at hi
  obtain ⟨h1, h2, h3⟩ := hi
  exact ⟨i, rfl, h1, by rw [nth_get h1]; exact h2, fun j hj => by rw [nth_get (by omega)]; simpa using h3 j hj⟩
theorem filter_all {f : Vis → Bool} {l : List Vis} (h : ∀ v ∈ l, f v = false) : l.filter (fun v => !f v) = l := by
 rw [List.filter_eq_self]; intro v hv; rw [h v hv]; rfl
theorem filter_take {f : Vis → Bool} {l : List Vis} {k : Nat} (h : k < l.length) : (l.take (k + 1)).filter (fun v => !f v) = (l.take k).filter (fun v => !f v) ++ if f (nth l k) = true then [] else [nth l k] := by
 rw [List.take_succ_eq_append_getElem h, List.filter_append, nth_get h]
 congr 1
 cases c : f l[k] <;> simp [c]
theorem delete_c (x : Inst) (p : Pln) (g : Nat) (R : List Rte) (r : Rte) (m : List Vis) (hl : m.length ≤ 1048576) (hm : ∀ v ∈ m, 0 ≤ v.order ∧ v.order ≤ 62) :
  ACalls Tryz.prog 38 [.sl 7 0 m.length m.length, .fn (.func 40) [] [.ptr 3 0]] (rmH x p g R r m) fun y H' => ∃ (M : List Vis) (k : Nat), M.length = m.length ∧ k ≤ m.length ∧ M.take k = m.filter (fun v => !goB g v) ∧ y = slV 7 k m.length ∧ H' = rmH x p g R r M := by
 refine acalls_weak [12] (fn := Tryz.f38) Tryz.func38 rfl isF38 ?_
 simp (disch := omega) only [Tryz.f38, rmH, instO, plnO, rteO, go_sem, seval]
 refine (delIx_c x p g R r m hl hm).useH ?_
 simp (disch := omega) only [go_sem, seval]
 refine acond_b (fun h => ?_) (fun h => ?_) <;> (try simp only [decide_eq_true_eq, decide_eq_false_iff_not] at h) <;> simp (disch := omega) only [Sh.out h, go_sem, seval]
 ·exact ⟨.sl 7 0 m.length m.length, rmH x p g R r m, Weak.mk (by simp (disch := omega) only [rmH, instO, plnO, rteO, go_sem, seval]), m, m.length, rfl, Nat.le_refl _, by rw [List.take_length, filter_all (fIx_neg h)], by rw [slV, if_neg (by omega)], rfl⟩
 ·obtain ⟨i0, e0, h1, h2, h3⟩ := fIx_pos h
  rw [e0]
  simp (disch := omega) only [go_sem, seval]
  refine awp_forC [12] [0, 1] (fun q : Nat × Nat × List Vis => [(5, .p (.int .i64 q.1)), (6, .p (.int .i64 q.2.1))]) (fun q => rmH x p g R r q.2.2)
   (fun q => q.1 < q.2.1 ∧ q.2.1 ≤ m.length ∧ q.2.2.length = m.length ∧ q.2.2.take q.1 = (m.take q.2.1).filter (fun v => !goB g v) ∧ ∀ j, q.2.1 ≤ j → j < m.length → nth q.2.2 j = nth m j) (fun q => m.length - q.2.1) (i0, i0 + 1, m) ⟨by simp, by simp only; omega, rfl, ?_, fun _ _ _ => rfl⟩ (Weak.mk ?_) ?_
  ·simp only
   rw [filter_take h1, if_pos h2, List.append_nil]
   symm
   rw [List.filter_eq_self]
   intro v hv
   obtain ⟨j, hj, rfl⟩ := List.mem_iff_getElem.1 hv
   simp at hj
   have := h3 j (by omega)
   rw [nth_get (by omega)] at this
   rw [List.getElem_take, this]; rfl
  ·simp (disch := omega) only [rmH, instO, plnO, rteO, go_sem, seval]
  ·clear h1 h2 h3 e0 h
   rintro ⟨i, j, M⟩ ⟨q1, q2, q3, q4, q5⟩
   simp only at q1 q2 q3 q4 q5
   simp (disch := omega) only [rmH, instO, plnO, rteO, q3, go_sem, seval]
   refine acond_b (fun h4 => ?_) (fun h4 => ?_) <;> (try simp only [decide_eq_true_eq, decide_eq_false_iff_not] at h4) <;> simp (disch := omega) only [Sh.out h4, go_sem, seval]
   ·have hj : j < m.length := by omega
    have hjM : j < M.length := by omega
    have hi : i < M.length := by omega
    have hf := filter_take (f := goB g) hj
    have e1 : elt (M.map eVis) j = eVis (nth m j) := by rw [elt_map hjM, q5 j (Nat.le_refl _) hj]
    simp (disch := first | omega | (simp only [List.length_cons, List.length_nil, List.length_append, List.length_map, List.length_take, List.length_drop] <;> omega)) only [e1, q3, hj, if_true, go_sem, seval]
    refine ACalls.useP (L := [_]) (ord1_c x p g R r M (nth m j) (hm _ (nth_mem hj))) rfl ?_ (by rfl) ?_
    ·simp (disch := omega) only [go_sem, seval]
     generalize hgb : goB g (nth m j) = gb at hf ⊢
     cases gb with
     | true =>
      simp (disch := omega) only [go_sem, seval]
      rw [if_pos rfl, List.append_nil] at hf
      exact ⟨(i, j + 1, M), ⟨by simp only; omega, by simp only; omega, q3, by simp only; rw [q4, hf], fun k hk h => q5 k (by simp only at hk; omega) h⟩, by simp only; omega, Weak.mk (by simp (disch := omega) only [rmH, instO, plnO, rteO, go_sem, seval])⟩
     | false =>
      simp (disch := first | omega | (simp only [List.length_cons, List.length_nil, List.length_append, List.length_map, List.length_take, List.length_drop] <;> omega)) only [rmH, instO, plnO, rteO, List.cons_append, List.nil_append, q3, hi, hj, if_true, go_sem, seval]
      rw [if_neg (by simp)] at hf
      have hset : (M.map eVis).set i (.agg [.int .i64 (nth m j).order, .bool (nth m j).drp]) = (M.set i (nth m j)).map eVis := by rw [List.map_set]; rfl
      refine ⟨(i + 1, j + 1, M.set i (nth m j)), ⟨by simp only; omega, by simp only; omega, by simp only [List.length_set]; exact q3, ?_, fun k hk h => ?_⟩, by simp only; omega, Weak.mk (by simp (disch := omega) only [rmH, instO, plnO, rteO, hset, go_sem, seval])⟩
      ·simp only
       rw [List.take_succ_eq_append_getElem (by simpa using hi), List.take_set_of_le (Nat.le_refl _), List.getElem_set_self, q4, hf]
      ·simp only at hk ⊢
       rw [nth_get (by simp; omega), List.getElem_set_ne (by omega), ← nth_get (by omega)]
       exact q5 k (by omega) h
    ·simp [rmH, refH, instO, plnO, rteO, refB, refBs]
   ·have hjl : j = m.length := by omega
    subst hjl
    rw [List.take_length] at q4
    have hi : i < M.length := by omega
    obtain ⟨M', hM'⟩ : ∃ M' : List Vis, M' = M.take i ++ List.replicate (m.length - i) ⟨0, false⟩ ++ M.drop (i + (m.length - i)) := ⟨_, rfl⟩
    have hme : List.take i (M.map eVis) ++ (List.replicate (m.length - i) (⟨0, false⟩ : Vis)).map eVis ++ List.drop (i + (m.length - i)) (M.map eVis) = M'.map eVis := by rw [hM', List.map_append, List.map_append, List.map_take, List.map_drop]
    have hml : M'.length = m.length := by rw [hM']; simp; omega
    have hmt : M'.take i = m.filter fun v => !goB g v := by
     rw [hM', List.append_assoc, List.take_append_of_le_length (by simp; omega), List.take_take, Nat.min_self]; exact q4
    simp (disch := first | omega | (simp only [List.length_cons, List.length_nil, List.length_append, List.length_map, List.length_take, List.length_drop] <;> omega)) only [q3, if_true, mapVz, hme, go_sem, seval]
    by_cases hi0 : i = 0
    ·subst hi0
     refine awp_seq (awp_opN 2 rfl rfl ?_)
     refine ⟨_, opn_head0 rfl telt42 rfl (by rfl) (by simpa using hml) rfl, ?_⟩
     rintro _ rfl
     simp (disch := omega) only [go_sem, seval]
     refine awp_sound [] _ _ _ _ ?_
     simp (disch := omega) only [go_sem, seval]
     exact ⟨.p (.list false []), rmH x p g R r M', Weak.mk (by simp (disch := omega) only [rmH, instO, plnO, rteO, go_sem, seval]), M', 0, hml, Nat.zero_le _, hmt, by rw [slV, if_pos (by omega)], rfl⟩
    ·refine awp_sound [] _ _ _ _ ?_
     simp (disch := omega) only [hml, if_true, go_sem, seval]
     exact ⟨.sl 7 0 i m.length, rmH x p g R r M', Weak.mk (by simp (disch := omega) only [rmH, instO, plnO, rteO, Nat.sub_zero, go_sem, seval]), M', i, hml, by omega, hmt, by rw [slV, if_neg (by omega)], rfl⟩
end Go.Proofs.YtcdoglogglbemaaGreatDoor.K
set_option linter.unusedVariables false
set_option linter.unusedSimpArgs false
namespace Go.Proofs.YtcdoglogglbemaaGreatDoor.K
open Go Go.AM Go.Proofs
set_option maxRecDepth 8000
set_option maxHeartbeats 8000000
def srtI (l : List Int) : List Int := l.mergeSort fun x y => decide (x ≤ y)
theorem srtI_perm (l : List Int) : (srtI l).Perm l := List.mergeSort_perm l _
theorem srtI_srt (l : List Int) : (srtI l).Pairwise (· ≤ ·) :=
 (List.pairwise_mergeSort (le := fun x y : Int => decide (x ≤ y)) (fun a b c h1 h2 => by simp only [decide_eq_true_eq] at *; omega) (fun a b => by simp; omega) l).imp fun h => by simpa using h
theorem slSort_c {H : List AM.Obj} {o : Nat} (l : List Int) (hl : l.length ≤ 1048576) (hH : H[o]? = some (.elems 1 (l.map eI))) :
  ACalls Tryz.prog 44 [.sl o 0 l.length l.length] H fun y H' => y = .tup [] ∧ H' = H.set o (.elems 1 ((srtI l).map eI)) :=
 ACalls.sortInts laySort isF44 l (by omega) hH
def cpH (x : Inst) (p : Pln) (g : Nat) (R : List Rte) (n : Nat) (m : List Int) : List AM.Obj :=
 [instO x, plnO p, .cells [.p (.list true []), .p (.list true [])], .cells [.p (.int .i64 (g : Int))], .cells [.sl 5 0 R.length R.length, .sl 6 0 n n], .elems 4 (R.map eRte), .elems 1 (m.map eI)]
theorem asc_of_adj {l : List Int} {k : Nat} (hs : l.Pairwise (· ≤ ·)) (h : ∀ j, 0 < j → j < k → nth l j ≠ nth l (j - 1)) : (l.take k).Pairwise (· < ·) := by
 rw [List.pairwise_iff_getElem]
 intro a b ha hb hab
 simp at ha hb
 rw [List.getElem_take, List.getElem_take]
 have h1 := h b (by omega) (by omega)
 rw [nth_get (by omega), nth_get (by omega)] at h1
 have h2 := List.pairwise_iff_getElem.1 hs (b - 1) b (by omega) (by omega) (by omega)
 rcases Nat.eq_or_lt_of_le (show a ≤ b - 1 by omega) with e | e
 ·subst e; omega
 ·have h3 := List.pairwise_iff_getElem.1 hs a (b - 1) (by omega) (by omega) e
  omega
theorem compact_c (x : Inst) (p : Pln) (g : Nat) (R : List Rte) (m : List Int) (hl : m.length ≤ 1048576) (hs : m.Pairwise (· ≤ ·)) :
  ACalls Tryz.prog 45 [.sl 6 0 m.length m.length] (cpH x p g R m.length m) fun y H' => ∃ (M : List Int) (k : Nat), M.length = m.length ∧ k ≤ m.length ∧ (M.take k).Pairwise (· < ·) ∧ (∀ z, z ∈ M.take k ↔ z ∈ m) ∧ y = .sl 6 0 k m.length ∧ H' = cpH x p g R m.length M := by
 have hs' : ∀ a b, a ≤ b → b < m.length → nth m a ≤ nth m b := fun a b h1 h2 => by
  rcases Nat.eq_or_lt_of_le h1 with e | e
  ·rw [e]; exact Int.le_refl _
  ·rw [nth_get h2, nth_get (by omega)]; exact List.pairwise_iff_getElem.1 hs a b (by omega) h2 e
 refine acalls_weak [] (fn := Tryz.f45) Tryz.func45 rfl isF45 ?_
 simp (disch := omega) only [Tryz.f45, cpH, instO, plnO, go_sem, seval]
 refine acond_b (fun h => ?_) (fun h => ?_) <;> (try simp only [decide_eq_true_eq, decide_eq_false_iff_not] at h) <;> simp (disch := omega) only [Sh.out h, go_sem, seval]
 ·exact ⟨.sl 6 0 m.length m.length, cpH x p g R m.length m, Weak.mk (by simp (disch := omega) only [cpH, instO, plnO, go_sem, seval]), m, m.length, rfl, Nat.le_refl _, by
   rw [List.take_length]
   have := asc_of_adj (l := m) (k := m.length) hs fun j h1 h2 => by omega
   rwa [List.take_length] at this, by simp, rfl, rfl⟩
 ·refine awp_for [0] (fun k : Nat => [(3, .p (.int .i64 k))]) (fun _ => cpH x p g R m.length m) (fun k => 1 ≤ k ∧ k ≤ m.length ∧ ∀ j, 0 < j → j < k → nth m j ≠ nth m (j - 1)) (fun k => m.length - k) 1 ⟨by omega, by omega, fun j h1 h2 => by omega⟩ (Weak.mk ?_) ?_
  ·simp (disch := omega) only [cpH, instO, plnO, go_sem, seval]
  ·rintro k ⟨hk1, hk2, hadj⟩
   simp (disch := omega) only [cpH, instO, plnO, go_sem, seval]
   refine acond_b (fun h1 => ?_) (fun h1 => ?_) <;> (try simp only [decide_eq_true_eq, decide_eq_false_iff_not] at h1) <;> simp (disch := omega) only [Sh.out h1, go_sem, seval]
   ·have hk3 : k < m.length := by omega
    have e1 : ((k : Int) - 1).toNat = k - 1 := by omega
    have he1 : elt (m.map eI) k = eI (nth m k) := elt_map hk3
    have he2 : elt (m.map eI) (k - 1) = eI (nth m (k - 1)) := elt_map (by omega)
    have hk4 : k - 1 < m.length := by omega
    refine awp_drawnA mixed (by kernel_rfl) (by kernel_rfl) ?_
    simp (disch := omega) only [go_sem, seval]
    simp (disch := first | omega | (simp only [List.length_cons, List.length_nil, List.length_append, List.length_map, List.length_take, List.length_drop] <;> omega)) only [e1, he1, he2, hk3, hk4, if_true, go_sem, seval]
    refine acond_b (fun h2 => ?_) (fun h2 => ?_) <;> (try simp only [decide_eq_true_eq, decide_eq_false_iff_not] at h2) <;> simp (disch := omega) only [Sh.out h2, go_sem, seval]
    ·have h2' : nth m k = nth m (k - 1) := by simpa using h2
     have htk : ∀ i, i < m.length → m.take (i + 1) = m.take i ++ [nth m i] := fun i hi => by rw [List.take_succ_eq_append_getElem hi, nth_get hi]
     refine awp_for [0, 4] (fun q : Nat × Nat × List Int => [(3, .p (.int .i64 q.1)), (5, .p (.int .i64 q.2.1))]) (fun q => cpH x p g R m.length q.2.2)
      (fun q => q.1 + 1 ≤ k + q.2.1 ∧ k ≤ q.1 ∧ 1 ≤ q.2.1 ∧ k + q.2.1 ≤ m.length ∧ q.2.2.length = m.length ∧ (∀ j, k + q.2.1 ≤ j + 1 → j < m.length → nth q.2.2 j = nth m j) ∧ (q.2.2.take q.1).Pairwise (· < ·) ∧ (∀ z, z ∈ q.2.2.take q.1 ↔ z ∈ m.take (k + q.2.1)) ∧ ∀ z ∈ q.2.2.take q.1, z ≤ nth m (k + q.2.1 - 1)) (fun q => m.length - q.2.1) (k, 1, m)
      ⟨Nat.le_refl _, Nat.le_refl _, Nat.le_refl _, by simp only; omega, rfl, fun _ _ _ => rfl, asc_of_adj hs hadj, fun z => ?_, fun z hz => ?_⟩ (Weak.mk ?_) ?_
     ·simp only
      rw [htk k hk3, List.mem_append, List.mem_singleton, h2']
      constructor
      ·exact .inl
      ·rintro (h3 | h3)
       ·exact h3
       ·rw [h3]; exact List.mem_iff_getElem.2 ⟨k - 1, by simp; omega, by rw [List.getElem_take, nth_get hk4]⟩
     ·simp only at hz
      obtain ⟨j, hj, rfl⟩ := List.mem_iff_getElem.1 hz
      rw [List.length_take] at hj
      rw [List.getElem_take, ← nth_get (by omega)]
      exact hs' j _ (by simp only; omega) (by simp only; omega)
     ·simp (disch := omega) only [cpH, instO, plnO, go_sem, seval]
     ·rintro ⟨i, b, M⟩ ⟨q1, q2, q3, q4, q5, q6, q7, q8, q9⟩
      simp only at q1 q2 q3 q4 q5 q6 q7 q8 q9
      simp (disch := omega) only [cpH, instO, plnO, q5, if_true, go_sem, seval]
      refine acond_b (fun h3 => ?_) (fun h3 => ?_) <;> (try simp only [decide_eq_true_eq, decide_eq_false_iff_not] at h3) <;> simp (disch := omega) only [Sh.out h3, go_sem, seval]
      ·have hb1 : k + b < M.length := by omega
       have hb2 : k + (b - 1) < M.length := by omega
       have f0 : ((b : Int) - 1).toNat = b - 1 := by omega
       have f1 : elt (M.map eI) (k + b) = eI (nth m (k + b)) := by rw [elt_map hb1, q6 (k + b) (by omega) (by omega)]
       have f2 : elt (M.map eI) (k + (b - 1)) = eI (nth m (k + b - 1)) := by rw [elt_map hb2, show k + (b - 1) = k + b - 1 by omega, q6 (k + b - 1) (by omega) (by omega)]
       have hb3 : k + b < m.length := by omega
       have hb4 : k + (b - 1) < m.length := by omega
       refine awp_drawnA mixed (by kernel_rfl) (by kernel_rfl) ?_
       simp (disch := omega) only [go_sem, seval]
       simp (disch := first | omega | (simp only [List.length_cons, List.length_nil, List.length_append, List.length_map, List.length_take, List.length_drop] <;> omega)) only [f0, f1, f2, q5, hb3, hb4, if_true, go_sem, seval]
       have hz : nth m (k + b - 1) ≤ nth m (k + b) := hs' _ _ (by omega) hb3
       have hi : i < M.length := by omega
       have hi2 : i < m.length := by omega
       refine acond_b (fun h4 => ?_) (fun h4 => ?_) <;> (try simp only [decide_eq_true_eq, decide_eq_false_iff_not] at h4) <;> simp (disch := omega) only [Sh.out h4, go_sem, seval]
       ·have hset : (M.map eI).set i (.int .i64 (nth m (k + b))) = (M.set i (nth m (k + b))).map eI := by rw [List.map_set]; rfl
        simp (disch := first | omega | (simp only [List.length_cons, List.length_nil, List.length_append, List.length_map, List.length_take, List.length_drop] <;> omega)) only [f1, q5, hi2, hb3, if_true, go_sem, seval]
        have e9 : (M.set i (nth m (k + b))).take (i + 1) = M.take i ++ [nth m (k + b)] := by
         rw [List.take_succ_eq_append_getElem (by simpa using hi), List.take_set_of_le (Nat.le_refl _), List.getElem_set_self]
        refine ⟨(i + 1, b + 1, M.set i (nth m (k + b))), ⟨by simp only; omega, by simp only; omega, by simp only; omega, by simp only; omega, by simp only [List.length_set]; exact q5, fun j h5 h6 => ?_, ?_, fun z => ?_, fun z hz => ?_⟩, by simp only; omega, Weak.mk (by simp (disch := omega) only [cpH, instO, plnO, hset, go_sem, seval])⟩
        ·simp only at h5 ⊢
         rw [nth_get (by simp; omega), List.getElem_set_ne (by omega), ← nth_get (by omega)]
         exact q6 j (by omega) h6
        ·simp only
         rw [e9, List.pairwise_append]
         refine ⟨q7, by simp, fun a h5 c h6 => ?_⟩
         have := q9 a h5
         simp at h6
         omega
        ·simp only
         rw [e9, show k + (b + 1) = k + b + 1 by omega, htk _ hb3, List.mem_append, List.mem_append, q8]
        ·simp only at hz ⊢
         rw [e9, List.mem_append, List.mem_singleton] at hz
         rw [show k + (b + 1) - 1 = k + b by omega]
         rcases hz with h5 | h5
         ·have := q9 z h5; omega
         ·omega
       ·have h4' : nth m (k + b) = nth m (k + b - 1) := by simpa using h4
        refine ⟨(i, b + 1, M), ⟨by simp only; omega, q2, by simp only; omega, by simp only; omega, q5, fun j h5 h6 => q6 j (by simp only at h5; omega) h6, q7, fun z => ?_, fun z hz => ?_⟩, by simp only; omega, Weak.mk (by simp (disch := omega) only [cpH, instO, plnO, go_sem, seval])⟩
        ·simp only
         rw [q8, show k + (b + 1) = k + b + 1 by omega, htk _ hb3, List.mem_append, List.mem_singleton, h4']
         constructor
         ·exact .inl
         ·rintro (h5 | h5)
          ·exact h5
          ·rw [h5]; exact List.mem_iff_getElem.2 ⟨k + b - 1, by simp; omega, by rw [List.getElem_take, nth_get (by omega)]⟩
        ·simp only at hz ⊢
         rw [show k + (b + 1) - 1 = k + b by omega, h4']
         exact q9 z hz
      ·have hkb : k + b = m.length := by omega
       rw [hkb, List.take_length] at q8
       have hi : i < M.length := by omega
       obtain ⟨M', hM'⟩ : ∃ M' : List Int, M' = M.take i ++ List.replicate (m.length - i) 0 ++ M.drop (i + (m.length - i)) := ⟨_, rfl⟩
       have hme : List.take i (M.map eI) ++ (List.replicate (m.length - i) (0 : Int)).map eI ++ List.drop (i + (m.length - i)) (M.map eI) = M'.map eI := by rw [hM', List.map_append, List.map_append, List.map_take, List.map_drop]
       have hml : M'.length = m.length := by rw [hM']; simp; omega
       have hmt : M'.take i = M.take i := by
        rw [hM', List.append_assoc, List.take_append_of_le_length (by simp; omega), List.take_take, Nat.min_self]
       simp (disch := first | omega | (simp only [List.length_cons, List.length_nil, List.length_append, List.length_map, List.length_take, List.length_drop] <;> omega)) only [q5, if_true, mapIz, hme, hml, go_sem, seval]
       exact ⟨.sl 6 0 i m.length, cpH x p g R m.length M', Weak.mk (by simp (disch := omega) only [cpH, instO, plnO, Nat.sub_zero, go_sem, seval]), M', i, hml, by omega, by rw [hmt]; exact q7, fun z => by rw [hmt]; exact q8 z, rfl, rfl⟩
    ·exact ⟨k + 1, ⟨by omega, by omega, fun j h3 h4 => by
      rcases Nat.eq_or_lt_of_le (show j ≤ k by omega) with e | e
      ·subst e; simpa using h2
      ·exact hadj j h3 e⟩, by omega, Weak.mk (by simp (disch := omega) only [cpH, instO, plnO, go_sem, seval])⟩
   ·have hkl : k = m.length := by omega
    subst hkl
    exact ⟨.sl 6 0 m.length m.length, cpH x p g R m.length m, Weak.mk (by simp (disch := omega) only [cpH, instO, plnO, go_sem, seval]), m, m.length, rfl, Nat.le_refl _, asc_of_adj hs hadj, by simp, rfl, rfl⟩
end Go.Proofs.YtcdoglogglbemaaGreatDoor.K
set_option linter.unusedVariables false
set_option linter.unusedSimpArgs false
namespace Go.Proofs.YtcdoglogglbemaaGreatDoor.K
open Go Go.AM Go.Proofs
set_option maxRecDepth 60000
set_option maxHeartbeats 8000000
theorem uns_eq {l : List Int} {g : Nat} {m : List Int} (h0 : ∀ u ∈ l, 0 ≤ u ∧ u ≤ 60) (hg : g < pw 61) (ha : m.Pairwise (· < ·)) (hm : ∀ z, z ∈ m ↔ z ∈ l ∨ z ∈ memU (g : Int) 63) : m = unsL g l := by
 refine asc_eq ha (memU_asc _ _) fun z => ?_
 rw [hm, unsL, memU_iff, memU_iff]
 constructor
 ·rintro (h | ⟨j, rfl, h1, h2⟩)
  ·have := h0 z h
   refine ⟨z.toNat, by omega, by omega, ?_⟩
   rw [Nat.testBit_or, setL_iff.2 ⟨z, h, rfl⟩]; rfl
  ·exact ⟨j, rfl, h1, by rw [Nat.testBit_or, h2, Bool.or_true]⟩
 ·rintro ⟨j, rfl, h1, h2⟩
  rw [Nat.testBit_or, Bool.or_eq_true, setL_iff] at h2
  rcases h2 with ⟨i, h3, h4⟩ | h2
  ·have := h0 i h3
   left
   rw [← h4, Int.toNat_of_nonneg this.1]; exact h3
  ·exact .inr ⟨j, rfl, h1, h2⟩
structure Rm (x : Inst) (p : Pln) : Prop where
 n : x.orders.length ≤ 60
 bl : x.before.length ≤ 1048576
 val : Val x.orders.length x.before
 rl : p.routes.length ≤ 1048576
 ul : p.unserved.length ≤ 1000
 b : ∀ r ∈ p.routes, rteB r
theorem rmOrders_c (x : Inst) (p : Pln) (set : Int) (h : Rm x p) (hs : I64 set) :
  ACalls Tryz.prog 13 [.p (eInst x), .p (ePln p), .p (.int .i64 set)] [] fun y H' => y = .tup [.p (ePln (rmF x p set).1), .p (.int .i64 ((rmF x p set).2.1 : Nat)), .p (.int .i64 (rmF x p set).2.2)] ∧ H' = [] := by
 obtain ⟨hn, hbl, hv, hr, hu, hb⟩ := h
 have h60 : pw x.orders.length ≤ pw 60 := pw_le hn
 have e60 : pw 60 = 1152921504606846976 := rfl
 refine acalls_weak [6] (fn := Tryz.f13) Tryz.func13 rfl isF13 ?_
 simp (disch := omega) only [Tryz.f13, go_sem, seval]
 refine useT (rmRight_c x p hn hr (by omega) hb) ?_
 cases hask : askB x p with
 | false =>
  have e : rmF x p set = (zPln, 0, 2) := by rw [rmF, hask]; rfl
  rw [e]
  simp (disch := omega) only [go_sem, seval]
  exact ⟨_, _, Weak.mk (by simp (disch := omega) only [zPln, List.map_nil, go_sem, seval]), rfl, rfl⟩
 | true =>
  have hk : kno x.orders.length p.routes = true := by rw [askB, Bool.and_eq_true] at hask; exact hask.1
  have huI : unsI x.orders.length p.unserved = true := by rw [askB, Bool.and_eq_true] at hask; exact hask.2
  rw [hk, if_pos rfl]
  have ha := srvS_lt hk
  simp (disch := omega) only [go_sem, seval]
  refine aguard_f (fun h1 => ?_) (fun h1 => ?_) <;> (try simp only [decide_eq_true_eq, decide_eq_false_iff_not] at h1) <;> simp (disch := omega) only [Sh.out h1, go_sem, seval]
  ·have e : rmF x p set = (zPln, 0, 2) := by
    rw [rmF, okSet]
    have : ¬ 0 ≤ set := by omega
    simp [this]
   rw [e]
   exact ⟨_, _, Weak.mk (by simp (disch := omega) only [zPln, List.map_nil, go_sem, seval]), rfl, rfl⟩
  ·obtain ⟨S, rfl⟩ : ∃ S : Nat, set = S := ⟨set.toNat, by omega⟩
   have hS : S < 9223372036854775808 := by have := hs.2; omega
   have hd : S / pw x.orders.length = 0 ↔ S < pw x.orders.length := Nat.div_eq_zero_iff_lt (pw_pos _)
   have hfd : (S : Int).fdiv (2 ^ min x.orders.length 64) = ((S / pw x.orders.length : Nat) : Int) := by
    have e1 : min x.orders.length 64 = x.orders.length := by omega
    have e2 : (2 : Int) ^ x.orders.length = ((pw x.orders.length : Nat) : Int) := by simp [pw]
    rw [e1, e2, Int.fdiv_eq_ediv_of_nonneg _ (by omega)]
    exact (Int.natCast_ediv _ _).symm
   rw [hfd]
   refine acond_b (fun h2 => ?_) (fun h2 => ?_) <;> (try simp only [decide_eq_true_eq, decide_eq_false_iff_not] at h2) <;> simp (disch := omega) only [Sh.out h2, go_sem, seval]
   ·have e : rmF x p (S : Int) = (zPln, 0, 2) := by
     rw [rmF, okSet]
     have : ¬ (S : Int) < ((pw x.orders.length : Nat) : Int) := by omega
     simp [this]
    rw [e]
    exact ⟨_, _, Weak.mk (by simp (disch := omega) only [zPln, List.map_nil, go_sem, seval]), rfl, rfl⟩
   ·have hS2 : S < pw x.orders.length := hd.1 (by omega)
    have e : rmF x p (S : Int) = (rmP p (goneF x p S), goneF x p S, 0) := by
     rw [rmF, okSet, hask]
     have q1 : (0 : Int) ≤ (S : Int) := by omega
     have q2 : (S : Int) < ((pw x.orders.length : Nat) : Int) := by omega
     simp [q1, q2]
    rw [e]
    have eg : goneF x p (S : Int) = lvS x.orders.length x.before (srvS p.routes) S := by rw [goneF, Int.toNat_natCast]
    rw [eg]
    have hg := lvS_lt x.orders.length x.before (srvS p.routes) S
    refine (rmLeaving_c x (srvS p.routes) S hn hbl hv ha hS).use ?_
    simp (disch := omega) only [go_sem, seval]
    generalize lvS x.orders.length x.before (srvS p.routes) S = g at *
    refine awp_weak (Weak.nilC (o := 4) (j := 0) 4 (by rfl) (by rfl) (by simp)) ?_
    refine awp_seq ?_
    refine awp_sound [10, 16] _ _ _ _ ?_
    simp (disch := omega) only [List.set_cons_succ, List.set_cons_zero, List.cons_append, List.nil_append, List.length_cons, List.length_nil, go_sem, seval]
    have hki := kno_iff.1 hk
    refine awp_forC [10] [4, 6, 11, 12, 41, 42] (fun k : Nat => [(43, .p (.int .i64 k))]) (fun k => [instO x, plnO p, .cells [.p (.list true []), .p (.list true [])], .cells [.p (.int .i64 (g : Int))], .cells [.sl 5 0 (leftR g (p.routes.take k)).length (leftR g (p.routes.take k)).length, .p (.list true [])], .elems 4 ((leftR g (p.routes.take k)).map eRte)]) (fun k => k ≤ p.routes.length) (fun k => p.routes.length - k) 0 (by simp) (Weak.mk ?_) ?_
    ·simp (disch := omega) only [instO, plnO, leftR, List.take_zero, List.map_nil, List.filter_nil, List.length_nil, go_sem, seval]
    ·intro k hk1
     have hll : (leftR g (p.routes.take k)).length ≤ 1048576 := Nat.le_trans leftR_len (by simp; omega)
     simp (disch := omega) only [instO, plnO, go_sem, seval]
     refine acond_b (fun h3 => ?_) (fun h3 => ?_) <;> (try simp only [decide_eq_true_eq, decide_eq_false_iff_not] at h3) <;> simp (disch := omega) only [Sh.out h3, go_sem, seval]
     ·have hk2 : k < p.routes.length := by omega
      have hlt := leftR_take (g := g) hk2
      have hbk := hb _ (nth_mem hk2)
      have hvr : ∀ v ∈ (nth p.routes k).visits, 0 ≤ v.order ∧ v.order ≤ 62 := fun v hv => by have := hki _ (nth_mem hk2) v hv; omega
      generalize leftR g (p.routes.take k) = R at *
      refine (cloneV_c (nth p.routes k).visits _ hbk.1).useF ?_
      simp (disch := omega) only [go_sem, seval]
      refine (delete_c x p g R (nth p.routes k) (nth p.routes k).visits hbk.1 hvr).mono ?_
      rintro y H' ⟨M, q, d1, d2, d3, rfl, rfl⟩
      have hfe : (cutR g (nth p.routes k)).visits = (nth p.routes k).visits.filter fun v => !goB g v := rfl
      by_cases hq : q = 0 ∧ 0 < (nth p.routes k).visits.length
      ·rw [slV, if_pos hq]
       rw [hq.1, List.take_zero] at d3
       rw [hfe, ← d3, if_neg (by simp), List.append_nil] at hlt
       simp (disch := omega) only [rmH, instO, plnO, rteO, go_sem, seval]
       refine awp_sound [] _ _ _ _ ?_
       simp (disch := omega) only [List.length_nil, go_sem, seval]
       exact ⟨k + 1, by omega, by omega, Weak.mk (by simp (disch := omega) only [instO, plnO, hlt, go_sem, seval])⟩
      ·rw [slV, if_neg hq]
       simp (disch := omega) only [rmH, instO, plnO, rteO, d1, decide_true, if_true, go_sem, seval]
       have hq2 : q ≤ M.length := by omega
       have hfz : fzV 7 (M.map eVis) (.sl 7 0 q (nth p.routes k).visits.length) = .p (.list false ((cutR g (nth p.routes k)).visits.map eVis)) := by
        rw [fzV, if_pos ⟨rfl, by simpa using d1, by omega⟩, hfe, ← d3, List.map_take]; simp
       have hW : (cutR g (nth p.routes k)).visits.length ≤ 1048576 := by
        have := hbk.1
        rw [hfe]
        exact Nat.le_trans (List.length_filter_le _ _) this
       refine awp_weak (Weak.fz (o := 7) (by rfl)) ?_
       refine awp_sound [] _ _ _ _ ?_
       simp (disch := omega) only [List.map_cons, List.map_nil, List.set_cons_succ, List.set_cons_zero, hfz, go_sem, seval]
       refine acond_b (fun h4 => ?_) (fun h4 => ?_) <;> (try simp only [decide_eq_true_eq, decide_eq_false_iff_not] at h4) <;> simp (disch := omega) only [Sh.out h4, go_sem, seval]
       ·rw [if_pos (by omega)] at hlt
        refine ⟨k + 1, by omega, by omega, Weak.mk ?_⟩
        simp (disch := omega) only [instO, plnO, hlt, List.map_append, List.map_cons, List.map_nil, List.length_append, List.length_cons, List.length_nil, go_sem, seval]
        rfl
       ·rw [if_neg (by omega), List.append_nil] at hlt
        exact ⟨k + 1, by omega, by omega, Weak.mk (by simp (disch := omega) only [instO, plnO, hlt, go_sem, seval])⟩
     ·have hkl : k = p.routes.length := by omega
      subst hkl
      rw [List.take_length] at hll ⊢
      obtain ⟨R, hR⟩ : ∃ R, R = leftR g p.routes := ⟨_, rfl⟩
      rw [← hR] at hll ⊢
      refine awp_sound [16] _ _ _ _ ?_
      simp (disch := omega) only [instO, plnO, go_sem, seval]
      refine awp_drawnM [2] 4 mixed (by kernel_rfl) (by kernel_rfl) (by kernel_rfl) (by simp) ?_
      simp (disch := omega) only [instO, plnO, go_sem, seval]
      refine lateR_cons (.sl 6 0 p.unserved.length p.unserved.length) [.elems 1 (p.unserved.map eI)] (by
       simp (disch := omega) only [go_sem, seval]
       refine (cloneI_c p.unserved _ (by omega)).useF ?_
       exact ⟨rfl, rfl⟩) ?_
      simp (disch := omega) only [lateR, go_sem, seval]
      have hmg := memU_len (g : Int) 63
      refine ((members_c (g : Int)).frozen (by simp)).use ?_
      have hmi : ∀ z ∈ p.unserved ++ memU (g : Int) 63, 0 ≤ z ∧ z ≤ 60 := fun z hz => by
       rcases List.mem_append.1 hz with h5 | h5
       ·have := List.all_eq_true.1 huI z h5
        simp only [Bool.and_eq_true, decide_eq_true_eq] at this
        omega
       ·obtain ⟨j, rfl, _, h6⟩ := memU_iff.1 h5
        have := bit_pw hg h6
        omega
      have hlen : (p.unserved ++ memU (g : Int) 63).length ≤ 1063 := by simp; omega
      obtain ⟨L, hL⟩ : ∃ L, L = p.unserved ++ memU (g : Int) 63 := ⟨_, rfl⟩
      have hL1 : p.unserved.map eI ++ (memU (g : Int) 63).map eI = L.map eI := by rw [hL, List.map_append]
      have hL2 : p.unserved.length + (memU (g : Int) 63).length = L.length := by rw [hL, List.length_append]
      rw [← hL] at hmi hlen
      simp (disch := omega) only [hL1, hL2, go_sem, seval]
      refine (slSort_c L (by omega) rfl).useH ?_
      have hsl : (srtI L).length = L.length := (srtI_perm L).length_eq
      simp (disch := omega) only [List.set_cons_succ, List.set_cons_zero, go_sem, seval]
      rw [← hsl]
      obtain ⟨m, hm⟩ : ∃ m, m = srtI L := ⟨_, rfl⟩
      have hms : m.Pairwise (· ≤ ·) := by rw [hm]; exact srtI_srt L
      have hmm : ∀ z, z ∈ m ↔ z ∈ L := fun z => by rw [hm]; exact (srtI_perm L).mem_iff
      rw [← hm] at hsl ⊢
      refine (compact_c x p g R m (by omega) hms).mono ?_
      rintro y H' ⟨M, k, d1, d2, d3, d4, rfl, rfl⟩
      have hMu : M.take k = unsL g p.unserved := uns_eq (g := g) (fun u hu => hmi u (by rw [hL]; exact List.mem_append_left _ hu)) (Nat.lt_of_lt_of_le hg (pw_le (by omega))) d3 fun z => by rw [d4, hmm, hL, List.mem_append]
      simp (disch := omega) only [cpH, instO, plnO, d1, decide_true, if_true, go_sem, seval]
      have hfz : fzV 6 (M.map eI) (.sl 6 0 k m.length) = .p (.list false ((unsL g p.unserved).map eI)) := by
       rw [fzV, if_pos ⟨rfl, by simpa using d1, by omega⟩, ← hMu, List.map_take]; simp
      have hfz5 : fzV 5 (R.map eRte) (.sl 6 0 k m.length) = .sl 6 0 k m.length := by rw [fzV, if_neg (by simp)]
      refine awp_weak (Weak.fz (o := 5) (by rfl)) ?_
      refine awp_weak (Weak.fz (o := 6) (by rfl)) ?_
      refine awp_sound [] _ _ _ _ ?_
      simp (disch := omega) only [List.map_cons, List.map_nil, List.set_cons_succ, List.set_cons_zero, hfz5, hfz, go_sem, seval]
      refine awp_drawnC [2] [1] [3] 3 mixed (by kernel_rfl) (by kernel_rfl) (by kernel_rfl) (by kernel_rfl) (by simp) ?_
      simp (disch := omega) only [go_sem, seval]
      refine ⟨fun q hq p' hp => ?_, ?_⟩
      ·simp only [List.mem_cons, List.not_mem_nil, or_false] at hq
       subst hq
       obtain rfl : 11 = p' := Option.some.inj hp
       exact keptV_ptr (by decide)
      ·refine lateC_one 2 (fun y H' => y = .junk ∧ H' = [instO x, plnO p, plnO (rmP p g), .cells [.p (.int .i64 (g : Int))], plnO (rmP p g), .dead, .dead]) (by kernel_rfl) (by simp (disch := omega) only [instO, plnO, rmP, hR, go_sem, seval]) ?_
       rintro y H' ⟨rfl, rfl⟩
       refine ⟨fun k hk => by simp at hk; subst hk; rfl, lateC_z ?_⟩
       simp (disch := omega) only [instO, plnO, rmP, go_sem, seval]
       exact ⟨_, _, Weak.mk (by simp (disch := omega) only [rmP, hR, go_sem, seval]), rfl, rfl⟩
end Go.Proofs.YtcdoglogglbemaaGreatDoor.K
set_option linter.unusedVariables false
set_option linter.unusedSimpArgs false
namespace Go.Proofs.YtcdoglogglbemaaGreatDoor.K
open Go Go.AM Go.Proofs
set_option maxRecDepth 8000
set_option maxHeartbeats 8000000
def prcF (x : Inst) (r : Rte) : Int × Int := if evalE x r = 0 then wgtF (evalP x r) else (0, evalE x r)
theorem wgtF_rng (s : Sco) : 0 ≤ (wgtF s).1 ∧ (wgtF s).1 ≤ 36028797018963968 := by
 unfold wgtF
 split
 ·simp
 ·split
  ·simp
  ·simp only; omega
theorem prcF_rng (x : Inst) (r : Rte) : 0 ≤ (prcF x r).1 ∧ (prcF x r).1 ≤ 36028797018963968 := by
 unfold prcF
 split
 ·exact wgtF_rng _
 ·simp
theorem rtPrice_c (x : Inst) (r : Rte) (hx : InstOk x) (hb : rteB r) : ACalls Tryz.prog 107 [.p (eInst x), .p (eRte r)] [] fun y H' => y = .tup [.p (.int .i64 (prcF x r).1), .p (.int .i64 (prcF x r).2)] ∧ H' = [] := by
 have ce := evaluate_c x r hx hb.1 hb.2
 refine acalls_weak [] (fn := Tryz.f107) Tryz.func107 rfl isF107 ?_
 simp (disch := omega) only [Tryz.f107, go_sem, seval]
 unfold evalT at ce
 refine useT3 ce ?_
 simp (disch := omega) only [go_sem, seval]
 refine acond_b (fun h1 => ?_) (fun h1 => ?_) <;> (try simp only [decide_eq_true_eq, decide_eq_false_iff_not] at h1) <;> simp (disch := omega) only [Sh.out h1, go_sem, seval]
 ·rw [prcF, if_neg h1]
  exact ⟨_, _, Weak.mk (by simp (disch := omega) only [go_sem, seval]), rfl, rfl⟩
 ·have h0 : evalE x r = 0 := by omega
  rw [prcF, if_pos h0]
  refine useT (pWeight_c (evalP x r) (scoR_mono (by omega) (evalP_rng hx hb.1 h0))) ?_
  simp (disch := omega) only [go_sem, seval]
  exact ⟨_, _, Weak.mk (by simp (disch := omega) only [go_sem, seval]), rfl, rfl⟩
def sumP (x : Inst) (l : List Rte) : Int := l.foldl (fun a r => a + (prcF x r).1) 0
theorem sumP_take {x : Inst} {l : List Rte} {k : Nat} (h : k < l.length) : sumP x (l.take (k + 1)) = sumP x (l.take k) + (prcF x (nth l k)).1 := by
 rw [List.take_succ_eq_append_getElem h, sumP, List.foldl_append, nth_get h]; rfl
theorem sumP_rng {x : Inst} {l : List Rte} : ∀ k, k ≤ l.length → 0 ≤ sumP x (l.take k) ∧ sumP x (l.take k) ≤ k * 36028797018963968
 | 0, _ => by simp [sumP]
 | k + 1, h => by
  have := sumP_rng (x := x) (l := l) k (by omega)
  have := prcF_rng x (nth l k)
  rw [sumP_take (by omega)]
  omega
def totF (x : Inst) (l : List Rte) : Int × Int := match l.find? (fun r => decide ((prcF x r).2 ≠ 0)) with | some r => (0, (prcF x r).2) | none => (sumP x l, 0)
theorem find_at {α : Type} [Inhabited α] {p : α → Bool} : ∀ {l : List α} {k : Nat}, k < l.length → (∀ j, j < k → p (nth l j) = false) → p (nth l k) = true → l.find? p = some (nth l k)
 | [], _, h, _, _ => by simp at h
 | a :: l, 0, _, _, h => List.find?_cons_of_pos (show p a = true from h)
 | a :: l, k + 1, hk, h0, h => by
  rw [List.find?_cons_of_neg (by rw [show p a = false from h0 0 (by omega)]; simp)]
  exact find_at (l := l) (k := k) (by simpa using hk) (fun j hj => h0 (j + 1) (by omega)) h
theorem find_none {α : Type} [Inhabited α] {p : α → Bool} {l : List α} (h : ∀ j, j < l.length → p (nth l j) = false) : l.find? p = none := by
 rw [List.find?_eq_none]
 intro a ha
 obtain ⟨j, hj, rfl⟩ := List.mem_iff_getElem.1 ha
 rw [← nth_get hj, h j hj]; simp
theorem totF_at {x : Inst} {l : List Rte} {k : Nat} (hk : k < l.length) (h0 : ∀ j, j < k → (prcF x (nth l j)).2 = 0) (h : ¬ (prcF x (nth l k)).2 = 0) : totF x l = (0, (prcF x (nth l k)).2) := by
 rw [totF, find_at hk (fun j hj => by simp [h0 j hj]) (by simpa using h)]
theorem totF_no {x : Inst} {l : List Rte} (h0 : ∀ j, j < l.length → (prcF x (nth l j)).2 = 0) : totF x l = (sumP x l, 0) := by
 rw [totF, find_none (fun j hj => by simp [h0 j hj])]
theorem totF_rng {x : Inst} {l : List Rte} (hl : l.length ≤ 100) : 0 ≤ (totF x l).1 ∧ (totF x l).1 ≤ 3602879701896396800 := by
 unfold totF
 split
 ·simp
 ·have := sumP_rng (x := x) (l := l) l.length (Nat.le_refl _)
  rw [List.take_length] at this
  simp only
  omega
theorem total_c (x : Inst) (l : List Rte) (c : Bool) (hx : InstOk x) (hl : l.length ≤ 100) (hb : ∀ r ∈ l, rteB r) : ACalls Tryz.prog 51 [.p (eInst x), .p (.list c (l.map eRte))] [] fun y H' => y = .tup [.p (.int .i64 (totF x l).1), .p (.int .i64 (totF x l).2)] ∧ H' = [] := by
 refine acalls_weak [] (fn := Tryz.f51) Tryz.func51 rfl isF51 ?_
 simp (disch := omega) only [Tryz.f51, go_sem, seval]
 refine awp_for [2, 11, 12] (fun k : Nat => [(6, .p (.int .i64 (sumP x (l.take k)))), (13, .p (.int .i64 k))]) (fun _ => [instO x]) (fun k => k ≤ l.length ∧ ∀ j, j < k → (prcF x (nth l j)).2 = 0) (fun k => l.length - k) 0 (by simp) (Weak.mk ?_) ?_
 ·simp (disch := omega) only [instO, sumP, List.take_zero, List.foldl_nil, go_sem, seval]
 ·rintro k ⟨hk, h0⟩
  have hr := sumP_rng (x := x) k hk
  simp (disch := omega) only [instO, go_sem, seval]
  refine acond_b (fun h1 => ?_) (fun h1 => ?_) <;> (try simp only [decide_eq_true_eq, decide_eq_false_iff_not] at h1) <;> simp (disch := omega) only [Sh.out h1, go_sem, seval]
  ·have hk2 : k < l.length := by omega
   have hp := prcF_rng x (nth l k)
   have hs := sumP_take (x := x) hk2
   refine useT (rtPrice_c x (nth l k) hx (hb _ (nth_mem hk2))) ?_
   simp (disch := omega) only [go_sem, seval]
   refine acond_b (fun h2 => ?_) (fun h2 => ?_) <;> (try simp only [decide_eq_true_eq, decide_eq_false_iff_not] at h2) <;> simp (disch := omega) only [Sh.out h2, go_sem, seval]
   ·rw [totF_at hk2 h0 h2]
    exact ⟨_, _, Weak.mk (by simp (disch := omega) only [go_sem, seval]), rfl, rfl⟩
   ·exact ⟨k + 1, ⟨by omega, upto_iff.2 ⟨h0, by omega⟩⟩, by omega, Weak.mk (by simp (disch := omega) only [instO, hs, go_sem, seval])⟩
  ·have hkl : k = l.length := by omega
   subst hkl
   rw [totF_no h0, List.take_length]
   exact ⟨_, _, Weak.mk (by simp (disch := omega) only [go_sem, seval]), rfl, rfl⟩
noncomputable def savF (x : Inst) (p : Pln) (o : Int) : Int × Int :=
 if askB x p = false ∨ o < 0 ∨ (x.orders.length : Int) ≤ o then (0, 2)
 else if (srvS p.routes).testBit o.toNat = false then (0, 7)
 else if ¬ (totF x p.routes).2 = 0 then (0, (totF x p.routes).2)
 else if ¬ (totF x (leftR (goneF x p (pw o.toNat : Nat)) p.routes)).2 = 0 then (0, (totF x (leftR (goneF x p (pw o.toNat : Nat)) p.routes)).2)
 else ((totF x p.routes).1 - (totF x (leftR (goneF x p (pw o.toNat : Nat)) p.routes)).1, 0)
theorem left_b {g : Nat} {l : List Rte} (hb : ∀ r ∈ l, rteB r) : ∀ r ∈ leftR g l, rteB r := fun r hr => by
 obtain ⟨h3, _⟩ := List.mem_filter.1 hr
 obtain ⟨r0, h4, rfl⟩ := List.mem_map.1 h3
 have := hb r0 h4
 exact ⟨Nat.le_trans (List.length_filter_le _ _) this.1, this.2⟩
theorem savF_rng {x : Inst} {p : Pln} {o : Int} (hl : p.routes.length ≤ 100) : -3602879701896396800 ≤ (savF x p o).1 ∧ (savF x p o).1 ≤ 3602879701896396800 := by
 have h1 := totF_rng (x := x) hl
 have h2 := totF_rng (x := x) (l := leftR (goneF x p (pw o.toNat : Nat)) p.routes) (Nat.le_trans leftR_len hl)
 unfold savF
 split
 ·simp
 ·split
  ·simp
  ·split
   ·simp
   ·split
    ·simp
    ·simp only; omega
theorem one_rmF {x : Inst} {p : Pln} {o : Nat} (ha : askB x p = true) (ho : o < x.orders.length) : rmF x p ((pw o : Nat) : Int) = (rmP p (goneF x p (pw o : Nat)), goneF x p (pw o : Nat), 0) := by
 have h1 : pw o < pw x.orders.length := Nat.pow_lt_pow_right (by omega) ho
 have q1 : (0 : Int) ≤ ((pw o : Nat) : Int) := by omega
 have q2 : ((pw o : Nat) : Int) < ((pw x.orders.length : Nat) : Int) := by omega
 rw [rmF, okSet, ha]
 simp [q1, q2]
theorem saved_c (x : Inst) (p : Pln) (o : Int) (hx : InstOk x) (h : Rm x p) (hl : p.routes.length ≤ 100) (ho : I64 o) :
  ACalls Tryz.prog 16 [.p (eInst x), .p (ePln p), .p (.int .i64 o)] [] fun y H' => y = .tup [.p (.int .i64 (savF x p o).1), .p (.int .i64 (savF x p o).2)] ∧ H' = [] := by
 refine acalls_weak [] (fn := Tryz.f16) Tryz.func16 rfl isF16 ?_
 simp (disch := omega) only [Tryz.f16, go_sem, seval]
 refine useT (rmRight_c x p h.n (by have := h.rl; omega) (by have := h.ul; omega) h.b) ?_
 cases hask : askB x p with
 | false =>
  have e : savF x p o = (0, 2) := by rw [savF, if_pos (.inl hask)]
  rw [e]
  simp (disch := omega) only [go_sem, seval]
  exact ⟨_, _, Weak.mk (by simp (disch := omega) only [go_sem, seval]), rfl, rfl⟩
 | true =>
  have hk : kno x.orders.length p.routes = true := by rw [askB, Bool.and_eq_true] at hask; exact hask.1
  rw [hk, if_pos rfl]
  simp (disch := omega) only [go_sem, seval]
  refine aguard_f (fun h1 => ?_) (fun h1 => ?_) <;> (try simp only [decide_eq_true_eq, decide_eq_false_iff_not] at h1) <;> simp (disch := omega) only [Sh.out h1, go_sem, seval]
  ·have e : savF x p o = (0, 2) := by rw [savF, if_pos (.inr (.inl h1))]
   rw [e]
   exact ⟨_, _, Weak.mk (by simp (disch := omega) only [go_sem, seval]), rfl, rfl⟩
  ·refine acond_b (fun h2 => ?_) (fun h2 => ?_) <;> (try simp only [decide_eq_true_eq, decide_eq_false_iff_not] at h2) <;> simp (disch := omega) only [Sh.out h2, go_sem, seval]
   ·have e : savF x p o = (0, 2) := by rw [savF, if_pos (.inr (.inr h2))]
    rw [e]
    exact ⟨_, _, Weak.mk (by simp (disch := omega) only [go_sem, seval]), rfl, rfl⟩
   ·have hc : ¬ (askB x p = false ∨ o < 0 ∨ (x.orders.length : Int) ≤ o) := by rw [hask]; rintro (h5 | h5 | h5) <;> simp_all
    obtain ⟨n, rfl⟩ : ∃ n : Nat, o = n := ⟨o.toNat, by omega⟩
    have hn := h.n
    refine (has_c (srvS p.routes : Int) (n : Int)).use ?_
    simp (disch := omega) only [go_sem, seval]
    rw [sHas_nat _ _ (by omega)]
    cases hb : (srvS p.routes).testBit n with
    | false =>
     have e : savF x p (n : Int) = (0, 7) := by rw [savF, if_neg hc, if_pos (by rw [Int.toNat_natCast]; exact hb)]
     rw [e]
     simp (disch := omega) only [go_sem, seval]
     exact ⟨_, _, Weak.mk (by simp (disch := omega) only [go_sem, seval]), rfl, rfl⟩
    | true =>
     have hb' : ¬ (srvS p.routes).testBit (n : Int).toNat = false := by rw [Int.toNat_natCast, hb]; simp
     have hp : pw n ≤ pw 60 := pw_le (by omega)
     have h60 : pw 60 = 1152921504606846976 := rfl
     have cr := rmOrders_c x p ((pw n : Nat) : Int) h ⟨by omega, by omega⟩
     rw [one_rmF hask (by omega)] at cr
     dsimp only at cr
     have hgg : goneF x p ((pw (n : Int).toNat : Nat) : Int) = goneF x p ((pw n : Nat) : Int) := by rw [Int.toNat_natCast]
     have sv : savF x p (n : Int) = if ¬ (totF x p.routes).2 = 0 then (0, (totF x p.routes).2) else if ¬ (totF x (leftR (goneF x p ((pw n : Nat) : Int)) p.routes)).2 = 0 then (0, (totF x (leftR (goneF x p ((pw n : Nat) : Int)) p.routes)).2)
       else ((totF x p.routes).1 - (totF x (leftR (goneF x p ((pw n : Nat) : Int)) p.routes)).1, 0) := by rw [savF, if_neg hc, if_neg hb', hgg]
     rw [sv]
     have hrl := leftR_len (g := goneF x p ((pw n : Nat) : Int)) (l := p.routes)
     have hrb := left_b (g := goneF x p ((pw n : Nat) : Int)) h.b
     generalize goneF x p ((pw n : Nat) : Int) = g at *
     have t1 := totF_rng (x := x) hl
     have t2 := totF_rng (x := x) (l := leftR g p.routes) (by omega)
     simp (disch := omega) only [go_sem, seval]
     refine awp_drawnM [9, 10] 12 mixed (by kernel_rfl) (by kernel_rfl) (by kernel_rfl) (by simp) ?_
     simp (disch := omega) only [go_sem, seval]
     refine exq_callT3 cr ?_
     simp (disch := omega) only [go_sem, seval]
     refine lateR_cons _ _ (by simp (disch := omega) only [go_sem, seval]; exact ⟨rfl, rfl⟩) ?_
     simp (disch := omega) only [go_sem, seval]
     refine lateR_cons _ _ (by simp (disch := omega) only [go_sem, seval]; exact ⟨rfl, rfl⟩) ?_
     simp (disch := omega) only [lateR, rmP, go_sem, seval]
     refine useT (total_c x p.routes _ hx hl h.b) ?_
     simp (disch := omega) only [go_sem, seval]
     refine acond_b (fun h5 => ?_) (fun h5 => ?_) <;> (try simp only [decide_eq_true_eq, decide_eq_false_iff_not] at h5) <;> simp (disch := omega) only [Sh.out h5, go_sem, seval]
     ·exact ⟨_, _, Weak.mk (by simp (disch := omega) only [go_sem, seval]), rfl, rfl⟩
     ·refine useT (total_c x (leftR g p.routes) _ hx (by omega) hrb) ?_
      simp (disch := omega) only [go_sem, seval]
      refine acond_b (fun h6 => ?_) (fun h6 => ?_) <;> (try simp only [decide_eq_true_eq, decide_eq_false_iff_not] at h6) <;> simp (disch := omega) only [Sh.out h6, go_sem, seval]
      ·exact ⟨_, _, Weak.mk (by simp (disch := omega) only [if_neg h5, go_sem, seval]), rfl, rfl⟩
      ·exact ⟨_, _, Weak.mk (by simp (disch := omega) only [if_neg h5, go_sem, seval]), rfl, rfl⟩
end Go.Proofs.YtcdoglogglbemaaGreatDoor.K
set_option linter.unusedVariables false
set_option linter.unusedSimpArgs false
namespace Go.Proofs.YtcdoglogglbemaaGreatDoor.K
open Go Go.AM Go.Proofs
set_option maxRecDepth 60000
set_option maxHeartbeats 8000000
def plcO (x : Inst) (i : Nat) : List Int := (visO x.orders i).map fun v => (stopV x v).place
theorem plcO_len (x : Inst) (i : Nat) : (plcO x i).length ≤ 2 := by rw [plcO, List.length_map]; exact visO_len _ _
theorem visO_in {x : Inst} {i : Nat} {v : Vis} (hi : i < x.orders.length) (h : v ∈ visO x.orders i) : inB x v = true ∧ 0 ≤ (stopV x v).place := by
 have ho := visO_order h
 refine ⟨by simp [inB, ho]; omega, ?_⟩
 unfold visO at h
 rcases List.mem_append.1 h with h | h
 ·split at h
  ·simp at h; subst h; simpa [stopV] using by assumption
  ·simp at h
 ·split at h
  ·simp at h; subst h; simpa [stopV] using by assumption
  ·simp at h
theorem rmPlaces_c (x : Inst) (i : Nat) (hi : i < x.orders.length) (ho : x.orders.length ≤ 1048576) :
  ACalls Tryz.prog 166 [.p (eInst x), .p (.int .i64 (i : Int))] [] fun y H' => y = .sl 0 0 (plcO x i).length (plcO x i).length ∧ H' = [.elems 1 ((plcO x i).map eI)] := by
 refine acalls_fresh (fn := Tryz.f166) (by simp) Tryz.func166 rfl isF166 ?_
 simp (disch := omega) only [Tryz.f166, go_sem, seval]
 have hvl := visO_len x.orders i
 have hv := fun v (h : v ∈ visO x.orders i) => visO_in hi h
 refine (visits_c x.orders x.orders_c i hi ho).use ?_
 simp (disch := omega) only [go_sem, seval]
 obtain ⟨V, hV⟩ : ∃ V, V = visO x.orders i := ⟨_, rfl⟩
 have hP : plcO x i = V.map fun v => (stopV x v).place := by rw [hV]; rfl
 rw [hP]
 rw [← hV] at hvl hv ⊢
 refine awp_for [2, 13, 14] (fun k : Nat => [(5, .sl 1 0 k k), (15, .p (.int .i64 k))]) (fun k => [instO x, .elems 1 (((V.take k).map fun v => (stopV x v).place).map eI)]) (fun k => k ≤ V.length) (fun k => V.length - k) 0 (by simp) (Weak.ofNil 5 1 (by simp (disch := omega) only [go_sem, seval]) (by simp) (Weak.mk ?_)) ?_
 ·simp (disch := omega) only [instO, List.take_zero, List.map_nil, go_sem, seval]
 ·intro k hk
  simp (disch := omega) only [instO, go_sem, seval]
  refine acond_b (fun h1 => ?_) (fun h1 => ?_) <;> (try simp only [decide_eq_true_eq, decide_eq_false_iff_not] at h1) <;> simp (disch := omega) only [Sh.out h1, go_sem, seval]
  ·have hk2 : k < V.length := by omega
   have hvk := hv _ (nth_mem hk2)
   refine useT (pStop_c x (nth V k) ho hvk.1 hvk.2) ?_
   simp (disch := omega) only [go_sem, seval]
   rw [if_pos ⟨by rw [List.length_take]; omega, by omega, by omega⟩]
   simp (disch := omega) only [go_sem, seval]
   have ht : (V.take (k + 1)).map (fun v => (stopV x v).place) = (V.take k).map (fun v => (stopV x v).place) ++ [(stopV x (nth V k)).place] := by
    rw [List.take_succ_eq_append_getElem hk2, List.map_append, nth_get hk2]; rfl
   exact ⟨k + 1, by omega, by omega, Weak.mk (by simp (disch := omega) only [instO, ht, List.map_append, List.map_cons, List.map_nil, go_sem, seval])⟩
  ·have hkl : k = V.length := by omega
   subst hkl
   rw [List.take_length]
   exact ⟨1, by simp (disch := omega) only [go_sem, seval]⟩
def arcB (P Q : List Int) (a : Arc) : Bool := (P.any (fun w => decide (a.src = w)) && Q.any fun w => decide (a.dst = w)) || (Q.any (fun w => decide (a.src = w)) && P.any fun w => decide (a.dst = w))
def leastA (P Q : List Int) (l : List Arc) : Int := l.foldl (fun m a => if arcB P Q a = true then min m a.miles else m) 10001
theorem leastA_take {P Q : List Int} {l : List Arc} {k : Nat} (h : k < l.length) : leastA P Q (l.take (k + 1)) = if arcB P Q (nth l k) = true then min (leastA P Q (l.take k)) (nth l k).miles else leastA P Q (l.take k) := by
 rw [List.take_succ_eq_append_getElem h, leastA, List.foldl_append, nth_get h]; rfl
def dstF (x : Inst) (i j : Nat) : Int := if (plcO x i).any (fun a => (plcO x j).any fun b => decide (a = b)) = true then 0 else leastA (plcO x i) (plcO x j) x.net.arcs
theorem distance1_c (x : Inst) (Q : List Int) (a : Int) (hQ : Q.length ≤ 1048576) : ACalls Tryz.prog 167 [.p (eI a), .ptr 1 0] [instO x, .cells [.p (.list false (Q.map eI))]] fun y H' => y = .p (.bool (Q.any fun b => decide (a = b))) ∧ H' = [instO x, .cells [.p (.list false (Q.map eI))]] := by
 refine acalls_weak [] (fn := Tryz.f167) Tryz.func167 rfl isF167 ?_
 simp (disch := omega) only [Tryz.f167, instO, go_sem, seval]
 refine (contains1_c Q false a hQ).use ?_
 simp (disch := omega) only [go_sem, seval]
 exact ⟨_, _, Weak.mk (by simp (disch := omega) only [instO, go_sem, seval]), rfl, rfl⟩
theorem distance_c (x : Inst) (i j : Nat) (hi : i < x.orders.length) (hj : j < x.orders.length) (ho : x.orders.length ≤ 1048576) (ha : x.net.arcs.length ≤ 1048576) :
  ACalls Tryz.prog 114 [.p (eInst x), .p (.int .i64 (i : Int)), .p (.int .i64 (j : Int))] [] fun y H' => y = .p (.int .i64 (dstF x i j)) ∧ H' = [] := by
 have hPl := plcO_len x i
 have hQl := plcO_len x j
 refine acalls_weak [] (fn := Tryz.f114) Tryz.func114 rfl isF114 ?_
 simp (disch := omega) only [Tryz.f114, go_sem, seval]
 refine awp_drawnM [6] 7 mixed (by kernel_rfl) (by kernel_rfl) (by kernel_rfl) (by simp) ?_
 simp (disch := omega) only [go_sem, seval]
 refine exq_call ((rmPlaces_c x i hi ho).frozen (by simp)) ?_
 simp (disch := omega) only [go_sem, seval]
 refine exq_call ((rmPlaces_c x j hj ho).frozen (by simp)) ?_
 simp (disch := omega) only [go_sem, seval]
 refine lateR_cons _ _ (by simp (disch := omega) only [go_sem, seval]; exact ⟨rfl, rfl⟩) ?_
 unfold dstF
 generalize plcO x i = P at *
 generalize plcO x j = Q at *
 simp (disch := omega) only [lateR, go_sem, seval]
 refine (containsFuncI_c P false 167 [.ptr 1 0] [instO x, .cells [.p (.list false (Q.map eI))]] (fun a => Q.any fun b => decide (a = b)) (by omega) (by simp (disch := omega) only [instO, go_sem, seval]) (by simp (disch := omega) only [go_sem, seval]) fun a _ => distance1_c x Q a (by omega)).useH ?_
 simp (disch := omega) only [instO, go_sem, seval]
 refine acond_b (fun h1 => ?_) (fun h1 => ?_) <;> (try simp only [decide_eq_true_eq, decide_eq_false_iff_not] at h1) <;> simp (disch := omega) only [Sh.out h1, go_sem, seval]
 ·exact ⟨_, _, Weak.mk (by simp (disch := omega) only [go_sem, seval]), rfl, rfl⟩
 ·refine awp_for [7, 8, 25, 26] (fun k : Nat => [(9, .p (.int .i64 (leastA P Q (x.net.arcs.take k)))), (27, .p (.int .i64 k))]) (fun _ => [instO x, .cells [.p (.list false (Q.map eI))]]) (fun k => k ≤ x.net.arcs.length) (fun k => x.net.arcs.length - k) 0 (by simp) (Weak.mk ?_) ?_
  ·simp (disch := omega) only [instO, leastA, List.take_zero, List.foldl_nil, go_sem, seval]
  ·intro k hk
   simp (disch := omega) only [instO, go_sem, seval]
   refine acond_b (fun h2 => ?_) (fun h2 => ?_) <;> (try simp only [decide_eq_true_eq, decide_eq_false_iff_not] at h2) <;> simp (disch := omega) only [Sh.out h2, go_sem, seval]
   ·have hk2 : k < x.net.arcs.length := by omega
    have hs := leastA_take (P := P) (Q := Q) hk2
    have c1 := contains1_c P false (nth x.net.arcs k).src (by omega)
    have c2 := contains1_c Q false (nth x.net.arcs k).dst (by omega)
    have c3 := contains1_c Q false (nth x.net.arcs k).src (by omega)
    have c4 := contains1_c P false (nth x.net.arcs k).dst (by omega)
    rw [arcB] at hs
    generalize P.any (fun w => decide ((nth x.net.arcs k).src = w)) = b1 at *
    generalize Q.any (fun w => decide ((nth x.net.arcs k).dst = w)) = b2 at *
    generalize Q.any (fun w => decide ((nth x.net.arcs k).src = w)) = b3 at *
    generalize P.any (fun w => decide ((nth x.net.arcs k).dst = w)) = b4 at *
    have hmin : amax true [.p (.int .i64 (leastA P Q (x.net.arcs.take k))), .p (.int .i64 (nth x.net.arcs k).miles)] = some (.int .i64 (min (leastA P Q (x.net.arcs.take k)) (nth x.net.arcs k).miles)) := by
     by_cases h : leastA P Q (x.net.arcs.take k) ≤ (nth x.net.arcs k).miles
     ·rw [amin_le h, Int.min_eq_left h]
     ·rw [amin_gt (by omega), Int.min_eq_right (by omega)]
    refine (c1).use ?_
    simp (disch := omega) only [go_sem, seval]
    cases b1 with
    | true =>
     simp (disch := omega) only [go_sem, seval]
     refine (c2).use ?_
     simp (disch := omega) only [go_sem, seval]
     refine (c3).use ?_
     simp (disch := omega) only [go_sem, seval]
     cases b3 with
     | true =>
      simp (disch := omega) only [go_sem, seval]
      refine (c4).use ?_
      simp (disch := omega) only [go_sem, seval]
      cases b2 with
      | true =>
       simp (disch := omega) only [hmin, go_sem, seval]
       simp only [Bool.true_and, Bool.false_and, Bool.or_true, Bool.true_or, Bool.or_false, Bool.false_or, if_true, Bool.false_eq_true, if_false] at hs
       exact ⟨k + 1, by omega, by omega, Weak.mk (by simp (disch := omega) only [instO, hs, go_sem, seval])⟩
      | false =>
       simp (disch := omega) only [go_sem, seval]
       cases b4 with
       | true =>
        simp (disch := omega) only [hmin, go_sem, seval]
        simp only [Bool.true_and, Bool.false_and, Bool.or_true, Bool.true_or, Bool.or_false, Bool.false_or, if_true, Bool.false_eq_true, if_false] at hs
        exact ⟨k + 1, by omega, by omega, Weak.mk (by simp (disch := omega) only [instO, hs, go_sem, seval])⟩
       | false =>
        simp (disch := omega) only [hmin, go_sem, seval]
        simp only [Bool.true_and, Bool.false_and, Bool.or_true, Bool.true_or, Bool.or_false, Bool.false_or, if_true, Bool.false_eq_true, if_false] at hs
        exact ⟨k + 1, by omega, by omega, Weak.mk (by simp (disch := omega) only [instO, hs, go_sem, seval])⟩
     | false =>
      simp (disch := omega) only [go_sem, seval]
      cases b2 with
      | true =>
       simp (disch := omega) only [hmin, go_sem, seval]
       simp only [Bool.true_and, Bool.false_and, Bool.or_true, Bool.true_or, Bool.or_false, Bool.false_or, if_true, Bool.false_eq_true, if_false] at hs
       exact ⟨k + 1, by omega, by omega, Weak.mk (by simp (disch := omega) only [instO, hs, go_sem, seval])⟩
      | false =>
       simp (disch := omega) only [hmin, go_sem, seval]
       simp only [Bool.true_and, Bool.false_and, Bool.or_true, Bool.true_or, Bool.or_false, Bool.false_or, if_true, Bool.false_eq_true, if_false] at hs
       exact ⟨k + 1, by omega, by omega, Weak.mk (by simp (disch := omega) only [instO, hs, go_sem, seval])⟩
    | false =>
     simp (disch := omega) only [go_sem, seval]
     refine (c3).use ?_
     simp (disch := omega) only [go_sem, seval]
     cases b3 with
     | true =>
      simp (disch := omega) only [go_sem, seval]
      refine (c4).use ?_
      simp (disch := omega) only [go_sem, seval]
      cases b4 with
      | true =>
       simp (disch := omega) only [hmin, go_sem, seval]
       simp only [Bool.true_and, Bool.false_and, Bool.or_true, Bool.true_or, Bool.or_false, Bool.false_or, if_true, Bool.false_eq_true, if_false] at hs
       exact ⟨k + 1, by omega, by omega, Weak.mk (by simp (disch := omega) only [instO, hs, go_sem, seval])⟩
      | false =>
       simp (disch := omega) only [hmin, go_sem, seval]
       simp only [Bool.true_and, Bool.false_and, Bool.or_true, Bool.true_or, Bool.or_false, Bool.false_or, if_true, Bool.false_eq_true, if_false] at hs
       exact ⟨k + 1, by omega, by omega, Weak.mk (by simp (disch := omega) only [instO, hs, go_sem, seval])⟩
     | false =>
      simp (disch := omega) only [go_sem, seval]
      simp only [Bool.true_and, Bool.false_and, Bool.or_true, Bool.true_or, Bool.or_false, Bool.false_or, if_true, Bool.false_eq_true, if_false] at hs
      exact ⟨k + 1, by omega, by omega, Weak.mk (by simp (disch := omega) only [instO, hs, go_sem, seval])⟩
   ·have hkl : k = x.net.arcs.length := by omega
    subst hkl
    rw [List.take_length]
    exact ⟨_, _, Weak.mk (by simp (disch := omega) only [h1, Bool.false_eq_true, if_false, go_sem, seval]), rfl, rfl⟩
end Go.Proofs.YtcdoglogglbemaaGreatDoor.K
set_option linter.unusedVariables false
set_option linter.unusedSimpArgs false
namespace Go.Proofs.YtcdoglogglbemaaGreatDoor.K
open Go Go.AM Go.Proofs
set_option maxRecDepth 60000
set_option maxHeartbeats 8000000
theorem or_add {S i : Nat} (h : S.testBit i = false) : S ||| pw i = S + pw i := Nat.eq_of_testBit_eq fun j => by rw [add_pw h, Nat.testBit_or, testBit_pw]
theorem or_self {S i : Nat} (h : S.testBit i = true) : S ||| pw i = S := Nat.eq_of_testBit_eq fun j => by
 rw [Nat.testBit_or, testBit_pw]
 by_cases c : i = j
 ·subst c; simp [h]
 ·simp [c]
theorem has42_c (S i : Nat) (hS : S < 9223372036854775808) (hi : i ≤ 62) : ACalls Tryz.prog 49 [.p (.int .i64 (S : Int)), .p (.int .i64 (i : Int))] [] fun y H' => y = .p (.bool (S.testBit i)) ∧ H' = [] := by
 have q0 : (0 : Int) ≤ (S : Int) := by omega
 have q1 : (0 : Int) ≤ (i : Int) := by omega
 have q2 : (i : Int) ≤ 62 := by omega
 refine acalls_pure (fn := Tryz.f49) Tryz.func49 rfl isF49 ?_
 simp (disch := omega) only [Tryz.f49, q0, q1, q2, go_sem, seval]
 have e2 : S.testBit i = decide (S / pw i % 2 = 1) := hv_bit S i
 rw [Int.tmod_eq_emod_of_nonneg (Int.natCast_nonneg _), e2]
 congr 2
 rw [decide_eq_decide]
 omega
theorem has42n_c (s i : Int) (hs : s < 0) : ACalls Tryz.prog 49 [.p (.int .i64 s), .p (.int .i64 i)] [] fun y H' => y = .p (.bool false) ∧ H' = [] := by
 have q0 : ¬ 0 ≤ s := by omega
 refine acalls_pure (fn := Tryz.f49) Tryz.func49 rfl isF49 ?_
 simp (disch := omega) only [Tryz.f49, q0, go_sem, seval]
theorem with42_c (S i : Nat) (hS : S < 2305843009213693952) (hi : i ≤ 60) : ACalls Tryz.prog 50 [.p (.int .i64 (S : Int)), .p (.int .i64 (i : Int))] [] fun y H' => y = .p (.int .i64 ((S ||| pw i : Nat) : Int)) ∧ H' = [] := by
 have hp : pw i ≤ pw 60 := pw_le hi
 have e60 : pw 60 = 1152921504606846976 := rfl
 refine acalls_pure (fn := Tryz.f50) Tryz.func50 rfl isF50 ?_
 simp (disch := omega) only [Tryz.f50, go_sem, seval]
 refine (has42_c S i (by omega) (by omega)).use ?_
 simp (disch := omega) only [go_sem, seval]
 cases h : S.testBit i with
 | true =>
  simp (disch := omega) only [go_sem, seval]
  rw [or_self h]
 | false =>
  simp (disch := omega) only [go_sem, seval]
  rw [or_add h, Int.natCast_add]
theorem known42_c (x : Inst) (p : Pln) (b : Bool) (hn : x.orders.length ≤ 60) (hr : p.routes.length ≤ 1048576) (hu : p.unserved.length ≤ 1048576) (hb : ∀ r ∈ p.routes, rteB r) :
  ACalls Tryz.prog 47 [.p (eInst x), .p (ePln p), .p (.bool b)] [] fun y H' => y = .p (.bool (kno x.orders.length p.routes && (!b || unsI x.orders.length p.unserved))) ∧ H' = [] := by
 refine acalls_pure (fn := Tryz.f47) Tryz.func47 rfl isF47 ?_
 simp (disch := omega) only [Tryz.f47, go_sem, seval]
 refine awp_for [2, 3, 4] (fun i : Nat => [(7, .p (.int .i64 (i : Int)))]) (fun _ => [instO x, plnO p]) (fun i => i ≤ p.routes.length ∧ ∀ j, j < i → knoR x.orders.length (nth p.routes j) = true) (fun i => p.routes.length - i) 0 (by simp) (Weak.mk ?_) ?_
 ·simp (disch := omega) only [instO, plnO, go_sem, seval]
 ·rintro i ⟨hi, hno⟩
  simp (disch := omega) only [instO, plnO, go_sem, seval]
  refine acond_b (fun h1 => ?_) (fun h1 => ?_) <;> (try simp only [decide_eq_true_eq, decide_eq_false_iff_not] at h1) <;> simp (disch := omega) only [Sh.out h1, go_sem, seval]
  ·have hi2 : i < p.routes.length := by omega
   have hbi := hb _ (nth_mem hi2)
   have hbad : knoR x.orders.length (nth p.routes i) = false → kno x.orders.length p.routes = false := fun h4 => by
    rw [kno, List.all_eq_false]; exact ⟨nth p.routes i, nth_mem hi2, by rw [h4]; simp⟩
   have hvl := hbi.1
   refine awp_for [2, 3, 4, 7] (fun k : Nat => [(8, .p (.int .i64 (k : Int)))]) (fun _ => [instO x, plnO p]) (fun k => k ≤ (nth p.routes i).visits.length ∧ ∀ j, j < k → knoV x.orders.length (nth (nth p.routes i).visits j) = true) (fun k => (nth p.routes i).visits.length - k) 0 (by simp) (Weak.mk ?_) ?_
   ·simp (disch := omega) only [instO, plnO, go_sem, seval]
   ·rintro k ⟨hk, hnk⟩
    simp (disch := omega) only [instO, plnO, go_sem, seval]
    refine acond_b (fun h2 => ?_) (fun h2 => ?_) <;> (try simp only [decide_eq_true_eq, decide_eq_false_iff_not] at h2) <;> simp (disch := omega) only [Sh.out h2, go_sem, seval]
    ·have hk2 : k < (nth p.routes i).visits.length := by omega
     have hbk : knoV x.orders.length (nth (nth p.routes i).visits k) = false → kno x.orders.length p.routes = false := fun h4 => hbad (by
      rw [knoR, List.all_eq_false]; exact ⟨_, nth_mem hk2, by rw [h4]; simp⟩)
     refine aguard_f (fun h3 => ?_) (fun h3 => ?_) <;> (try simp only [decide_eq_true_eq, decide_eq_false_iff_not] at h3) <;> simp (disch := omega) only [Sh.out h3, go_sem, seval]
     ·rw [hbk (by simp [knoV]; omega)]
      rfl
     ·refine aguard_f (fun h4 => ?_) (fun h4 => ?_) <;> (try simp only [decide_eq_true_eq, decide_eq_false_iff_not] at h4) <;> simp (disch := omega) only [Sh.out h4, go_sem, seval]
      ·rw [hbk (by simp [knoV]; omega)]
       rfl
      ·refine acond_b (fun h5 => ?_) (fun h5 => ?_) <;> (try simp only [decide_eq_true_eq, decide_eq_false_iff_not] at h5) <;> simp (disch := omega) only [Sh.out h5, go_sem, seval]
       ·omega
       ·exact ⟨k + 1, ⟨by omega, upto_iff.2 ⟨hnk, by simp [knoV]; omega⟩⟩, by omega, Weak.mk (by simp (disch := omega) only [instO, plnO, go_sem, seval])⟩
    ·have hkl : k = (nth p.routes i).visits.length := by omega
     subst hkl
     refine ⟨i + 1, ⟨by omega, upto_iff.2 ⟨hno, ?_⟩⟩, by omega, Weak.mk (by simp (disch := omega) only [instO, plnO, go_sem, seval])⟩
     rw [knoR, List.all_eq_true]
     intro v hv
     obtain ⟨j, hj, rfl⟩ := List.mem_iff_getElem.1 hv
     rw [← nth_get hj]; exact hnk j hj
  ·have hil : i = p.routes.length := by omega
   subst hil
   have hk : kno x.orders.length p.routes = true := by
    rw [kno, List.all_eq_true]
    intro r hr
    obtain ⟨j, hj, rfl⟩ := List.mem_iff_getElem.1 hr
    rw [← nth_get hj]; exact hno j hj
   rw [hk, Bool.true_and]
   refine awp_for [2, 3, 4] (fun i : Nat => [(10, .p (.int .i64 (i : Int)))]) (fun _ => [instO x, plnO p]) (fun i => i ≤ p.unserved.length ∧ ∀ j, j < i → strB x.orders.length (nth p.unserved j) = false) (fun i => p.unserved.length - i) 0 (by simp) (Weak.mk ?_) ?_
   ·simp (disch := omega) only [instO, plnO, go_sem, seval]
   ·rintro i ⟨hi, hno⟩
    simp (disch := omega) only [instO, plnO, go_sem, seval]
    refine aguard_t (fun h2 => ?_) (fun h2 => ?_) <;> (try simp only [decide_eq_true_eq, decide_eq_false_iff_not] at h2) <;> simp (disch := omega) only [Sh.out h2, go_sem, seval]
    ·have hi2 : i < p.unserved.length := by omega
     cases b with
     | false =>
      simp (disch := omega) only [go_sem, seval]
     | true =>
      simp (disch := omega) only [go_sem, seval]
      refine awp_drawnA mixed (by kernel_rfl) (by kernel_rfl) ?_
      simp (disch := omega) only [go_sem, seval]
      refine aguard_f (fun h3 => ?_) (fun h3 => ?_) <;> (try simp only [decide_eq_true_eq, decide_eq_false_iff_not] at h3) <;> simp (disch := omega) only [Sh.out h3, go_sem, seval]
      ·have : unsI x.orders.length p.unserved = false := by rw [unsI, List.all_eq_false]; exact ⟨_, nth_mem hi2, by simp; omega⟩
       rw [this]
      ·refine acond_b (fun h4 => ?_) (fun h4 => ?_) <;> (try simp only [decide_eq_true_eq, decide_eq_false_iff_not] at h4) <;> simp (disch := omega) only [Sh.out h4, go_sem, seval]
       ·have : unsI x.orders.length p.unserved = false := by rw [unsI, List.all_eq_false]; exact ⟨_, nth_mem hi2, by simp; omega⟩
        rw [this]
       ·exact ⟨i + 1, ⟨by omega, upto_iff.2 ⟨hno, by simp [strB]; omega⟩⟩, by omega, Weak.mk (by simp (disch := omega) only [instO, plnO, go_sem, seval])⟩
    ·have hil : i = p.unserved.length := by omega
     subst hil
     have : unsI x.orders.length p.unserved = true := by
      rw [unsI, List.all_eq_true]
      intro u hu
      obtain ⟨j, hj, rfl⟩ := List.mem_iff_getElem.1 hu
      have := hno j hj
      rw [← nth_get hj]
      simp only [strB, Bool.not_eq_false'] at this
      exact this
     rw [this]
     cases b <;> rfl
theorem ordS_take {l : List Vis} {k : Nat} (h : k < l.length) : ordS (l.take (k + 1)) = ordS (l.take k) ||| pw (nth l k).order.toNat := ordS_succ h
theorem served42_c (n : Nat) (l : List Rte) (c : Bool) (hn : n ≤ 60) (hk : kno n l = true) (hr : l.length ≤ 1048576) (hb : ∀ r ∈ l, rteB r) :
  ACalls Tryz.prog 52 [.p (.list c (l.map eRte))] [] fun y H' => y = .p (.int .i64 (srvS l : Nat)) ∧ H' = [] := by
 have h60 : pw n ≤ pw 60 := pw_le hn
 have e60 : pw 60 = 1152921504606846976 := rfl
 have hki := kno_iff.1 hk
 refine acalls_pure (fn := Tryz.f52) Tryz.func52 rfl isF52 ?_
 simp (disch := omega) only [Tryz.f52, go_sem, seval]
 refine awp_for [0] (fun i : Nat => [(3, .p (.int .i64 (srvS (l.take i) : Nat))), (4, .p (.int .i64 (i : Int)))]) (fun _ => []) (fun i => i ≤ l.length) (fun i => l.length - i) 0 (by simp) (Weak.mk ?_) ?_
 ·simp (disch := omega) only [srvS, List.take_zero, List.foldl_nil, go_sem, seval]
 ·intro i hi
  have hls : srvS (l.take i) < pw n := srvS_lt (kno_iff.2 fun r hr => hki r (List.mem_of_mem_take hr))
  simp (disch := omega) only [go_sem, seval]
  refine acond_b (fun h1 => ?_) (fun h1 => ?_) <;> (try simp only [decide_eq_true_eq, decide_eq_false_iff_not] at h1) <;> simp (disch := omega) only [Sh.out h1, go_sem, seval]
  ·have hi2 : i < l.length := by omega
   have hbi := hb _ (nth_mem hi2)
   have hvl := hbi.1
   have hvi := hki _ (nth_mem hi2)
   have hs := srvS_take hi2
   generalize srvS (l.take i) = S at *
   have hlo : ∀ k, S ||| ordS ((nth l i).visits.take k) < pw n := fun k => Nat.or_lt_two_pow hls (by
    rw [ordS_set]
    refine setL_lt fun o ho => ?_
    obtain ⟨v, hv, rfl⟩ := List.mem_map.1 ho
    have := hvi v (List.mem_of_mem_take hv)
    omega)
   refine awp_for [0, 4] (fun k : Nat => [(3, .p (.int .i64 (S ||| ordS ((nth l i).visits.take k) : Nat))), (5, .p (.int .i64 (k : Int)))]) (fun _ => []) (fun k => k ≤ (nth l i).visits.length) (fun k => (nth l i).visits.length - k) 0 (by simp) (Weak.mk ?_) ?_
   ·simp (disch := omega) only [ordS, List.take_zero, List.foldl_nil, Nat.or_zero, go_sem, seval]
   ·intro k hk
    have hlk := hlo k
    simp (disch := omega) only [go_sem, seval]
    refine acond_b (fun h2 => ?_) (fun h2 => ?_) <;> (try simp only [decide_eq_true_eq, decide_eq_false_iff_not] at h2) <;> simp (disch := omega) only [Sh.out h2, go_sem, seval]
    ·have hk2 : k < (nth l i).visits.length := by omega
     have hv := hvi _ (nth_mem hk2)
     have ht := ordS_take hk2
     obtain ⟨o, ho⟩ : ∃ o : Nat, (nth (nth l i).visits k).order = o := ⟨_, (Int.toNat_of_nonneg hv.1).symm⟩
     rw [ho] at hv ht
     rw [Int.toNat_natCast] at ht
     rw [ho]
     refine (with42_c (S ||| ordS ((nth l i).visits.take k)) o (by omega) (by omega)).use ?_
     simp (disch := omega) only [go_sem, seval]
     exact ⟨k + 1, by omega, by omega, Weak.mk (by simp (disch := omega) only [ht, Nat.or_assoc, go_sem, seval])⟩
    ·have hkl : k = (nth l i).visits.length := by omega
     subst hkl
     rw [List.take_length]
     exact ⟨i + 1, by omega, by omega, Weak.mk (by simp (disch := omega) only [hs, go_sem, seval])⟩
  ·have hil : i = l.length := by omega
   subst hil
   rw [List.take_length]
end Go.Proofs.YtcdoglogglbemaaGreatDoor.K
set_option linter.unusedVariables false
set_option linter.unusedSimpArgs false
namespace Go.Proofs.YtcdoglogglbemaaGreatDoor.K
open Go Go.AM Go.Proofs
set_option maxRecDepth 60000
set_option maxHeartbeats 8000000
theorem exists42_c (x : Inst) (s : Int) (hn : x.orders.length ≤ 60) (hs : I64 s) : ACalls Tryz.prog 46 [.p (eInst x), .p (.int .i64 s)] [] fun y H' => y = .p (.bool (okSet x.orders.length s)) ∧ H' = [] := by
 refine acalls_pure (fn := Tryz.f46) Tryz.func46 rfl isF46 ?_
 simp (disch := omega) only [Tryz.f46, go_sem, seval]
 by_cases h0 : s < 0
 ·have e : okSet x.orders.length s = decide (0 ≤ s) := by
   have : ¬ 0 ≤ s := by omega
   simp [okSet, this]
  rw [e]
  refine awp_for [1, 2] (fun k : Nat => [(5, .p (.int .i64 (k : Int)))]) (fun _ => [instO x]) (fun k => k ≤ 63) (fun k => 63 - k) 0 (by simp) (Weak.mk ?_) ?_
  ·simp (disch := omega) only [instO, go_sem, seval]
  ·intro k hk
   simp (disch := omega) only [instO, go_sem, seval]
   refine acond_b (fun h1 => ?_) (fun h1 => ?_) <;> (try simp only [decide_eq_true_eq, decide_eq_false_iff_not] at h1) <;> simp (disch := omega) only [Sh.out h1, go_sem, seval]
   ·refine (has42n_c s (k : Int) h0).use ?_
    simp (disch := omega) only [go_sem, seval]
    exact ⟨k + 1, by omega, by omega, Weak.mk (by simp (disch := omega) only [instO, go_sem, seval])⟩
 ·obtain ⟨S, rfl⟩ : ∃ S : Nat, s = S := ⟨s.toNat, by omega⟩
  have hS : S < 9223372036854775808 := by have := hs.2; omega
  have hlt : S < pw x.orders.length ↔ ∀ j, j < 63 → S.testBit j = true → j < x.orders.length := by
   constructor
   ·intro h j _ hj; exact bit_pw h hj
   ·intro h
    exact lt_pw fun j hj => h j (by
     rcases Nat.lt_or_ge j 63 with h1 | h1
     ·exact h1
     ·have : S < 2 ^ j := Nat.lt_of_lt_of_le hS (Nat.le_trans (by decide : 9223372036854775808 ≤ 2 ^ 63) (Nat.pow_le_pow_right (by omega) h1))
      rw [Nat.testBit_lt_two_pow this] at hj; cases hj) hj
  refine awp_for [1, 2] (fun k : Nat => [(5, .p (.int .i64 (k : Int)))]) (fun _ => [instO x]) (fun k => k ≤ 63 ∧ ∀ j, j < k → S.testBit j = true → j < x.orders.length) (fun k => 63 - k) 0 (by simp) (Weak.mk ?_) ?_
  ·simp (disch := omega) only [instO, go_sem, seval]
  ·rintro k ⟨hk, hno⟩
   simp (disch := omega) only [instO, go_sem, seval]
   refine acond_b (fun h1 => ?_) (fun h1 => ?_) <;> (try simp only [decide_eq_true_eq, decide_eq_false_iff_not] at h1) <;> simp (disch := omega) only [Sh.out h1, go_sem, seval]
   ·refine (has42_c S k hS (by omega)).use ?_
    simp (disch := omega) only [go_sem, seval]
    cases hb : S.testBit k with
    | true =>
     simp (disch := omega) only [go_sem, seval]
     refine acond_b (fun h2 => ?_) (fun h2 => ?_) <;> (try simp only [decide_eq_true_eq, decide_eq_false_iff_not] at h2) <;> simp (disch := omega) only [Sh.out h2, go_sem, seval]
     ·have : okSet x.orders.length (S : Int) = false := by
       have h5 : ¬ S < pw x.orders.length := fun h => by have := hlt.1 h k (by omega) hb; omega
       have : ¬ (S : Int) < ((pw x.orders.length : Nat) : Int) := by omega
       simp [okSet, this]
      rw [this]
     ·exact ⟨k + 1, ⟨by omega, fun j h3 h4 => by
       rcases Nat.eq_or_lt_of_le (show j ≤ k by omega) with e | e
       ·omega
       ·exact hno j e h4⟩, by omega, Weak.mk (by simp (disch := omega) only [instO, go_sem, seval])⟩
    | false =>
     simp (disch := omega) only [go_sem, seval]
     exact ⟨k + 1, ⟨by omega, fun j h3 h4 => by
      rcases Nat.eq_or_lt_of_le (show j ≤ k by omega) with e | e
      ·subst e; rw [hb] at h4; cases h4
      ·exact hno j e h4⟩, by omega, Weak.mk (by simp (disch := omega) only [instO, go_sem, seval])⟩
   ·have hk63 : k = 63 := by omega
    subst hk63
    have h5 := hlt.2 hno
    have e : okSet x.orders.length (S : Int) = true := by
     have q1 : (0 : Int) ≤ (S : Int) := by omega
     have q2 : (S : Int) < ((pw x.orders.length : Nat) : Int) := by omega
     simp [okSet, q1, q2]
    have q1 : (0 : Int) ≤ (S : Int) := by omega
    rw [e]
    simp [q1]
def hitB (N S on k : Nat) : Bool := (List.range k).any fun j => N.testBit j && S.testBit j && on.testBit j
theorem lvS_any {n : Nat} {be : List (Int × Int)} {on S i : Nat} (ha : on < pw n) : lvB n be on S i = (on.testBit i && hitB (needsOf n be (i : Int)) S on n) := by
 rw [lvB, hitB]
 congr 1
 rw [Bool.eq_iff_iff, decide_eq_true_eq, List.any_eq_true]
 constructor
 ·intro h
  obtain ⟨j, hj⟩ := Nat.exists_testBit_of_ne_zero h
  rw [Nat.testBit_and, Nat.testBit_and] at hj
  have h2 : on.testBit j = true := by rw [Bool.and_eq_true] at hj; exact hj.2
  exact ⟨j, List.mem_range.2 (bit_pw ha h2), hj⟩
 ·rintro ⟨j, _, hj⟩ h
  have : ((needsOf n be (i : Int)) &&& S &&& on).testBit j = true := by rw [Nat.testBit_and, Nat.testBit_and]; exact hj
  rw [h] at this; simp at this
theorem leaving42_c (x : Inst) (p : Pln) (S : Nat) (hn : x.orders.length ≤ 60) (hl : x.before.length ≤ 1048576) (hv : Val x.orders.length x.before) (hk : kno x.orders.length p.routes = true) (hr : p.routes.length ≤ 1048576) (hb : ∀ r ∈ p.routes, rteB r) (hS : S < 9223372036854775808) :
  ACalls Tryz.prog 48 [.p (eInst x), .p (ePln p), .p (.int .i64 (S : Int))] [] fun y H' => y = .p (.int .i64 (lvS x.orders.length x.before (srvS p.routes) S : Nat)) ∧ H' = [] := by
 have h60 : pw x.orders.length ≤ pw 60 := pw_le hn
 have e60 : pw 60 = 1152921504606846976 := rfl
 have hon := srvS_lt hk
 refine acalls_pure (fn := Tryz.f48) Tryz.func48 rfl isF48 ?_
 simp (disch := omega) only [Tryz.f48, go_sem, seval]
 refine (served42_c x.orders.length p.routes p.routes_c hn hk hr hb).use ?_
 simp (disch := omega) only [go_sem, seval]
 generalize srvS p.routes = on at *
 refine awp_for [2, 3, 7] (fun i : Nat => [(8, .p (.int .i64 (setOf (lvB x.orders.length x.before on S) i : Nat))), (9, .p (.int .i64 (i : Int)))]) (fun _ => [instO x, plnO p]) (fun i => i ≤ x.orders.length) (fun i => x.orders.length - i) 0 (by simp) (Weak.mk ?_) ?_
 ·simp (disch := omega) only [instO, plnO, setOf, go_sem, seval]
 ·intro i hi
  have hsl := setOf_lt (lvB x.orders.length x.before on S) i
  have hsi : pw i ≤ pw 60 := pw_le (by omega)
  simp (disch := omega) only [instO, plnO, go_sem, seval]
  refine acond_b (fun h1 => ?_) (fun h1 => ?_) <;> (try simp only [decide_eq_true_eq, decide_eq_false_iff_not] at h1) <;> simp (disch := omega) only [Sh.out h1, go_sem, seval]
  ·have hi2 : i < x.orders.length := by omega
   refine (rneeds_c x (i : Int) hn hl hv).use ?_
   simp (disch := omega) only [go_sem, seval]
   have hnd : needsOf x.orders.length x.before (i : Int) < pw x.orders.length := by rw [← needsOf_set hv hi2]; exact setOf_lt _ _
   have hlv := lvS_any (be := x.before) (S := S) (i := i) hon
   have hss : setOf (lvB x.orders.length x.before on S) (i + 1) = if lvB x.orders.length x.before on S i = true then setOf (lvB x.orders.length x.before on S) i ||| pw i else setOf (lvB x.orders.length x.before on S) i := by
    have hb0 : (setOf (lvB x.orders.length x.before on S) i).testBit i = false := Nat.testBit_lt_two_pow hsl
    rw [setOf, or_add hb0]
   generalize setOf (lvB x.orders.length x.before on S) i = O at *
   generalize needsOf x.orders.length x.before (i : Int) = N at *
   refine awp_for [2, 3, 7, 9, 10] (fun k : Nat => [(8, .p (.int .i64 ((if (on.testBit i && hitB N S on k) = true then O ||| pw i else O : Nat) : Int))), (11, .p (.int .i64 (k : Int)))]) (fun _ => [instO x, plnO p]) (fun k => k ≤ x.orders.length) (fun k => x.orders.length - k) 0 (by simp) (Weak.mk ?_) ?_
   ·simp (disch := omega) only [instO, plnO, hitB, List.range_zero, List.any_nil, Bool.and_false, Bool.false_eq_true, if_false, go_sem, seval]
   ·intro k hk2
    have hany : hitB N S on (k + 1) = (hitB N S on k || (N.testBit k && S.testBit k && on.testBit k)) := by
     rw [hitB, hitB, List.range_succ, List.any_append]; simp
    simp (disch := omega) only [instO, plnO, go_sem, seval]
    refine aguard_t (fun h2 => ?_) (fun h2 => ?_) <;> (try simp only [decide_eq_true_eq, decide_eq_false_iff_not] at h2) <;> simp (disch := omega) only [Sh.out h2, go_sem, seval]
    ·have hk3 : k < x.orders.length := by omega
     refine (has42_c on i (by omega) (by omega)).use ?_
     simp (disch := omega) only [go_sem, seval]
     cases hoi : on.testBit i with
     | false =>
      simp (disch := omega) only [go_sem, seval]
      rw [hoi, Bool.false_and] at hlv
      rw [hlv] at hss
      exact ⟨i + 1, by omega, by omega, Weak.mk (by simp (disch := omega) only [instO, plnO, hss, Bool.false_and, Bool.false_eq_true, if_false, go_sem, seval])⟩
     | true =>
      simp (disch := omega) only [go_sem, seval]
      try simp only [Bool.true_and]
      generalize hitB N S on k = A at *
      have hOl : (if A = true then O ||| pw i else O) < pw 61 := by
       split
       ·exact Nat.or_lt_two_pow (Nat.lt_of_lt_of_le hsl (pw_le (by omega))) (Nat.pow_lt_pow_right (by omega) (by omega))
       ·exact Nat.lt_of_lt_of_le hsl (pw_le (by omega))
      have e61 : pw 61 = 2305843009213693952 := rfl
      refine (has42_c N k (by omega) (by omega)).use ?_
      simp (disch := omega) only [go_sem, seval]
      cases hNk : N.testBit k with
      | false =>
       simp (disch := omega) only [go_sem, seval]
       rw [hNk] at hany
       simp only [Bool.false_and, Bool.or_false] at hany
       exact ⟨k + 1, by omega, by omega, Weak.mk (by simp (disch := omega) only [instO, plnO, hany, Bool.true_and, go_sem, seval])⟩
      | true =>
       simp (disch := omega) only [go_sem, seval]
       refine (has42_c S k hS (by omega)).use ?_
       simp (disch := omega) only [go_sem, seval]
       cases hSk : S.testBit k with
       | false =>
        simp (disch := omega) only [go_sem, seval]
        rw [hNk, hSk] at hany
        simp only [Bool.true_and, Bool.false_and, Bool.or_false] at hany
        exact ⟨k + 1, by omega, by omega, Weak.mk (by simp (disch := omega) only [instO, plnO, hany, Bool.true_and, go_sem, seval])⟩
       | true =>
        simp (disch := omega) only [go_sem, seval]
        refine (has42_c on k (by omega) (by omega)).use ?_
        simp (disch := omega) only [go_sem, seval]
        cases hok : on.testBit k with
        | false =>
         simp (disch := omega) only [go_sem, seval]
         rw [hNk, hSk, hok] at hany
         simp only [Bool.true_and, Bool.or_false] at hany
         exact ⟨k + 1, by omega, by omega, Weak.mk (by simp (disch := omega) only [instO, plnO, hany, Bool.true_and, go_sem, seval])⟩
        | true =>
         simp (disch := omega) only [go_sem, seval]
         rw [hNk, hSk, hok] at hany
         simp only [Bool.true_and, Bool.or_true] at hany
         refine (with42_c (if A = true then O ||| pw i else O) i (by omega) (by omega)).use ?_
         simp (disch := omega) only [go_sem, seval]
         have e9 : (if A = true then O ||| pw i else O) ||| pw i = O ||| pw i := by
          split
          ·rw [Nat.or_assoc, Nat.or_self]
          ·rfl
         exact ⟨k + 1, by omega, by omega, Weak.mk (by simp (disch := omega) only [instO, plnO, hany, e9, Bool.true_and, if_true, go_sem, seval])⟩
    ·have hkn : k = x.orders.length := by omega
     subst hkn
     rw [← hlv] at *
     exact ⟨i + 1, by omega, by omega, Weak.mk (by simp (disch := omega) only [instO, plnO, hss, go_sem, seval])⟩
  ·have hin : i = x.orders.length := by omega
   rw [hin]
   rfl
end Go.Proofs.YtcdoglogglbemaaGreatDoor.K
set_option linter.unusedVariables false
set_option linter.unusedSimpArgs false
namespace Go.Proofs.YtcdoglogglbemaaGreatDoor.K
open Go Go.AM Go.Proofs
set_option maxRecDepth 60000
set_option maxHeartbeats 8000000
theorem orders42_c (x : Inst) (p : Pln) (set : Int) (h : Rm x p) (hs : I64 set) :
  ACalls Tryz.prog 14 [.p (eInst x), .p (ePln p), .p (.int .i64 set)] [] fun y H' => y = .tup [.p (ePln (rmF x p set).1), .p (.int .i64 ((rmF x p set).2.1 : Nat)), .p (.int .i64 (rmF x p set).2.2)] ∧ H' = [] := by
 obtain ⟨hn, hbl, hv, hr, hu, hb⟩ := h
 have h60 : pw x.orders.length ≤ pw 60 := pw_le hn
 have e60 : pw 60 = 1152921504606846976 := rfl
 refine acalls_weak [5] (fn := Tryz.f14) Tryz.func14 rfl isF14 ?_
 simp (disch := omega) only [Tryz.f14, go_sem, seval]
 refine (exists42_c x set hn hs).use ?_
 simp (disch := omega) only [go_sem, seval]
 cases hok : okSet x.orders.length set with
 | false =>
  have e : rmF x p set = (zPln, 0, 2) := by rw [rmF, hok, Bool.and_false]; rfl
  rw [e]
  simp (disch := omega) only [go_sem, seval]
  exact ⟨_, _, Weak.mk (by simp (disch := omega) only [zPln, List.map_nil, go_sem, seval]), rfl, rfl⟩
 | true =>
  simp (disch := omega) only [go_sem, seval]
  have ck := known42_c x p true hn hr (by omega) hb
  rw [show (kno x.orders.length p.routes && (!true || unsI x.orders.length p.unserved)) = askB x p from rfl] at ck
  refine (ck).use ?_
  simp (disch := omega) only [go_sem, seval]
  cases hask : askB x p with
  | false =>
   have e : rmF x p set = (zPln, 0, 2) := by rw [rmF, hask]; rfl
   rw [e]
   simp (disch := omega) only [go_sem, seval]
   exact ⟨_, _, Weak.mk (by simp (disch := omega) only [zPln, List.map_nil, go_sem, seval]), rfl, rfl⟩
  | true =>
   have hk : kno x.orders.length p.routes = true := by rw [askB, Bool.and_eq_true] at hask; exact hask.1
   have huI : unsI x.orders.length p.unserved = true := by rw [askB, Bool.and_eq_true] at hask; exact hask.2
   rw [okSet, Bool.and_eq_true, decide_eq_true_eq, decide_eq_true_eq] at hok
   obtain ⟨S, rfl⟩ : ∃ S : Nat, set = S := ⟨set.toNat, by omega⟩
   have hS : S < 9223372036854775808 := by have := hs.2; omega
   have e : rmF x p (S : Int) = (rmP p (goneF x p S), goneF x p S, 0) := by
    rw [rmF, okSet, hask]
    simp [hok.1, hok.2]
   rw [e]
   have eg : goneF x p (S : Int) = lvS x.orders.length x.before (srvS p.routes) S := by rw [goneF, Int.toNat_natCast]
   rw [eg]
   have hg := lvS_lt x.orders.length x.before (srvS p.routes) S
   simp (disch := omega) only [go_sem, seval]
   refine (leaving42_c x p S hn hbl hv hk hr hb hS).use ?_
   simp (disch := omega) only [go_sem, seval]
   generalize lvS x.orders.length x.before (srvS p.routes) S = g at *
   have hki := kno_iff.1 hk
   refine awp_weak (Weak.nilC (o := 3) (j := 0) 4 (by rfl) (by rfl) (by simp)) ?_
   refine awp_sound [15, 23, 28] _ _ _ _ ?_
   simp (disch := omega) only [List.set_cons_succ, List.set_cons_zero, List.cons_append, List.nil_append, List.length_cons, List.length_nil, go_sem, seval]
   refine awp_forC [15, 23, 28] [4, 6, 9, 10] (fun i : Nat => [(11, .p (.int .i64 (i : Int)))]) (fun i => [instO x, plnO p, .cells [.p (.list true []), .p (.list true [])], .cells [.sl 4 0 (leftR g (p.routes.take i)).length (leftR g (p.routes.take i)).length, .p (.list true [])], .elems 4 ((leftR g (p.routes.take i)).map eRte)]) (fun i => i ≤ p.routes.length) (fun i => p.routes.length - i) 0 (by simp) (Weak.mk ?_) ?_
   ·simp (disch := omega) only [instO, plnO, leftR, List.take_zero, List.map_nil, List.filter_nil, List.length_nil, go_sem, seval]
   ·intro i hi
    have hll : (leftR g (p.routes.take i)).length ≤ 1048576 := Nat.le_trans leftR_len (by simp; omega)
    simp (disch := omega) only [instO, plnO, go_sem, seval]
    refine acond_b (fun h3 => ?_) (fun h3 => ?_) <;> (try simp only [decide_eq_true_eq, decide_eq_false_iff_not] at h3) <;> simp (disch := omega) only [Sh.out h3, go_sem, seval]
    ·have hi2 : i < p.routes.length := by omega
     have hlt := leftR_take (g := g) hi2
     have hbk := hb _ (nth_mem hi2)
     have hvl := hbk.1
     have hvr : ∀ v ∈ (nth p.routes i).visits, 0 ≤ v.order ∧ v.order ≤ 62 := fun v hv => by have := hki _ (nth_mem hi2) v hv; omega
     generalize leftR g (p.routes.take i) = R at *
     refine awp_forC [15] [4, 6, 9, 10, 11, 12] (fun k : Nat => [(13, .sl 6 0 (((nth p.routes i).visits.take k).filter fun v => !goB g v).length (((nth p.routes i).visits.take k).filter fun v => !goB g v).length), (14, .p (.int .i64 (k : Int)))])
      (fun k => [instO x, plnO p, .cells [.p (.list true []), .p (.list true [])], .cells [.sl 4 0 R.length R.length, .p (.list true [])], .elems 4 (R.map eRte), rteO (nth p.routes i), .elems 2 ((((nth p.routes i).visits.take k).filter fun v => !goB g v).map eVis)]) (fun k => k ≤ (nth p.routes i).visits.length) (fun k => (nth p.routes i).visits.length - k) 0 (by simp) (Weak.ofNil 13 2 (by simp (disch := omega) only [go_sem, seval]) (by simp) (Weak.mk ?_)) ?_
     ·simp (disch := omega) only [instO, plnO, rteO, List.take_zero, List.filter_nil, List.map_nil, List.length_nil, go_sem, seval]
     ·intro k hk1
      have hfl := List.length_filter_le (fun v => !goB g v) ((nth p.routes i).visits.take k)
      rw [List.length_take] at hfl
      simp (disch := omega) only [instO, plnO, rteO, go_sem, seval]
      refine acond_b (fun h4 => ?_) (fun h4 => ?_) <;> (try simp only [decide_eq_true_eq, decide_eq_false_iff_not] at h4) <;> simp (disch := omega) only [Sh.out h4, go_sem, seval]
      ·have hk2 : k < (nth p.routes i).visits.length := by omega
       have hf := filter_take (f := goB g) hk2
       have hvo := hvr _ (nth_mem hk2)
       obtain ⟨o, ho⟩ : ∃ o : Nat, (nth (nth p.routes i).visits k).order = o := ⟨_, (Int.toNat_of_nonneg hvo.1).symm⟩
       have hgo : goB g (nth (nth p.routes i).visits k) = g.testBit o := by rw [goB, ho, Int.toNat_natCast]
       rw [ho] at hvo
       rw [ho]
       refine (has42_c g o (by omega) (by omega)).use ?_
       simp (disch := omega) only [go_sem, seval]
       rw [hgo] at hf
       generalize ((nth p.routes i).visits.take k).filter (fun v => !goB g v) = W at *
       cases hgb : g.testBit o with
       | true =>
        simp (disch := omega) only [go_sem, seval]
        rw [hgb, if_pos rfl, List.append_nil] at hf
        exact ⟨k + 1, by omega, by omega, Weak.mk (by simp (disch := omega) only [instO, plnO, rteO, hf, go_sem, seval])⟩
       | false =>
        rw [hgb, if_neg (by simp)] at hf
        simp (disch := omega) only [go_sem, seval]
        refine ⟨k + 1, by omega, by omega, Weak.mk ?_⟩
        simp (disch := omega) only [instO, plnO, rteO, hf, List.map_append, List.map_cons, List.map_nil, List.length_append, List.length_cons, List.length_nil, go_sem, seval]
        done
      ·have hkl : k = (nth p.routes i).visits.length := by omega
       subst hkl
       rw [List.take_length] at *
       have hfe : (nth p.routes i).visits.filter (fun v => !goB g v) = (cutR g (nth p.routes i)).visits := rfl
       rw [hfe] at *
       refine awp_weak (Weak.fz (o := 6) (by rfl)) ?_
       refine awp_sound [] _ _ _ _ ?_
       simp (disch := omega) only [List.map_cons, List.map_nil, List.set_cons_succ, List.set_cons_zero, go_sem, seval]
       refine acond_b (fun h5 => ?_) (fun h5 => ?_) <;> (try simp only [decide_eq_true_eq, decide_eq_false_iff_not] at h5) <;> simp (disch := omega) only [Sh.out h5, go_sem, seval]
       ·rw [if_pos (by omega)] at hlt
        refine ⟨i + 1, by omega, by omega, Weak.mk ?_⟩
        simp (disch := omega) only [instO, plnO, hlt, List.map_append, List.map_cons, List.map_nil, List.length_append, List.length_cons, List.length_nil, go_sem, seval]
        rfl
       ·rw [if_neg (by omega), List.append_nil] at hlt
        exact ⟨i + 1, by omega, by omega, Weak.mk (by simp (disch := omega) only [instO, plnO, hlt, go_sem, seval])⟩
    ·have hil : i = p.routes.length := by omega
     subst hil
     rw [List.take_length] at hll ⊢
     obtain ⟨R, hR⟩ : ∃ R, R = leftR g p.routes := ⟨_, rfl⟩
     rw [← hR] at hll ⊢
     have hui : ∀ u ∈ p.unserved, 0 ≤ u ∧ u < (x.orders.length : Int) := fun u hu => by
      have := List.all_eq_true.1 huI u hu
      simp only [Bool.and_eq_true, decide_eq_true_eq] at this
      exact this
     have hsl : ∀ k, g ||| setL (p.unserved.take k) < pw x.orders.length := fun k => Nat.or_lt_two_pow hg (setL_lt fun u hu => by
      have := hui u (List.mem_of_mem_take hu)
      omega)
     refine awp_forC [23, 28] [4, 6, 9, 10] (fun k : Nat => [(15, .p (.int .i64 (g ||| setL (p.unserved.take k) : Nat))), (16, .p (.int .i64 (k : Int)))]) (fun _ => [instO x, plnO p, .cells [.p (.list true []), .p (.list true [])], .cells [.sl 4 0 R.length R.length, .p (.list true [])], .elems 4 (R.map eRte)]) (fun k => k ≤ p.unserved.length) (fun k => p.unserved.length - k) 0 (by simp) (Weak.mk ?_) ?_
     ·simp (disch := omega) only [instO, plnO, setL, List.take_zero, List.foldl_nil, Nat.or_zero, go_sem, seval]
     ·intro k hk1
      have hslk := hsl k
      simp (disch := omega) only [instO, plnO, go_sem, seval]
      refine acond_b (fun h4 => ?_) (fun h4 => ?_) <;> (try simp only [decide_eq_true_eq, decide_eq_false_iff_not] at h4) <;> simp (disch := omega) only [Sh.out h4, go_sem, seval]
      ·have hk2 : k < p.unserved.length := by omega
       have huk := hui _ (nth_mem hk2)
       have hst := setL_take hk2
       obtain ⟨u, hu'⟩ : ∃ u : Nat, nth p.unserved k = u := ⟨_, (Int.toNat_of_nonneg huk.1).symm⟩
       rw [hu', Int.toNat_natCast] at hst
       rw [hu'] at huk
       rw [hu']
       refine (with42_c (g ||| setL (p.unserved.take k)) u (by omega) (by omega)).use ?_
       simp (disch := omega) only [go_sem, seval]
       exact ⟨k + 1, by omega, by omega, Weak.mk (by simp (disch := omega) only [instO, plnO, hst, Nat.or_assoc, go_sem, seval])⟩
      ·have hkl : k = p.unserved.length := by omega
       subst hkl
       rw [List.take_length] at hslk ⊢
       have hun : unsL g p.unserved = memU ((g ||| setL p.unserved : Nat) : Int) 63 := by rw [unsL, Nat.or_comm]
       generalize g ||| setL p.unserved = A at *
       refine awp_weak (Weak.nilC (o := 3) (j := 1) 1 (by rfl) (by rfl) (by simp)) ?_
       refine awp_seq ?_
       refine awp_sound [28] _ _ _ _ ?_
       simp (disch := omega) only [List.set_cons_succ, List.set_cons_zero, List.cons_append, List.nil_append, List.length_cons, List.length_nil, go_sem, seval]
       refine awp_forC [28] [6, 9, 10, 15] (fun k : Nat => [(17, .p (.int .i64 (k : Int)))]) (fun k => [instO x, plnO p, .cells [.p (.list true []), .p (.list true [])], .cells [.sl 4 0 R.length R.length, .sl 5 0 (memU (A : Int) k).length (memU (A : Int) k).length], .elems 4 (R.map eRte), .elems 1 ((memU (A : Int) k).map eI)]) (fun k => k ≤ 63) (fun k => 63 - k) 0 (by simp) (Weak.mk ?_) ?_
       ·simp (disch := omega) only [instO, plnO, memU_zero, List.map_nil, List.length_nil, go_sem, seval]
       ·intro k hk
        have hml := memU_len (A : Int) k
        simp (disch := omega) only [instO, plnO, go_sem, seval]
        refine acond_b (fun h5 => ?_) (fun h5 => ?_) <;> (try simp only [decide_eq_true_eq, decide_eq_false_iff_not] at h5) <;> simp (disch := omega) only [Sh.out h5, go_sem, seval]
        ·refine (has42_c A k (by omega) (by omega)).use ?_
         simp (disch := omega) only [go_sem, seval]
         have hsn := sHas_nat A k (by omega)
         cases hb2 : A.testBit k with
         | true =>
          have hy := memU_yes (hsn.trans hb2)
          simp (disch := omega) only [go_sem, seval]
          refine ⟨k + 1, by omega, by omega, Weak.mk ?_⟩
          simp (disch := omega) only [instO, plnO, hy, List.map_append, List.map_cons, List.map_nil, List.length_append, List.length_cons, List.length_nil, go_sem, seval]
          done
         | false =>
          have hy := memU_no (hsn.trans hb2)
          simp (disch := omega) only [go_sem, seval]
          exact ⟨k + 1, by omega, by omega, Weak.mk (by simp (disch := omega) only [instO, plnO, hy, go_sem, seval])⟩
        ·have hk63 : k = 63 := by omega
         subst hk63
         rw [← hun]
         refine awp_weak (Weak.fz (o := 4) (by rfl)) ?_
         refine awp_weak (Weak.fz (o := 5) (by rfl)) ?_
         refine awp_sound [] _ _ _ _ ?_
         simp (disch := omega) only [List.map_cons, List.map_nil, List.set_cons_succ, List.set_cons_zero, go_sem, seval]
         exact ⟨_, _, Weak.mk (by simp (disch := omega) only [rmP, hR, go_sem, seval]), rfl, rfl⟩
end Go.Proofs.YtcdoglogglbemaaGreatDoor.K
set_option linter.unusedVariables false
set_option linter.unusedSimpArgs false
namespace Go.Proofs.YtcdoglogglbemaaGreatDoor.K
open Go Go.AM Go.Proofs
set_option maxRecDepth 60000
set_option maxHeartbeats 8000000
def difN (a b : Nat) : Nat := a ^^^ (a &&& b)
theorem difN_bit (a b j : Nat) : (difN a b).testBit j = (a.testBit j && !b.testBit j) := by
 rw [difN, Nat.testBit_xor, Nat.testBit_and]; cases a.testBit j <;> cases b.testBit j <;> rfl
theorem difN_lt {a b n : Nat} (h : a < pw n) : difN a b < pw n := lt_pw fun j hj => by
 rw [difN_bit, Bool.and_eq_true] at hj; exact bit_pw h hj.1
theorem dif63 {a b : Nat} (ha : a < 9223372036854775808) (hb : b < 9223372036854775808) : IntKind.i64.wrap ((BitVec.ofInt 64 (a : Int) &&& ~~~(BitVec.ofInt 64 (b : Int))).toNat : Int) = ((difN a b : Nat) : Int) := by
 have e : (BitVec.ofInt 64 (a : Int) &&& ~~~(BitVec.ofInt 64 (b : Int))).toNat = difN a b := by
  apply Nat.eq_of_testBit_eq
  intro j
  rw [BitVec.testBit_toNat, BitVec.getLsbD_and, BitVec.getLsbD_not, BitVec.ofInt_natCast, BitVec.ofInt_natCast, BitVec.getLsbD_ofNat, BitVec.getLsbD_ofNat, difN_bit]
  by_cases hj : j < 64
  ·simp [hj]
  ·have h1 : a.testBit j = false := by
    have : a < 2 ^ j := Nat.lt_of_lt_of_le ha (Nat.le_trans (by decide : 9223372036854775808 ≤ 2 ^ 63) (Nat.pow_le_pow_right (by omega) (by omega)))
    exact Nat.testBit_lt_two_pow this
   simp [hj, h1]
 have h2 : difN a b < pw 63 := difN_lt (by simpa [pw] using ha)
 have h3 : pw 63 = 9223372036854775808 := rfl
 rw [e]
 generalize difN a b = d at *
 exact IntWalk.i64_in _ (by omega)
@[go_sem high] theorem abin_difN {P : Program} {t : TypeId} {a b : Nat} (ha : a < 9223372036854775808) (hb : b < 9223372036854775808) : abin P .andNot t (.p (.int .i64 (a : Int))) (.p (.int .i64 (b : Int))) = some (.int .i64 ((difN a b : Nat) : Int)) := by
 rw [abin_andNot]; exact congrArg (fun q => some (PV.int .i64 q)) (dif63 ha hb)
theorem mapT_sav : mapT Tryz.prog 143 = some (.int .i64, some (.int .i64 0)) := by kernel_rfl
def anyF : Nat → Nat → Nat → Int → Nat × Int
 | 0, _, s, st => (s, st)
 | n + 1, all, s, st => if difN all s = 0 then (s, st) else anyF n all (s ||| pw (pickN st (difN all s)).toNat) (nextN st)
theorem anyone_c (all : Nat) (st : Int) (n : Nat) (ha : all < pw 61) (hn : n ≤ 1048576) : ACalls Tryz.prog 55 [.p (.int .i64 (all : Int)), .p (.int .i64 st), .p (.int .i64 (n : Int))] [] fun y H' => y = .tup [.p (.int .i64 ((anyF n all 0 st).1 : Nat)), .p (.int .i64 (anyF n all 0 st).2)] ∧ H' = [] := by
 have e61 : pw 61 = 2305843009213693952 := rfl
 obtain ⟨R, hR⟩ : ∃ R, R = anyF n all 0 st := ⟨_, rfl⟩
 rw [← hR]
 refine acalls_weak [] (fn := Tryz.f55) Tryz.func55 rfl isF55 ?_
 simp (disch := omega) only [Tryz.f55, go_sem, seval]
 refine awp_for [0, 10] (fun q : Nat × Nat × Int => [(1, .p (.int .i64 q.2.2)), (8, .p (.int .i64 (q.2.1 : Int))), (11, .p (.int .i64 (q.1 : Int)))]) (fun _ => []) (fun q => q.1 ≤ n ∧ q.2.1 < pw 61 ∧ R = anyF (n - q.1) all q.2.1 q.2.2) (fun q => n - q.1) (0, 0, st) ⟨by simp, by simp [e61], by simpa using hR⟩ (Weak.mk ?_) ?_
 ·simp (disch := omega) only [go_sem, seval]
 ·rintro ⟨k, s, t⟩ ⟨h1, h2, h3⟩
  simp only at h1 h2 h3
  have hdl := difN_lt (b := s) ha
  simp (disch := omega) only [go_sem, seval]
  refine acond_b (fun h4 => ?_) (fun h4 => ?_) <;> (try simp only [decide_eq_true_eq, decide_eq_false_iff_not] at h4) <;> simp (disch := omega) only [Sh.out h4, go_sem, seval]
  ·obtain ⟨m, hm⟩ : ∃ m, n - k = m + 1 := ⟨n - k - 1, by omega⟩
   rw [hm, anyF] at h3
   refine acond_b (fun h5 => ?_) (fun h5 => ?_) <;> (try simp only [decide_eq_true_eq, decide_eq_false_iff_not] at h5) <;> simp (disch := omega) only [Sh.out h5, go_sem, seval]
   ·rw [if_pos (by omega)] at h3
    rw [h3]
    exact ⟨_, _, Weak.mk (by simp (disch := omega) only [go_sem, seval]), rfl, rfl⟩
   ·rw [if_neg (by omega)] at h3
    obtain ⟨j, hj, _, hj2⟩ := pickN_mem (s := t) (S := difN all s) (by omega) (Nat.lt_of_lt_of_le hdl (pw_le (by omega)))
    have hj3 := bit_pw hdl hj2
    have hp : pw j ≤ pw 60 := pw_le (by omega)
    have e60 : pw 60 = 1152921504606846976 := rfl
    refine useT (rnPick_c t (difN all s) (by omega) (by omega)) ?_
    rw [hj] at h3 ⊢
    rw [Int.toNat_natCast] at h3
    simp (disch := omega) only [go_sem, seval]
    refine ⟨(k + 1, s ||| pw j, nextN t), ⟨by simp only; omega, Nat.or_lt_two_pow h2 (Nat.lt_of_le_of_lt hp (by omega)), by simp only; rw [h3]; congr 1; omega⟩, by simp only; omega, Weak.mk (by simp (disch := omega) only [go_sem, seval])⟩
  ·have hk : n - k = 0 := by omega
   rw [hk, anyF] at h3
   rw [h3]
   exact ⟨_, _, Weak.mk (by simp (disch := omega) only [go_sem, seval]), rfl, rfl⟩
theorem near1_c (x : Inst) (f i : Nat) (hf : f < x.orders.length) (hi : i < x.orders.length) (ho : x.orders.length ≤ 1048576) (ha : x.net.arcs.length ≤ 1048576) :
  ACalls Tryz.prog 113 [.p (eI (i : Int)), .ptr 0 0, .ptr 1 0] [instO x, .cells [.p (.int .i64 (f : Int))]] fun y H' => y = .p (eI (dstF x f i)) ∧ H' = [instO x, .cells [.p (.int .i64 (f : Int))]] := by
 refine acalls_weak [] (fn := Tryz.f113) Tryz.func113 rfl isF113 ?_
 simp (disch := omega) only [Tryz.f113, instO, go_sem, seval]
 refine (distance_c x f i hf hi ho ha).use ?_
 simp (disch := omega) only [go_sem, seval]
 exact ⟨_, _, Weak.mk (by simp (disch := omega) only [instO, go_sem, seval]), rfl, rfl⟩
def nearF (x : Inst) (all : Nat) (st : Int) (n : Nat) : Nat :=
 pw (pickN st all).toNat ||| takK (fun _ => false) (fun i => dstF x (pickN st all).toNat i.toNat) (memU (difN all (pw (pickN st all).toNat) : Int) 63) (n - 1)
theorem near_c (x : Inst) (all : Nat) (st : Int) (n : Nat) (hx : x.orders.length ≤ 19) (h0 : 0 < all) (ha : all < pw x.orders.length) (hn : 1 ≤ n) (hn2 : n ≤ 1048576) (har : x.net.arcs.length ≤ 1048576) :
  ACalls Tryz.prog 57 [.p (eInst x), .p (.int .i64 (all : Int)), .p (.int .i64 st), .p (.int .i64 (n : Int))] [] fun y H' => y = .tup [.p (.int .i64 (nearF x all st n : Nat)), .p (.int .i64 (nextN st))] ∧ H' = [] := by
 have h19 : pw x.orders.length ≤ pw 19 := pw_le hx
 have e19 : pw 19 = 524288 := rfl
 obtain ⟨f, hf, _, hf2⟩ := pickN_mem (s := st) (S := all) h0 (Nat.lt_of_lt_of_le ha (pw_le (by omega)))
 have hf3 := bit_pw ha hf2
 have hp : pw f ≤ pw 19 := pw_le (by omega)
 have hdl := difN_lt (b := pw f) ha
 refine acalls_weak [] (fn := Tryz.f57) Tryz.func57 rfl isF57 ?_
 simp (disch := omega) only [Tryz.f57, go_sem, seval]
 refine useT (rnPick_c st all h0 (by omega)) ?_
 unfold nearF
 rw [hf, Int.toNat_natCast]
 simp (disch := omega) only [go_sem, seval]
 refine ((members_c (difN all (pw f) : Int)).frozen (by simp)).use ?_
 have hin : ∀ i ∈ memU (difN all (pw f) : Int) 63, 0 ≤ i ∧ i < x.orders.length := fun i hi => by
  obtain ⟨j, rfl, _, h3⟩ := memU_iff.1 hi
  have := bit_pw hdl h3
  omega
 have hasc := memU_asc (difN all (pw f) : Int) 63
 have hlen : (memU (difN all (pw f) : Int) 63).length ≤ 19 := by
  have : memU (difN all (pw f) : Int) 63 ⊆ (List.range 19).map (fun i : Nat => (i : Int)) := fun i hi => by
   have := hin i hi
   exact List.mem_map.2 ⟨i.toNat, by simp; omega, by simp; omega⟩
  have h2 := (asc_nodup hasc).length_le_of_subset this
  simpa using h2
 have htl : takK (fun _ => false) (fun i => dstF x f i.toNat) (memU (difN all (pw f) : Int) 63) (n - 1) < pw 19 := setL_lt fun i hi => by
  have := hin i (srtK_mem.1 (List.mem_of_mem_take hi))
  omega
 generalize memU (difN all (pw f) : Int) 63 = l at *
 have w : Two (instO x) (.cells [.p (.int .i64 (f : Int))]) [.ptr 0 0, .ptr 1 0] := ⟨fun H n h => by simp [instO, wkO, wkF, wkV, refB], fun H n h => by simp [wkO, wkF, wkV, refB], fun n h => by simp [refBs, refB]; omega, by simp [refH, instO, refBs, refB]⟩
 have ct := take_c (g := 113) (v := fun i => dstF x f i.toNat) w l false (n - 1) hlen hasc (fun i hi => by have := hin i hi; omega) fun i hi => by
  have := hin i hi
  obtain ⟨k, rfl⟩ : ∃ k : Nat, i = k := ⟨i.toNat, by omega⟩
  exact near1_c x f k hf3 (by omega) (by omega) har
 rw [show ((n - 1 : Nat) : Int) = (n : Int) - 1 by omega] at ct
 simp (disch := omega) only [go_sem, seval]
 refine awp_drawnA mixed (by kernel_rfl) (by kernel_rfl) ?_
 simp (disch := omega) only [go_sem, seval]
 refine exq_call0 ct ?_
 simp (disch := omega) only [go_sem, seval]
 exact ⟨_, _, Weak.mk (by simp (disch := omega) only [go_sem, seval]), rfl, rfl⟩
theorem dear1_c (es : List (Int × Int)) (i : Int) (v : Int) (hv : mget es i = v) (hr : -3602879701896396800 ≤ v ∧ v ≤ 3602879701896396800) : ACalls Tryz.prog 111 [.p (eI i), .ptr 1 0] [.map (es.map eII), .cells [.mp 0]] fun y H' => y = .p (eI (-v)) ∧ H' = [.map (es.map eII), .cells [.mp 0]] := by
 refine acalls_weak [] (fn := Tryz.f111) Tryz.func111 rfl isF111 ?_
 simp (disch := omega) only [Tryz.f111, go_sem, seval]
 refine look_int mapT_sav rfl ?_
 rw [hv]
 simp (disch := omega) only [go_sem, seval]
 exact ⟨_, _, Weak.mk (by simp (disch := omega) only [Int.zero_sub, go_sem, seval]), rfl, rfl⟩
theorem dear2_c (a b : AM.Obj) (i : Int) (w : Two a b []) : ACalls Tryz.prog 112 [.p (eI i)] [a, b] fun y H' => y = .p (eI 0) ∧ H' = [a, b] := by
 obtain ⟨wa, wb, wc, wf⟩ := w
 refine acalls_weak [] (fn := Tryz.f112) Tryz.func112 rfl isF112 ?_
 simp (disch := omega) only [Tryz.f112, go_sem, seval]
 exact ⟨_, _, Weak.mk (by simp (disch := omega) only [wa, wb, go_sem, seval]), rfl, rfl⟩
noncomputable def unkB (x : Inst) (p : Pln) (i : Int) : Bool := decide (¬ (savF x p i).2 = 0)
noncomputable def dearF (x : Inst) (p : Pln) (all n : Nat) : Nat := takK (unkB x p) (fun i => -(savF x p i).1) (memU (all : Int) 63) n
theorem savF_err {x : Inst} {p : Pln} {o : Int} (h : ¬ (savF x p o).2 = 0) : (savF x p o).1 = 0 := by
 unfold savF at h ⊢
 split
 ·rfl
 ·split
  ·rfl
  ·split
   ·rfl
   ·split
    ·rfl
    ·rename_i c1 c2 c3 c4
     rw [if_neg c1, if_neg c2, if_neg c3, if_neg c4] at h
     exact absurd rfl h
theorem memU_small {S n : Nat} (h : S < pw n) (hn : n ≤ 19) : (memU (S : Int) 63).length ≤ 19 ∧ ∀ i ∈ memU (S : Int) 63, 0 ≤ i ∧ i < (n : Int) := by
 have hin : ∀ i ∈ memU (S : Int) 63, 0 ≤ i ∧ i < (n : Int) := fun i hi => by
  obtain ⟨j, rfl, _, h3⟩ := memU_iff.1 hi
  have := bit_pw h h3
  omega
 refine ⟨?_, hin⟩
 have : memU (S : Int) 63 ⊆ (List.range 19).map (fun i : Nat => (i : Int)) := fun i hi => by
  have := hin i hi
  exact List.mem_map.2 ⟨i.toNat, by simp; omega, by simp; omega⟩
 have h2 := (asc_nodup (memU_asc _ _)).length_le_of_subset this
 simpa using h2
theorem dear_c (x : Inst) (p : Pln) (all n : Nat) (hx : InstOk x) (hR : Rm x p) (hx19 : x.orders.length ≤ 19) (hl : p.routes.length ≤ 100) (ha : all < pw x.orders.length) (hn : n ≤ 1048576) :
  ACalls Tryz.prog 56 [.p (eInst x), .p (ePln p), .p (.int .i64 (all : Int)), .p (.int .i64 (n : Int))] [] fun y H' => y = .p (.int .i64 (dearF x p all n : Nat)) ∧ H' = [] := by
 obtain ⟨hml, hmi⟩ := memU_small ha hx19
 have hasc := memU_asc (all : Int) 63
 rw [dearF, takK_split hasc fun i _ h => by
  simp only [unkB, decide_eq_true_eq] at h
  rw [savF_err h]; rfl]
 refine acalls_weak [12] (fn := Tryz.f56) Tryz.func56 rfl isF56 ?_
 simp (disch := omega) only [Tryz.f56, go_sem, seval]
 refine ((members_c (all : Int)).frozen (by simp)).use ?_
 simp (disch := omega) only [go_sem, seval]
 generalize memU (all : Int) 63 = l at *
 refine awp_forC [12] [3, 4, 5, 11, 19, 20] (fun q : Nat × List (Int × Int) => [(9, .sl 4 0 ((l.take q.1).filter fun i => !unkB x p i).length ((l.take q.1).filter fun i => !unkB x p i).length), (10, .sl 5 0 ((l.take q.1).filter (unkB x p)).length ((l.take q.1).filter (unkB x p)).length), (21, .p (.int .i64 (q.1 : Int)))])
  (fun q => [instO x, plnO p, .map (q.2.map eII), .cells [.mp 2], .elems 1 (((l.take q.1).filter fun i => !unkB x p i).map eI), .elems 1 (((l.take q.1).filter (unkB x p)).map eI)])
  (fun q => q.1 ≤ l.length ∧ ∀ i ∈ (l.take q.1).filter (fun i => !unkB x p i), mget q.2 i = (savF x p i).1) (fun q => l.length - q.1) (0, []) ⟨by simp, by simp⟩ (Weak.ofNil 9 1 (by simp (disch := omega) only [go_sem, seval]) (by simp) (Weak.ofNil 10 1 (by simp (disch := omega) only [go_sem, seval]) (by simp) (Weak.mk ?_))) ?_
 ·simp (disch := omega) only [instO, plnO, List.take_zero, List.filter_nil, List.map_nil, List.length_nil, go_sem, seval]
 ·rintro ⟨k, es⟩ ⟨h1, h2⟩
  simp only at h1 h2
  have hk1 := List.length_filter_le (fun i => !unkB x p i) (l.take k)
  have hk2 := List.length_filter_le (unkB x p) (l.take k)
  rw [List.length_take] at hk1 hk2
  simp (disch := omega) only [instO, plnO, go_sem, seval]
  refine acond_b (fun h3 => ?_) (fun h3 => ?_) <;> (try simp only [decide_eq_true_eq, decide_eq_false_iff_not] at h3) <;> simp (disch := omega) only [Sh.out h3, go_sem, seval]
  ·have hk : k < l.length := by omega
   have hmk := hmi _ (nth_mem hk)
   have ht : l.take (k + 1) = l.take k ++ [nth l k] := by rw [List.take_succ_eq_append_getElem hk, nth_get hk]
   refine useT (saved_c x p (nth l k) hx hR hl ⟨by omega, by omega⟩) ?_
   simp (disch := omega) only [go_sem, seval]
   refine acond_b (fun h4 => ?_) (fun h4 => ?_) <;> (try simp only [decide_eq_true_eq, decide_eq_false_iff_not] at h4) <;> simp (disch := omega) only [Sh.out h4, go_sem, seval]
   ·have hu : unkB x p (nth l k) = true := by simpa [unkB] using h4
    have e1 : (l.take (k + 1)).filter (fun i => !unkB x p i) = (l.take k).filter fun i => !unkB x p i := by rw [ht, List.filter_append]; simp [hu]
    have e2 : (l.take (k + 1)).filter (unkB x p) = (l.take k).filter (unkB x p) ++ [nth l k] := by rw [ht, List.filter_append]; simp [hu]
    refine ⟨(k + 1, es), ⟨by simp only; omega, by simp only [e1]; exact h2⟩, by simp only; omega, Weak.mk ?_⟩
    simp (disch := omega) only [instO, plnO, e1, e2, List.map_append, List.map_cons, List.map_nil, List.length_append, List.length_cons, List.length_nil, go_sem, seval]
   ·have hu : unkB x p (nth l k) = false := by simpa [unkB] using h4
    have e1 : (l.take (k + 1)).filter (fun i => !unkB x p i) = (l.take k).filter (fun i => !unkB x p i) ++ [nth l k] := by rw [ht, List.filter_append]; simp [hu]
    have e2 : (l.take (k + 1)).filter (unkB x p) = (l.take k).filter (unkB x p) := by rw [ht, List.filter_append]; simp [hu]
    refine mput_int mapT_sav rfl fun m' hm' => ?_
    simp (disch := omega) only [List.set_cons_succ, List.set_cons_zero, go_sem, seval]
    refine ⟨(k + 1, m'), ⟨by simp only; omega, fun i hi => ?_⟩, by simp only; omega, Weak.mk ?_⟩
    ·simp only at hi ⊢
     rw [hm']
     split
     ·rename_i c; rw [c]
     ·rename_i c
      rw [e1, List.mem_append, List.mem_singleton] at hi
      rcases hi with hi | hi
      ·exact h2 i hi
      ·exact absurd hi c
    ·simp (disch := omega) only [instO, plnO, e1, e2, List.map_append, List.map_cons, List.map_nil, List.length_append, List.length_cons, List.length_nil, go_sem, seval]
  ·have hkl : k = l.length := by omega
   subst hkl
   rw [List.take_length] at *
   have hk3 : ∀ i ∈ l.filter (fun i => !unkB x p i), i ∈ l := fun i hi => (List.mem_filter.1 hi).1
   have hu3 : ∀ i ∈ l.filter (unkB x p), i ∈ l := fun i hi => (List.mem_filter.1 hi).1
   have ak := hasc.filter (fun i => !unkB x p i)
   have au := hasc.filter (unkB x p)
   generalize l.filter (fun i => !unkB x p i) = K at *
   generalize l.filter (unkB x p) = U at *
   refine awp_weak (Weak.fz (o := 4) (by rfl)) ?_
   refine awp_weak (Weak.fz (o := 5) (by rfl)) ?_
   refine awp_sound [] _ _ _ _ ?_
   simp (disch := omega) only [List.map_cons, List.map_nil, List.set_cons_succ, List.set_cons_zero, go_sem, seval]
   have w : Two (.map (es.map eII)) (.cells [.mp 0]) [.ptr 1 0] := ⟨fun H n h => by simp [wkO], fun H n h => by simp [wkO, wkF, wkV, refB]; omega, fun n h => by simp [refBs, refB]; omega, by simp [refH, refBs, refB]⟩
   have c1 := (take_c (g := 111) (v := fun i => -(savF x p i).1) w K false n (by omega) ak (fun i hi => by have := hmi i (hk3 i hi); omega) fun i hi => dear1_c es i _ (h2 i hi) (savF_rng hl)).back [instO x, plnO p] (by rfl)
   have c2 : ACalls Tryz.prog 110 [.p (.list false (K.map eI)), .p (.int .i64 (n : Int)), .fn (.func 111) [] [.ptr 3 0]] [instO x, plnO p, .map (es.map eII), .cells [.mp 2]] fun y H' => y = .p (.int .i64 (takK (fun _ => false) (fun i => -(savF x p i).1) K n : Nat)) ∧ H' = [instO x, plnO p, .map (es.map eII), .cells [.mp 2]] :=
    c1.mono (by rintro _ _ ⟨y, H1, ⟨rfl, rfl⟩, rfl, rfl⟩; exact ⟨rfl, rfl⟩)
   refine c2.useP (L := [.dead, .dead]) rfl ?_ (by simp [refBs, refB]) (by simp [refH, instO, plnO, refBs, refB])
   simp (disch := omega) only [go_sem, seval]
   have w2 : Two (instO x) (plnO p) [] := ⟨fun H n h => by simp [instO, wkO, wkF, wkV, refB], fun H n h => by simp [plnO, wkO, wkF, wkV, refB], fun n h => by simp [refBs], by simp [refH, instO, plnO, refBs, refB]⟩
   have c4 := take_c (g := 112) (v := fun _ => 0) w2 U false (n - K.length) (by omega) au (fun i hi => by have := hmi i (hu3 i hi); omega) fun i hi => dear2_c (instO x) (plnO p) i w2
   rw [show ((n - K.length : Nat) : Int) = max 0 ((n : Int) - (K.length : Int)) by omega] at c4
   refine c4.useP (L := [.map (es.map eII), .cells [.mp 2], .dead, .dead]) rfl ?_ (by simp [refBs, refB]) (by simp [refH, instO, plnO, refBs, refB])
   have b1 : takK (fun _ => false) (fun i => -(savF x p i).1) K n < pw 19 := setL_lt fun i hi => by
    have := hmi i (hk3 i (srtK_mem.1 (List.mem_of_mem_take hi)))
    omega
   have b2 : takK (fun _ => false) (fun _ => 0) U (n - K.length) < pw 19 := setL_lt fun i hi => by
    have := hmi i (hu3 i (srtK_mem.1 (List.mem_of_mem_take hi)))
    omega
   have e19 : pw 19 = 524288 := rfl
   simp (disch := omega) only [go_sem, seval]
   exact ⟨_, _, Weak.mk (by simp (disch := omega) only [go_sem, seval]), rfl, rfl⟩
end Go.Proofs.YtcdoglogglbemaaGreatDoor.K
set_option linter.unusedVariables false
set_option linter.unusedSimpArgs false
namespace Go.Proofs.YtcdoglogglbemaaGreatDoor.K
open Go Go.AM Go.Proofs
set_option maxRecDepth 60000
set_option maxHeartbeats 8000000
noncomputable def chsF (x : Inst) (p : Pln) (kind st n : Int) : Nat × Int × Int :=
 if kno x.orders.length p.routes = false then (0, 0, 2)
 else if kind < 1 ∨ 4 < kind then (0, 0, 8)
 else if n < 1 ∨ 10 < n then (0, 0, 2)
 else if srvS p.routes = 0 then (0, st, 0)
 else if kind = 1 then ((anyF n.toNat (srvS p.routes) 0 st).1, (anyF n.toNat (srvS p.routes) 0 st).2, 0)
 else if kind = 2 then (dearF x p (srvS p.routes) n.toNat, st, 0)
 else if kind = 3 then (nearF x (srvS p.routes) st n.toNat, nextN st, 0)
 else (ordS (nth p.routes (belowN st p.routes.length).toNat).visits, nextN st, 0)
theorem choose_c (x : Inst) (p : Pln) (kind st n : Int) (hx : InstOk x) (hR : Rm x p) (hx19 : x.orders.length ≤ 19) (hl : p.routes.length ≤ 100) (har : x.net.arcs.length ≤ 1048576) (hn : I64 n) :
  ACalls Tryz.prog 18 [.p (eInst x), .p (ePln p), .p (.int .i64 kind), .p (.int .i64 st), .p (.int .i64 n)] [] fun y H' => y = .tup [.p (.int .i64 ((chsF x p kind st n).1 : Nat)), .p (.int .i64 (chsF x p kind st n).2.1), .p (.int .i64 (chsF x p kind st n).2.2)] ∧ H' = [] := by
 have e61 : pw 61 = 2305843009213693952 := rfl
 refine acalls_weak [] (fn := Tryz.f18) Tryz.func18 rfl isF18 ?_
 simp (disch := omega) only [Tryz.f18, go_sem, seval]
 refine useT (rmServed_c x p hR.n (by have := hR.rl; omega) hR.b) ?_
 cases hk : kno x.orders.length p.routes with
 | false =>
  have e : chsF x p kind st n = (0, 0, 2) := by rw [chsF, if_pos hk]
  rw [e]
  simp (disch := omega) only [go_sem, seval]
  exact ⟨_, _, Weak.mk (by simp (disch := omega) only [go_sem, seval]), rfl, rfl⟩
 | true =>
  have hk' : ¬ kno x.orders.length p.routes = false := by rw [hk]; simp
  rw [if_pos rfl]
  have ha := srvS_lt hk
  have ha61 : srvS p.routes < pw 61 := Nat.lt_of_lt_of_le ha (pw_le (by omega))
  simp (disch := omega) only [go_sem, seval]
  refine aguard_f (fun h1 => ?_) (fun h1 => ?_) <;> (try simp only [decide_eq_true_eq, decide_eq_false_iff_not] at h1) <;> simp (disch := omega) only [Sh.out h1, go_sem, seval]
  ·have e : chsF x p kind st n = (0, 0, 8) := by rw [chsF, if_neg hk', if_pos (.inl h1)]
   rw [e]
   exact ⟨_, _, Weak.mk (by simp (disch := omega) only [go_sem, seval]), rfl, rfl⟩
  ·refine acond_b (fun h2 => ?_) (fun h2 => ?_) <;> (try simp only [decide_eq_true_eq, decide_eq_false_iff_not] at h2) <;> simp (disch := omega) only [Sh.out h2, go_sem, seval]
   ·have e : chsF x p kind st n = (0, 0, 8) := by rw [chsF, if_neg hk', if_pos (.inr h2)]
    rw [e]
    exact ⟨_, _, Weak.mk (by simp (disch := omega) only [go_sem, seval]), rfl, rfl⟩
   ·have c1 : ¬ (kind < 1 ∨ 4 < kind) := by omega
    refine aguard_f (fun h3 => ?_) (fun h3 => ?_) <;> (try simp only [decide_eq_true_eq, decide_eq_false_iff_not] at h3) <;> simp (disch := omega) only [Sh.out h3, go_sem, seval]
    ·have e : chsF x p kind st n = (0, 0, 2) := by rw [chsF, if_neg hk', if_neg c1, if_pos (.inl h3)]
     rw [e]
     exact ⟨_, _, Weak.mk (by simp (disch := omega) only [go_sem, seval]), rfl, rfl⟩
    ·refine acond_b (fun h4 => ?_) (fun h4 => ?_) <;> (try simp only [decide_eq_true_eq, decide_eq_false_iff_not] at h4) <;> simp (disch := omega) only [Sh.out h4, go_sem, seval]
     ·have e : chsF x p kind st n = (0, 0, 2) := by rw [chsF, if_neg hk', if_neg c1, if_pos (.inr h4)]
      rw [e]
      exact ⟨_, _, Weak.mk (by simp (disch := omega) only [go_sem, seval]), rfl, rfl⟩
     ·have c2 : ¬ (n < 1 ∨ 10 < n) := by omega
      refine acond_b (fun h5 => ?_) (fun h5 => ?_) <;> (try simp only [decide_eq_true_eq, decide_eq_false_iff_not] at h5) <;> simp (disch := omega) only [Sh.out h5, go_sem, seval]
      ·have c3 : srvS p.routes = 0 := by omega
       have e : chsF x p kind st n = (0, st, 0) := by rw [chsF, if_neg hk', if_neg c1, if_neg c2, if_pos c3]
       rw [e]
       exact ⟨_, _, Weak.mk (by simp (disch := omega) only [go_sem, seval]), rfl, rfl⟩
      ·have c3 : ¬ srvS p.routes = 0 := by omega
       obtain ⟨m, rfl⟩ : ∃ m : Nat, n = m := ⟨n.toNat, by omega⟩
       have e : chsF x p kind st (m : Int) = if kind = 1 then ((anyF m (srvS p.routes) 0 st).1, (anyF m (srvS p.routes) 0 st).2, 0)
         else if kind = 2 then (dearF x p (srvS p.routes) m, st, 0)
         else if kind = 3 then (nearF x (srvS p.routes) st m, nextN st, 0)
         else (ordS (nth p.routes (belowN st p.routes.length).toNat).visits, nextN st, 0) := by rw [chsF, if_neg hk', if_neg c1, if_neg c2, if_neg c3, Int.toNat_natCast]
       rw [e]
       refine acond_b (fun h6 => ?_) (fun h6 => ?_) <;> (try simp only [decide_eq_true_eq, decide_eq_false_iff_not] at h6) <;> simp (disch := omega) only [Sh.out h6, go_sem, seval]
       ·rw [if_pos h6]
        refine useT (anyone_c (srvS p.routes) st m ha61 (by omega)) ?_
        simp (disch := omega) only [go_sem, seval]
        exact ⟨_, _, Weak.mk (by simp (disch := omega) only [go_sem, seval]), rfl, rfl⟩
       ·rw [if_neg h6]
        refine acond_b (fun h7 => ?_) (fun h7 => ?_) <;> (try simp only [decide_eq_true_eq, decide_eq_false_iff_not] at h7) <;> simp (disch := omega) only [Sh.out h7, go_sem, seval]
        ·rw [if_pos h7]
         refine (dear_c x p (srvS p.routes) m hx hR hx19 hl ha (by omega)).use ?_
         simp (disch := omega) only [go_sem, seval]
         exact ⟨_, _, Weak.mk (by simp (disch := omega) only [go_sem, seval]), rfl, rfl⟩
        ·rw [if_neg h7]
         refine acond_b (fun h8 => ?_) (fun h8 => ?_) <;> (try simp only [decide_eq_true_eq, decide_eq_false_iff_not] at h8) <;> simp (disch := omega) only [Sh.out h8, go_sem, seval]
         ·rw [if_pos h8]
          refine useT (near_c x (srvS p.routes) st m hx19 (by omega) ha (by omega) (by omega) har) ?_
          simp (disch := omega) only [go_sem, seval]
          exact ⟨_, _, Weak.mk (by simp (disch := omega) only [go_sem, seval]), rfl, rfl⟩
         ·rw [if_neg h8]
          have h9 : kind = 4 := by omega
          have hne : 0 < p.routes.length := by
           rcases Nat.eq_zero_or_pos p.routes.length with h | h
           ·rw [List.length_eq_zero_iff.1 h] at c3; exact absurd rfl c3
           ·exact h
          have hb := belowN_rng (s := st) (n := (p.routes.length : Int)) (by omega)
          obtain ⟨j, hj⟩ : ∃ j : Nat, belowN st p.routes.length = j := ⟨_, (Int.toNat_of_nonneg hb.1).symm⟩
          have hjl : j < p.routes.length := by omega
          have cb := rnBelow_c st p.routes.length
          rw [hj] at cb ⊢
          rw [Int.toNat_natCast]
          simp (disch := omega) only [h9, go_sem, seval]
          refine useT cb ?_
          simp (disch := omega) only [go_sem, seval]
          have hkr : knoR x.orders.length (nth p.routes j) = true := List.all_eq_true.1 hk _ (nth_mem hjl)
          have co := seqOrders_c (nth p.routes j) (hR.b _ (nth_mem hjl)).1
          rw [show ordR (nth p.routes j).visits = (((ordS (nth p.routes j).visits : Nat) : Int), 0) by simp [ordR, knoR_inS hR.n hkr]] at co
          refine useT co ?_
          simp (disch := omega) only [go_sem, seval]
          exact ⟨_, _, Weak.mk (by simp (disch := omega) only [go_sem, seval]), rfl, rfl⟩
end Go.Proofs.YtcdoglogglbemaaGreatDoor.K
set_option linter.unusedVariables false
set_option linter.unusedSimpArgs false
namespace Go.Proofs.YtcdoglogglbemaaGreatDoor.K
open Go Go.AM Go.Proofs
set_option maxRecDepth 60000
set_option maxHeartbeats 8000000
theorem few42_c (x : Inst) (hw : x.wf 1048576) (p : Pln) (hp : p.wf 1048576) : ACalls Tryz.prog 11 [.p (eInst x), .p (ePln p)] [] fun y H' => ∃ b : Bool, (b = true → InstOk x ∧ x.orders.length ≤ 4 ∧ p.routes.length ≤ 5 ∧ p.unserved.length ≤ 12) ∧ y = .p (.bool b) ∧ H' = [] := by
 have hpw := hp
 obtain ⟨q1, q2, q3, q4⟩ := hp
 refine ACalls.pureE (acalls_of (fn := Tryz.f11) Tryz.func11 rfl isF11 (awp_sound [] _ _ _ _ ?_))
 simp (disch := omega) only [Tryz.f11, go_sem, seval]
 refine aguard_f (fun h1 => ?_) (fun h1 => ?_) <;> (try simp only [decide_eq_true_eq, decide_eq_false_iff_not] at h1) <;> simp (disch := omega) only [Sh.out h1, go_sem, seval]
 ·exact ⟨false, by simp, rfl⟩
 ·refine aguard_f (fun h2 => ?_) (fun h2 => ?_) <;> (try simp only [decide_eq_true_eq, decide_eq_false_iff_not] at h2) <;> simp (disch := omega) only [Sh.out h2, go_sem, seval]
  ·exact ⟨false, by simp, rfl⟩
  ·refine aguard_f (fun h3 => ?_) (fun h3 => ?_) <;> (try simp only [decide_eq_true_eq, decide_eq_false_iff_not] at h3) <;> simp (disch := omega) only [Sh.out h3, go_sem, seval]
   ·exact ⟨false, by simp, rfl⟩
   ·refine ((ck13_c x hw).frozenE).useV fun m hm => ?_
    simp (disch := omega) only [go_sem, seval]
    have hem := hm.emp
    refine acond_b (fun h4 => ?_) (fun h4 => ?_) <;> (try simp only [decide_eq_true_eq, decide_eq_false_iff_not] at h4) <;> simp (disch := omega) only [Sh.out h4, go_sem, seval]
    ·exact ⟨false, by simp, rfl⟩
    ·have hx : InstOk x := hem.1 (List.length_eq_zero_iff.1 (by omega))
     refine awp_for [3] (fun k : Nat => [(5, .p (.int .i64 (k : Int)))]) (fun _ => [instO x, plnO p]) (fun k => k ≤ p.routes.length) (fun k => p.routes.length - k) 0 (by simp) (Weak.mk ?_) ?_
     ·simp (disch := omega) only [instO, plnO, go_sem, seval]
     ·intro k hk
      simp (disch := omega) only [instO, plnO, go_sem, seval]
      refine acond_b (fun h5 => ?_) (fun h5 => ?_) <;> (try simp only [decide_eq_true_eq, decide_eq_false_iff_not] at h5) <;> simp (disch := omega) only [Sh.out h5, go_sem, seval]
      ·have hk2 : k < p.routes.length := by omega
       obtain ⟨_, _, _, _, w1, _⟩ := q2 _ (nth_mem hk2)
       refine acond_b (fun h6 => ?_) (fun h6 => ?_) <;> (try simp only [decide_eq_true_eq, decide_eq_false_iff_not] at h6) <;> simp (disch := omega) only [Sh.out h6, go_sem, seval]
       ·exact ⟨false, by simp, rfl⟩
       ·exact ⟨k + 1, by omega, by omega, Weak.mk (by simp (disch := omega) only [instO, plnO, go_sem, seval])⟩
      ·exact ⟨true, fun _ => ⟨hx, by omega, by omega, by omega⟩, rfl⟩
def simO (name : List UInt8) : Ord := { name := name, load_c := false, load := [1], pick := ⟨-1, 0, 0, 0⟩, drp := ⟨1, 0, 50, 0⟩, skills := 0, penalty := 0, split := 1, last := -1, now := -1, off := false }
def simI : Inst := { net := { places_c := false, places := [[104, 117, 98], [97, 115, 104]], arcs_c := false, arcs := [⟨0, 1, 0, 10, false, [⟨0, 20⟩], true, []⟩, ⟨1, 0, 0, 10, false, [⟨0, 20⟩], true, []⟩] }, types_c := false, types := [{ name := [118, 97, 110], count := 1, src := 0, dst := 0, cap_c := false, cap := [5], cls := 1000, drive := 1000, opn := 0, rest := 0, skills := 0, fixed := 5, perMile := 1, perTick := 0, prof := 0 }], orders_c := false, orders := [simO [111, 97], simO [111, 98]], apart_c := true, apart := [], before_c := true, before := [] }
def simP : Pln := ⟨false, [⟨0, 0, true, [], false, [⟨0, true⟩, ⟨1, true⟩]⟩], true, []⟩
theorem simOk : InstOk simI := by
 refine ⟨?_, ?_, ?_, ?_⟩
 ·refine ⟨⟨⟨by decide, fun i hi => ?_⟩, by decide⟩, fun i hi => ?_⟩
  ·have : i = 0 ∨ i = 1 := by simp [simI] at hi; omega
   rcases this with rfl | rfl <;> (unfold plOk; decide)
  ·have : i = 0 ∨ i = 1 := by simp [simI] at hi; omega
   rcases this with rfl | rfl <;> (unfold arcOk ptsOk ptOk slowOk; decide)
 ·refine ⟨by decide, fun i hi => ?_⟩
  have : i = 0 := by simp [simI] at hi; omega
  subst this
  unfold typOk
  decide
 ·refine ⟨by decide, fun i hi => ?_⟩
  have : i = 0 ∨ i = 1 := by simp [simI] at hi; omega
  rcases this with rfl | rfl <;> exact ⟨by decide, by decide, by decide, by decide, by decide, by decide, by decide, by decide, by decide, by decide⟩
 ·rfl
theorem lvS_nil {n all set : Nat} (ha : all < pw n) : lvS n [] all set = all &&& set := Nat.eq_of_testBit_eq fun i => by
 have hv : Val n ([] : List (Int × Int)) := fun p hp => by simp at hp
 rw [Bool.eq_iff_iff, lvS_iff hv ha, Nat.testBit_and, Bool.and_eq_true]
 constructor
 ·rintro ⟨h1, j, h2, h3, h4⟩
  rcases h2 with rfl | h2
  ·exact ⟨h1, h3⟩
  ·exfalso
   induction h2 with
   | one h => obtain ⟨p, hp, _⟩ := h; simp at hp
   | more _ h => obtain ⟨p, hp, _⟩ := h; simp at hp
 ·rintro ⟨h1, h2⟩
  exact ⟨h1, i, .inl rfl, h2, h1⟩
theorem sim_gone : goneF simI simP 1 = 1 := by rw [goneF]; exact lvS_nil (n := 2) (all := 3) (set := 1) (by decide)
theorem sim_rm : rmF simI simP 1 = (⟨false, [⟨0, 0, true, [], false, [⟨1, true⟩]⟩], false, [0]⟩, 1, 0) := by
 rw [rmF, sim_gone]
 rfl
def simQ : Pln := ⟨false, [⟨0, 0, true, [], false, [⟨1, true⟩]⟩], false, [0]⟩
theorem sim_R {p : Pln} (h : p = simP ∨ p = simQ) : Rm simI p := by
 refine ⟨by decide, by decide, fun q hq => by simp [simI] at hq, ?_, ?_, ?_⟩
 ·rcases h with rfl | rfl <;> decide
 ·rcases h with rfl | rfl <;> decide
 ·rcases h with rfl | rfl
  ·intro r hr
   simp only [simP, List.mem_cons, List.not_mem_nil, or_false] at hr
   subst hr
   exact ⟨by decide, by decide⟩
  ·intro r hr
   simp only [simQ, List.mem_cons, List.not_mem_nil, or_false] at hr
   subst hr
   exact ⟨by decide, by decide⟩
theorem sim_rm2 : rmF simI simP 1 = (simQ, 1, 0) := sim_rm
theorem sim_gone2 : goneF simI simQ ((pw 1 : Nat) : Int) = 2 := by rw [goneF]; exact lvS_nil (n := 2) (all := 2) (set := 2) (by decide)
theorem sim_prc : prcF simI ⟨0, 0, true, [], false, [⟨1, true⟩]⟩ = (419430400, 0) := by kernel_rfl
theorem sim_tot : totF simI simQ.routes = (419430400, 0) := by
 rw [totF_no (x := simI) (l := simQ.routes)]
 ·show (0 + (prcF simI ⟨0, 0, true, [], false, [⟨1, true⟩]⟩).1, (0 : Int)) = _
  rw [sim_prc]
  rfl
 ·intro j hj
  have : j = 0 := by simp [simQ] at hj; omega
  subst this
  show (prcF simI ⟨0, 0, true, [], false, [⟨1, true⟩]⟩).2 = 0
  rw [sim_prc]
theorem sim_sav : savF simI simQ 1 = (419430400, 0) := by
 have h1 : ¬ (askB simI simQ = false ∨ (1 : Int) < 0 ∨ (simI.orders.length : Int) ≤ 1) := by decide
 have h2 : ¬ (srvS simQ.routes).testBit (1 : Int).toNat = false := by decide
 have h3 : goneF simI simQ ((pw (1 : Int).toNat : Nat) : Int) = 2 := sim_gone2
 have h4 : totF simI (leftR 2 simQ.routes) = (0, 0) := rfl
 rw [savF, if_neg h1, if_neg h2, sim_tot, h3, h4]
 rfl
theorem sim_chs : chsF simI simP 4 1 1 = (3, 48271, 0) := by
 have h1 : ¬ kno simI.orders.length simP.routes = false := by decide
 have h2 : ¬ srvS simP.routes = 0 := by decide
 rw [chsF, if_neg h1, if_neg (by decide), if_neg (by decide), if_neg h2, if_neg (by decide), if_neg (by decide), if_neg (by decide)]
 rfl
theorem simple42_c : ACalls Tryz.prog 35 [] [] fun y H' => y = .tup [.p (eInst simI), .p (ePln simP)] ∧ H' = [] := by
 refine acalls_weak [2, 7, 8] (fn := Tryz.f35) Tryz.func35 rfl isF35 ?_
 simp (disch := omega) only [Tryz.f35, go_sem, seval]
 refine awp_weak (Weak.fz (o := 2) (by rfl)) ?_
 refine awp_sound [7, 8] _ _ _ _ ?_
 simp (disch := omega) only [List.map_cons, List.map_nil, List.set_cons_succ, List.set_cons_zero, go_sem, seval]
 refine awp_weak (Weak.fz (o := 3) (by rfl)) ?_
 refine awp_weak (Weak.fz (o := 4) (by rfl)) ?_
 refine awp_weak (Weak.fz (o := 6) (by rfl)) ?_
 refine awp_weak (Weak.fz (o := 9) (by rfl)) ?_
 refine awp_sound [8] _ _ _ _ ?_
 simp (disch := omega) only [List.map_cons, List.map_nil, List.set_cons_succ, List.set_cons_zero, go_sem, seval]
 refine awp_weak ((Weak.fz (o := 11) (by rfl)).trans (Weak.fz (o := 12) (by rfl))) ?_
 refine awp_seq (awp_mid2 4 2 ?_)
 simp (disch := omega) only [List.map_cons, List.map_nil, List.set_cons_succ, List.set_cons_zero, List.cons_append, List.nil_append, go_sem, seval]
 refine ⟨_, _, Weak.fz (o := 14) (by rfl), ?_⟩
 simp (disch := omega) only [List.map_cons, List.map_nil, List.set_cons_succ, List.set_cons_zero, List.cons_append, List.nil_append, go_sem, seval]
 refine ⟨_, _, Weak.fz (o := 15) (by rfl), ?_⟩
 simp (disch := omega) only [List.map_cons, List.map_nil, List.set_cons_succ, List.set_cons_zero, List.cons_append, List.nil_append, go_sem, seval]
 refine awp_sound [] _ _ _ _ ?_
 simp (disch := omega) only [go_sem, seval]
 exact ⟨_, _, Weak.mk (by simp (disch := omega) only [simI, simP, simO, List.map_cons, List.map_nil, go_sem, seval]), rfl, rfl⟩
theorem awake42_c : ACalls Tryz.prog 12 [] [] fun y H' => y = .p (.bool true) ∧ H' = [] := by
 have har : simI.net.arcs.length ≤ 1048576 := by decide
 have c1 := rmOrders_c simI simP 1 (sim_R (.inl rfl)) ⟨by decide, by decide⟩
 rw [sim_rm2] at c1
 dsimp only at c1
 have c2 := saved_c simI simQ 1 simOk (sim_R (.inr rfl)) (by decide) ⟨by decide, by decide⟩
 rw [sim_sav] at c2
 dsimp only at c2
 have c3 := choose_c simI simP 4 1 1 simOk (sim_R (.inl rfl)) (by decide) (by decide) har ⟨by decide, by decide⟩
 rw [sim_chs] at c3
 dsimp only at c3
 refine acalls_pure (fn := Tryz.f12) Tryz.func12 rfl isF12 ?_
 simp (disch := omega) only [Tryz.f12, go_sem, seval]
 refine useT simple42_c ?_
 simp (disch := omega) only [go_sem, seval]
 have e1 : simQ.routes.length = 1 := rfl
 have e2 : (nth simQ.routes 0).visits.length = 1 := rfl
 have e3 : simQ.unserved.length = 1 := rfl
 refine useT3 c1 ?_
 simp (disch := omega) only [go_sem, seval]
 refine useT c2 ?_
 simp (disch := omega) only [go_sem, seval]
 refine useT3 c3 ?_
 simp (disch := omega) only [e1, e2, e3, go_sem, seval]
 done
end Go.Proofs.YtcdoglogglbemaaGreatDoor.K
set_option linter.unusedVariables false
set_option linter.unusedSimpArgs false
namespace Go.Proofs.YtcdoglogglbemaaGreatDoor.K
open Go Go.AM Go.Proofs
set_option maxRecDepth 60000
set_option maxHeartbeats 8000000
theorem rm_of {x : Inst} {p : Pln} (hx : InstOk x) (hw : x.wf 1048576) (hp : p.wf 1048576) (h1 : p.routes.length ≤ 5) (h2 : p.unserved.length ≤ 12) : Rm x p :=
 ⟨by have := ord10 hx; omega, by obtain ⟨_, _, _, _, _, _, _, w8, _⟩ := hw; exact w8, (instFacts hx).val, by omega, by omega, pln_rte hp⟩
theorem routes42_c (r : Rte) (hb : rteB r) : ACalls Tryz.prog 15 [.p (eRte r), .p (eRte r)] [] fun y H' => y = .p (.bool true) ∧ H' = [] := by
 obtain ⟨b1, b2⟩ := hb
 refine acalls_pure (fn := Tryz.f15) Tryz.func15 rfl isF15 ?_
 simp (disch := omega) only [Tryz.f15, go_sem, seval]
 refine awp_for [2, 3] (fun k : Nat => [(5, .p (.int .i64 (k : Int)))]) (fun _ => [rteO r, rteO r]) (fun k => k ≤ r.visits.length) (fun k => r.visits.length - k) 0 (by simp) (Weak.mk ?_) ?_
 ·simp (disch := omega) only [rteO, go_sem, seval]
 ·intro k hk
  simp (disch := omega) only [rteO, go_sem, seval]
  refine acond_b (fun h1 => ?_) (fun h1 => ?_) <;> (try simp only [decide_eq_true_eq, decide_eq_false_iff_not] at h1) <;> simp (disch := omega) only [Sh.out h1, go_sem, seval]
  ·have hk2 : k < r.visits.length := by omega
   refine awp_drawnA mixed (by kernel_rfl) (by kernel_rfl) ?_
   simp (disch := omega) only [go_sem, seval]
   exact ⟨k + 1, by omega, by omega, Weak.mk (by simp (disch := omega) only [rteO, go_sem, seval])⟩
  ·refine awp_for [2, 3] (fun k : Nat => [(6, .p (.int .i64 (k : Int)))]) (fun _ => [rteO r, rteO r]) (fun k => k ≤ r.rests.length) (fun k => r.rests.length - k) 0 (by simp) (Weak.mk ?_) ?_
   ·simp (disch := omega) only [rteO, go_sem, seval]
   ·intro k hk
    simp (disch := omega) only [rteO, go_sem, seval]
    refine acond_b (fun h2 => ?_) (fun h2 => ?_) <;> (try simp only [decide_eq_true_eq, decide_eq_false_iff_not] at h2) <;> simp (disch := omega) only [Sh.out h2, go_sem, seval]
    ·have hk2 : k < r.rests.length := by omega
     refine awp_drawnA mixed (by kernel_rfl) (by kernel_rfl) ?_
     simp (disch := omega) only [go_sem, seval]
     exact ⟨k + 1, by omega, by omega, Weak.mk (by simp (disch := omega) only [rteO, go_sem, seval])⟩
theorem rmF_b {x : Inst} {p : Pln} {s : Int} (h : Rm x p) : (rmF x p s).1.routes.length ≤ 1048576 ∧ (rmF x p s).1.unserved.length ≤ 63 ∧ ∀ r ∈ (rmF x p s).1.routes, rteB r := by
 unfold rmF
 split
 ·exact ⟨Nat.le_trans leftR_len h.rl, memU_len _ _, left_b h.b⟩
 ·exact ⟨by simp [zPln], by simp [zPln], by simp [zPln]⟩
theorem lawRmOrders_c (x : Inst) (hw : x.wf 1048576) (p : Pln) (hp : p.wf 1048576) (s : Int) (hs : I64 s) : ACalls Tryz.prog 3 [.p (eInst x), .p (ePln p), .p (.int .i64 s)] [] fun y H' => y = .p (.bool true) ∧ H' = [] := by
 refine acalls_pure (fn := Tryz.f3) Tryz.func3 rfl isF3 ?_
 simp (disch := omega) only [Tryz.f3, go_sem, seval]
 refine (few42_c x hw p hp).useV fun b hb => ?_
 simp (disch := omega) only [go_sem, seval]
 refine acond_b (fun h1 => ?_) (fun h1 => ?_) <;> (try simp only [decide_eq_true_eq, decide_eq_false_iff_not] at h1) <;> simp (disch := omega) only [Sh.out h1, go_sem, seval]
 ·refine (awake42_c).use ?_
  simp (disch := omega) only [go_sem, seval]
 ·obtain ⟨hx, g1, g2, g3⟩ := hb (by simpa using h1)
  have hR := rm_of hx hw hp g2 g3
  obtain ⟨v1, v2, v3⟩ := rmF_b (s := s) hR
  refine useT3 (rmOrders_c x p s hR hs) ?_
  simp (disch := omega) only [go_sem, seval]
  refine useT3 (orders42_c x p s hR hs) ?_
  generalize (rmF x p s).1 = Q at *
  generalize ((rmF x p s).2.1 : Nat) = G at *
  generalize (rmF x p s).2.2 = E at *
  simp (disch := omega) only [go_sem, seval]
  refine awp_for [7, 10] (fun k : Nat => [(13, .p (.int .i64 (k : Int)))]) (fun _ => [instO x, plnO p, plnO Q, plnO Q]) (fun k => k ≤ Q.unserved.length) (fun k => Q.unserved.length - k) 0 (by simp) (Weak.mk ?_) ?_
  ·simp (disch := omega) only [instO, plnO, go_sem, seval]
  ·intro k hk
   simp (disch := omega) only [instO, plnO, go_sem, seval]
   refine acond_b (fun h2 => ?_) (fun h2 => ?_) <;> (try simp only [decide_eq_true_eq, decide_eq_false_iff_not] at h2) <;> simp (disch := omega) only [Sh.out h2, go_sem, seval]
   ·have hk2 : k < Q.unserved.length := by omega
    refine awp_drawnA mixed (by kernel_rfl) (by kernel_rfl) ?_
    simp (disch := omega) only [go_sem, seval]
    exact ⟨k + 1, by omega, by omega, Weak.mk (by simp (disch := omega) only [instO, plnO, go_sem, seval])⟩
   ·refine awp_for [7, 10] (fun k : Nat => [(14, .p (.int .i64 (k : Int)))]) (fun _ => [instO x, plnO p, plnO Q, plnO Q]) (fun k => k ≤ Q.routes.length) (fun k => Q.routes.length - k) 0 (by simp) (Weak.mk ?_) ?_
    ·simp (disch := omega) only [instO, plnO, go_sem, seval]
    ·intro k hk
     simp (disch := omega) only [instO, plnO, go_sem, seval]
     refine acond_b (fun h3 => ?_) (fun h3 => ?_) <;> (try simp only [decide_eq_true_eq, decide_eq_false_iff_not] at h3) <;> simp (disch := omega) only [Sh.out h3, go_sem, seval]
     ·have hk2 : k < Q.routes.length := by omega
      refine awp_drawnA mixed (by kernel_rfl) (by kernel_rfl) ?_
      simp (disch := omega) only [go_sem, seval]
      refine exq_call (routes42_c (nth Q.routes k) (v3 _ (nth_mem hk2))) ?_
      simp (disch := omega) only [go_sem, seval]
      exact ⟨k + 1, by omega, by omega, Weak.mk (by simp (disch := omega) only [instO, plnO, go_sem, seval])⟩
     ·refine (awake42_c).use ?_
      simp (disch := omega) only [go_sem, seval]
end Go.Proofs.YtcdoglogglbemaaGreatDoor.K
