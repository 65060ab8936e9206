/- Declarations that the closing texts need, part 17: joined by tools/slim.py. -/
import Derived.Test.YtcdoglogglbemaaGreatDoorZa16
import Derived.Shelf.Slices.In.SortNone
import Derived.Shelf.Sort.Plain
set_option linter.unusedVariables false
set_option linter.unusedSimpArgs false
namespace Go.AM
open Go.RowKit Go.Shelf Go.Lib Go.Sort Go.Proofs
theorem ACalls.sortInts {P : Program} {ρ : Ren} (L : Lays.n189 P ρ) (hg : Zg P (ρ.f 189)) (l : List Int) (hlen : l.length < 4611686018427387904) {H : List AM.Obj} {o : Nat} (hHo : H[o]? = some (.elems 1 (l.map (PV.int .i64)))) :
  ACalls P (ρ.f 189) [.sl o 0 l.length l.length] H fun y H' => y = .tup [] /\ H' = H.set o (.elems 1 ((l.mergeSort fun x y => decide (x <= y)).map (PV.int .i64))) := by
 refine ⟨hg, fun F ι w vs hr hv => ?_⟩;obtain ⟨hv1, hv2⟩ := hv;have h0 := hv2 0 _ rfl
 have hvs : vs = #[vs.getD 0 undef] := by
  apply Array.ext
  ·simpa using hv1
  ·intro i h2 h3
   have : i = 0 := by simp at h3; omega
   subst this;simp [Array.getD, h2]
 rw [hvs];generalize vs.getD 0 undef = v0 at h0 ⊢;clear hvs hv1 hv2;have hol := (List.getElem?_eq_some_iff.1 hHo).1;generalize hL : l.length = n at h0 hlen
 by_cases hn : n = 0
 ·subst hn;have hl0 : l = [] := List.length_eq_zero_iff.1 hL;subst hl0
  have e1 : H.set o (.elems 1 ((([] : List Int).mergeSort fun x y => decide (x <= y)).map (PV.int .i64))) = H := by
   apply List.ext_getElem?;intro i;rw [List.getElem?_set]
   split
   ·rename_i hi; subst hi; rw [hHo]; simp
   ·rfl
  obtain ⟨ad, cap, rfl⟩ : ∃ ad cap, v0 = .slice ad 0 cap := by
   cases h0 with
   | slNil => exact ⟨_, _, rfl⟩
   | sl => exact ⟨_, _, rfl⟩
   | slD _ _ _ _ _ hd => rw [hHo] at hd; cases hd
   | slS _ _ _ _ _ S2 xs2 hd hne => rw [hHo] at hd; simp at hd; obtain ⟨_, rfl⟩ := hd; simp at hne
   | slC _ _ _ _ _ _ hd => rw [hHo] at hd; cases hd
  refine (Any.slices_Sort_int_none L ad cap w).mono ?_;rintro e w' ⟨rfl, rfl⟩;exact ⟨.tup [], _, ι, _, rfl, ⟨rfl, e1.symm⟩, Good.refl hr, .tup [] #[] (by simp) (by simp)⟩
 cases h0 with
 | slNil => omega
 | slD _ _ _ _ _ hd => rw [hHo] at hd; cases hd
 | slS _ _ _ _ _ S ys hd hlt => rw [hHo] at hd; simp at hd; obtain ⟨_, rfl⟩ := hd; simp at hlt; omega
 | slC _ _ _ _ _ _ hd => rw [hHo] at hd; cases hd
 | sl _ _ _ _ b S cap t ys c hι hH ht2 hw hcap hl hle hm =>
 rw [hHo] at hH;simp at hH;obtain ⟨rfl, rfl⟩ := hH;rcases hr.elm o 1 (l.map (PV.int .i64)) hHo with ⟨e1, _⟩ | ⟨b2, c2, t2, cap2, e1, e2, e3, e4, e5, e6, e7⟩
 ·rw [hι] at e1; cases e1
 rw [hι] at e1;simp at e1; subst e1;rw [hw] at e2;simp at e2;obtain ⟨rfl, rfl⟩ := e2;have hbs : b < w.heap.size := (hr.avo o b hι).2;simp only [List.length_map, Nat.mul_one] at e3 e4 hcap
 have cell : ∀ i (hi : i < n), c.getD i undef = .int .i64 (l[i]'(by omega)) := fun i hi => by
  have := e7 i (.int .i64 (l[i]'(by omega))) 0 (.int .i64 (l[i]'(by omega))) (by simp [hL, hi]) (by rfl);simp only [Nat.mul_one, Nat.add_zero] at this;exact this.int_inv
 have hHolds : Holds (Value.int .i64) w b (0 * 1) l.toArray := fun j hj => by
  have hj2 : j < n := by simpa [hL] using hj
  have hjc : j < c.size := by omega
  refine ⟨?_, by simp [World.frozen?, hw]⟩;have e9 := cell j hj2;simp only [Array.getD_eq_getD_getElem?, hjc, getElem?_pos, Option.getD_some] at e9;simp [World.cell?, hw, hjc, e9, hj2, hL]
 have main := Any.slices_Sort_int L b (0 * 1) cap l w hHolds hbs (by omega);rw [hL] at main;refine main.mono ?_;rintro e' w' ⟨rfl, m, os, rfl⟩;generalize hS : (l.mergeSort fun x y => decide (x <= y)) = s
 have hsl : s.length = n := by rw [<- hS, (List.mergeSort_perm l _).length_eq, hL]
 have hat : (grow (putRow (Value.int .i64) (Sort.ahead w m) b (0 * 1) s.toArray) os).heap[b]? = some (.cells (putCells (Value.int .i64) 0 s.toArray c) t (0, 0)) := by
  simp only [grow, putRow, mapBlock, Sort.ahead];rw [Array.getElem?_append_left (by simpa using hbs), Array.getElem?_modify, if_pos rfl, hw]
  rfl
 have hother : ∀ k, k < w.heap.size -> k ≠ b -> (grow (putRow (Value.int .i64) (Sort.ahead w m) b (0 * 1) s.toArray) os).heap[k]? = w.heap[k]? := fun k hk hne => by
  simp only [grow, putRow, mapBlock, Sort.ahead];rw [Array.getElem?_append_left (by simpa using hk), Array.getElem?_modify, if_neg (fun e => hne e.symm)]
 have hcs : (putCells (Value.int .i64) 0 s.toArray c).size = c.size := by simp [putCells]
 have g := Xa (xs' := s.map (PV.int .i64)) (w' := grow (putRow (Value.int .i64) (Sort.ahead w m) b (0 * 1) s.toArray) os) (cap := cap2) hr hHo rfl (Tp.of rfl (by simp [grow, putRow, mapBlock, Sort.ahead])) rfl
  (fun c0 t0 hc0 => by rw [hw] at hc0; simp at hc0; obtain ⟨rfl, rfl⟩ := hc0; exact ⟨rfl, hcs⟩) (by simp [grow, putRow, mapBlock, Sort.ahead]) hat hother
  (.inl ⟨hι, .inl ⟨by simp [hsl, hL], fun c0 t0 hc0 => by rw [hw] at hc0; simp at hc0; obtain ⟨rfl, rfl⟩ := hc0; exact ⟨rfl, hcs⟩⟩⟩)
  (by rw [hcs, e3, Nat.mul_one]) (by simp; omega) e5 (fun i x hi => by
   rw [List.getElem?_map] at hi;obtain ⟨y, _, rfl⟩ := Option.map_eq_some_iff.1 hi
   rfl) (fun i x j y hi hj => by
   rw [List.getElem?_map] at hi;obtain ⟨q, hq, rfl⟩ := Option.map_eq_some_iff.1 hi
   have hj0 : j = 0 := by have := (List.getElem?_eq_some_iff.1 hj).1; simpa [PV.cells] using this
   subst hj0;simp [PV.cells] at hj; subst hj;have hil := (List.getElem?_eq_some_iff.1 hq).1
   have hic : i < c.size := by omega
   have e9 : (putCells (Value.int .i64) 0 s.toArray c).getD (i * 1 + 0) undef = .int .i64 q := by
    have hg := (List.getElem?_eq_some_iff.1 hq).2;simp [putCells, Array.getD_eq_getD_getElem?, hic, hil, hg]
   rw [e9]
   exact .int _ _)
 have eι : ι.set o (some b) = ι := by
  apply List.ext_getElem?;intro i;rw [List.getElem?_set];have hιl := (List.getElem?_eq_some_iff.1 hι).1
  split
  ·rename_i hi; subst hi; rw [hι]
  ·rfl
 exact ⟨.tup [], _, _, _, rfl, ⟨rfl, rfl⟩, g, .tup [] #[] (by simp) (by simp)⟩
end Go.AM
set_option linter.unusedVariables false
set_option linter.unusedSimpArgs false
namespace Go.Proofs.YtcdoglogglbemaaGreatDoor.K
open Go Go.AM Go.Proofs
set_option maxRecDepth 8000
set_option maxHeartbeats 8000000
theorem ZxW : QG Tryz.prog 73 = some (.agg [.int .i64 0, .bool false]) := by kernel_rfl
theorem ZyL : QG Tryz.prog 3 = some (.int .i64 0) := by kernel_rfl
@[go_sem] theorem ZCt {H : List AM.Obj} {o off len tot : Nat} : Uq Tryz.prog H 42 (.sl o off len tot) = Znq 2 (.agg [.int .i64 0, .bool false]) H (oat H o) o off len tot := Q4 Tryz.underlying42 ZxW rfl rfl
@[go_sem] theorem ZCy {H : List AM.Obj} {o off len tot : Nat} : Uq Tryz.prog H 32 (.sl o off len tot) = Znq 1 (.int .i64 0) H (oat H o) o off len tot := Q4 Tryz.underlying32 ZyL rfl rfl
theorem ZyD (k : Nat) : List.replicate k (PV.agg [.int .i64 0, .bool false]) = (List.replicate k (⟨0, false⟩ : Vis)).map eVis := by rw [List.map_replicate]; rfl
theorem Zxd (k : Nat) : List.replicate k (PV.int .i64 0) = (List.replicate k (0 : Int)).map eI := by rw [List.map_replicate]; rfl
def slV (o k n : Nat) : V := if k = 0 /\ 0 < n then .p (.list false []) else .sl o 0 k n
def rmH (x : Inst) (p : Pln) (g : Nat) (R : List Rte) (r : Rte) (m : List Vis) : List AM.Obj :=
 [Zb x, ZB p, .cells [.p (.list true []), .p (.list true [])], .cells [.p (.int .i64 (g : Int))], .cells [.sl 5 0 R.length R.length, .p (.list true [])], .elems 4 (R.map Yq), Zw r, .elems 2 (m.map eVis)]
def goB (g : Nat) (v : Vis) : Bool := g.testBit v.order.toNat
theorem Zj4 (x : Inst) (p : Pln) (g : Nat) (R : List Rte) (r : Rte) (m : List Vis) (v : Vis) (hv : 0 <= v.order /\ v.order <= 62) :
  ACalls Tryz.prog 40 [.p (eVis v), .ptr 3 0] (rmH x p g R r m) fun y H' => y = .p (.bool (goB g v)) /\ H' = rmH x p g R r m := by
 refine Zc [] Tryz.func40 rfl Zza ?_;simp (disch := omega) only [Tryz.f40, rmH, Zb, ZB, Zw, go_sem, seval];refine (Zkm (g : Int) v.order).use ?_;simp (disch := omega) only [go_sem, seval];obtain ⟨n, hn⟩ : ∃ n : Nat, v.order = n := ⟨v.order.toNat, by omega⟩
 have e : ZfN (g : Int) v.order = goB g v := by rw [goB, hn, X2 g n (by omega)]; rfl
 rw [e];exact we (by simp (disch := omega) only [rmH, Zb, ZB, Zw, go_sem, seval])
theorem ZmH (x : Inst) (p : Pln) (g : Nat) (R : List Rte) (r : Rte) (m : List Vis) (hl : m.length <= 1048576) (hm : ∀ v ∈ m, 0 <= v.order /\ v.order <= 62) :
  ACalls Tryz.prog 104 [.sl 7 0 m.length m.length, .fn (.func 40) [] [.ptr 3 0]] (rmH x p g R r m) fun y H' => y = .p (.int .i64 (fIx (goB g) m)) /\ H' = rmH x p g R r m := by
 refine Zc [] Tryz.func104 rfl ZjQ ?_;simp (disch := omega) only [Tryz.f104, rmH, Zb, ZB, Zw, go_sem, seval];refine Zf [0, 1, 7] (fun k : Nat => [(8, .p (.int .i64 k))]) (fun _ => rmH x p g R r m) (fun k => k <= m.length /\ ∀ j, j < k -> goB g (nth m j) = false) (fun k => m.length - k) 0 (by simp) (Weak.mk ?_) ?_
 ·simp (disch := omega) only [rmH, Zb, ZB, Zw, go_sem, seval]
 ·rintro k ⟨hk, hno⟩;simp (disch := omega) only [rmH, Zb, ZB, Zw, go_sem, seval];refine cD ?_ ?_ <;> intro h <;> simp (disch := omega) only [Sh.out h, go_sem, seval]
  ·have hk2 : k < m.length := by omega
   simp (disch := first | omega | (simp only [List.length_cons, List.length_nil, List.length_append, List.length_map, List.length_take, List.length_drop] <;> omega)) only [Xb hk2, hk2, if_true, go_sem, seval];refine (Zj4 x p g R r m (nth m k) (hm _ (Zi hk2))).useH ?_;simp (disch := omega) only [go_sem, seval];refine cD ?_ ?_ <;> intro h2 <;> simp (disch := omega) only [Sh.out h2, go_sem, seval]
   ·rw [Zai hk2 h2 hno];exact we (by simp (disch := omega) only [rmH, Zb, ZB, Zw, go_sem, seval])
   ·exact ⟨k + 1, ⟨by omega, Zh.2 ⟨hno, by simpa using h2⟩⟩, by omega, Weak.mk (by simp (disch := omega) only [rmH, Zb, ZB, Zw, go_sem, seval])⟩
  ·have hkl : k = m.length := by omega
   subst hkl;rw [Zcq hno];exact we (by simp (disch := omega) only [rmH, Zb, ZB, Zw, go_sem, seval])
theorem ZkP {f : Vis -> Bool} {l : List Vis} (h : fIx f l = -1) : ∀ v ∈ l, f v = false := fun v hv => by
 have := Zb1 (f := f) (l := l);rw [h] at this
 have h2 : l.any f = false := by rw [<- this]; rfl
 simpa using List.any_eq_false.1 h2 v hv
theorem Zmi {f : Vis -> Bool} {l : List Vis} (h : ¬ fIx f l = -1) : ∃ i : Nat, fIx f l = (i : Int) /\ i < l.length /\ f (nth l i) = true /\ ∀ j, j < i -> f (nth l j) = false := by
 unfold fIx at h ⊢
 cases hi : l.findIdx? f with
 | none => rw [hi] at h; simp at h
 | some i =>
  rw [List.findIdx?_eq_some_iff_getElem] at hi;obtain ⟨h1, h2, h3⟩ := hi;exact ⟨i, rfl, h1, by rw [Ze h1]; exact h2, fun j hj => by rw [Ze (by omega)]; simpa using h3 j hj⟩
theorem Zd5 {f : Vis -> Bool} {l : List Vis} (h : ∀ v ∈ l, f v = false) : l.filter (fun v => !f v) = l := by
 rw [List.filter_eq_self]; intro v hv; rw [h v hv]; rfl
theorem W1 {f : Vis -> Bool} {l : List Vis} {k : Nat} (h : k < l.length) : (l.take (k + 1)).filter (fun v => !f v) = (l.take k).filter (fun v => !f v) ++ if f (nth l k) = true then [] else [nth l k] := by
 rw [List.take_succ_eq_append_getElem h, List.filter_append, Ze h]
 congr 1
 cases c : f l[k] <;> simp [c]
theorem ZiD (x : Inst) (p : Pln) (g : Nat) (R : List Rte) (r : Rte) (m : List Vis) (hl : m.length <= 1048576) (hm : ∀ v ∈ m, 0 <= v.order /\ v.order <= 62) :
  ACalls Tryz.prog 38 [.sl 7 0 m.length m.length, .fn (.func 40) [] [.ptr 3 0]] (rmH x p g R r m) fun y H' => ∃ (M : List Vis) (k : Nat), M.length = m.length /\ k <= m.length /\ M.take k = m.filter (fun v => !goB g v) /\ y = slV 7 k m.length /\ H' = rmH x p g R r M := by
 refine Zc [12] Tryz.func38 rfl Zzc ?_;simp (disch := omega) only [Tryz.f38, rmH, Zb, ZB, Zw, go_sem, seval];refine (ZmH x p g R r m hl hm).useH ?_;simp (disch := omega) only [go_sem, seval];refine cD ?_ ?_ <;> intro h <;> simp (disch := omega) only [Sh.out h, go_sem, seval]
 ·exact ⟨.sl 7 0 m.length m.length, rmH x p g R r m, Weak.mk (by simp (disch := omega) only [rmH, Zb, ZB, Zw, go_sem, seval]), m, m.length, rfl, Nat.le_refl _, by rw [List.take_length, Zd5 (ZkP h)], by rw [slV, if_neg (by omega)], rfl⟩
 ·obtain ⟨i0, e0, h1, h2, h3⟩ := Zmi h;rw [e0];simp (disch := omega) only [go_sem, seval]
  refine ZI [12] [0, 1] (fun q : Nat × Nat × List Vis => [(5, .p (.int .i64 q.1)), (6, .p (.int .i64 q.2.1))]) (fun q => rmH x p g R r q.2.2)
   (fun q => q.1 < q.2.1 /\ q.2.1 <= m.length /\ q.2.2.length = m.length /\ q.2.2.take q.1 = (m.take q.2.1).filter (fun v => !goB g v) /\ ∀ j, q.2.1 <= j -> j < m.length -> nth q.2.2 j = nth m j) (fun q => m.length - q.2.1) (i0, i0 + 1, m) ⟨by simp, by simp only; omega, rfl, ?_, fun _ _ _ => rfl⟩ (Weak.mk ?_) ?_
  ·simp only;rw [W1 h1, if_pos h2, List.append_nil]
   symm
   rw [List.filter_eq_self];intro v hv;obtain ⟨j, hj, rfl⟩ := List.mem_iff_getElem.1 hv;simp at hj;have := h3 j (by omega);rw [Ze (by omega)] at this;rw [List.getElem_take, this]; rfl
  ·simp (disch := omega) only [rmH, Zb, ZB, Zw, go_sem, seval]
  ·clear h1 h2 h3 e0 h;rintro ⟨i, j, M⟩ ⟨q1, q2, q3, q4, q5⟩;simp only at q1 q2 q3 q4 q5;simp (disch := omega) only [rmH, Zb, ZB, Zw, q3, go_sem, seval];refine cD ?_ ?_ <;> intro h4 <;> simp (disch := omega) only [Sh.out h4, go_sem, seval]
   ·have hj : j < m.length := by omega
    have hjM : j < M.length := by omega
    have hi : i < M.length := by omega
    have hf := W1 (f := goB g) hj
    have e1 : elt (M.map eVis) j = eVis (nth m j) := by rw [Xb hjM, q5 j (Nat.le_refl _) hj]
    simp (disch := first | omega | (simp only [List.length_cons, List.length_nil, List.length_append, List.length_map, List.length_take, List.length_drop] <;> omega)) only [e1, q3, hj, if_true, go_sem, seval];refine ACalls.useP (L := [_]) (Zj4 x p g R r M (nth m j) (hm _ (Zi hj))) rfl ?_ (by rfl) ?_
    ·simp (disch := omega) only [go_sem, seval];generalize hgb : goB g (nth m j) = gb at hf ⊢
     cases gb with
     | true =>
      simp (disch := omega) only [go_sem, seval];rw [if_pos rfl, List.append_nil] at hf;exact ⟨(i, j + 1, M), ⟨by simp only; omega, by simp only; omega, q3, by simp only; rw [q4, hf], fun k hk h => q5 k (by simp only at hk; omega) h⟩, by simp only; omega, Weak.mk (by simp (disch := omega) only [rmH, Zb, ZB, Zw, go_sem, seval])⟩
     | false =>
      simp (disch := first | omega | (simp only [List.length_cons, List.length_nil, List.length_append, List.length_map, List.length_take, List.length_drop] <;> omega)) only [rmH, Zb, ZB, Zw, List.cons_append, List.nil_append, q3, hi, hj, if_true, go_sem, seval];rw [if_neg (by simp)] at hf
      have ZC : (M.map eVis).set i (.agg [.int .i64 (nth m j).order, .bool (nth m j).drp]) = (M.set i (nth m j)).map eVis := by rw [List.map_set]; rfl
      refine ⟨(i + 1, j + 1, M.set i (nth m j)), ⟨by simp only; omega, by simp only; omega, by simp only [List.length_set]; exact q3, ?_, fun k hk h => ?_⟩, by simp only; omega, Weak.mk (by simp (disch := omega) only [rmH, Zb, ZB, Zw, ZC, go_sem, seval])⟩
      ·simp only;rw [List.take_succ_eq_append_getElem (by simpa using hi), List.take_set_of_le (Nat.le_refl _), List.getElem_set_self, q4, hf]
      ·simp only at hk ⊢;rw [Ze (by simp; omega), List.getElem_set_ne (by omega), <- Ze (by omega)];exact q5 k (by omega) h
    ·simp [rmH, refH, Zb, ZB, Zw, refB, refBs]
   ·have hjl : j = m.length := by omega
    subst hjl;rw [List.take_length] at q4
    have hi : i < M.length := by omega
    obtain ⟨M', hM'⟩ : ∃ M' : List Vis, M' = M.take i ++ List.replicate (m.length - i) ⟨0, false⟩ ++ M.drop (i + (m.length - i)) := ⟨_, rfl⟩
    have hme : List.take i (M.map eVis) ++ (List.replicate (m.length - i) (⟨0, false⟩ : Vis)).map eVis ++ List.drop (i + (m.length - i)) (M.map eVis) = M'.map eVis := by rw [hM', List.map_append, List.map_append, List.map_take, List.map_drop]
    have hml : M'.length = m.length := by rw [hM']; simp; omega
    have hmt : M'.take i = m.filter fun v => !goB g v := by
     rw [hM', List.append_assoc, List.take_append_of_le_length (by simp; omega), List.take_take, Nat.min_self]; exact q4
    simp (disch := first | omega | (simp only [List.length_cons, List.length_nil, List.length_append, List.length_map, List.length_take, List.length_drop] <;> omega)) only [q3, if_true, ZyD, hme, go_sem, seval]
    by_cases hi0 : i = 0
    ·subst hi0;refine XA (QL 2 rfl rfl ?_);refine ⟨_, ZaG rfl Zsw rfl (by rfl) (by simpa using hml) rfl, ?_⟩;rintro _ rfl;simp (disch := omega) only [go_sem, seval];refine Zd [] _ _ _ _ ?_;simp (disch := omega) only [go_sem, seval];exact ⟨.p (.list false []), rmH x p g R r M', Weak.mk (by simp (disch := omega) only [rmH, Zb, ZB, Zw, go_sem, seval]), M', 0, hml, Nat.zero_le _, hmt, by rw [slV, if_pos (by omega)], rfl⟩
    ·refine Zd [] _ _ _ _ ?_;simp (disch := omega) only [hml, if_true, go_sem, seval];exact ⟨.sl 7 0 i m.length, rmH x p g R r M', Weak.mk (by simp (disch := omega) only [rmH, Zb, ZB, Zw, Nat.sub_zero, go_sem, seval]), M', i, hml, by omega, hmt, by rw [slV, if_neg (by omega)], rfl⟩
def Ztf (l : List Int) : List Int := l.mergeSort fun x y => decide (x <= y)
theorem K7 (l : List Int) : (Ztf l).Perm l := List.mergeSort_perm l _
theorem Zhk (l : List Int) : (Ztf l).Pairwise (· <= ·) :=
 (List.pairwise_mergeSort (le := fun x y : Int => decide (x <= y)) (fun a b c h1 h2 => by simp only [decide_eq_true_eq] at *; omega) (fun a b => by simp; omega) l).imp fun h => by simpa using h
theorem ZhR {H : List AM.Obj} {o : Nat} (l : List Int) (hl : l.length <= 1048576) (hH : H[o]? = some (.elems 1 (l.map eI))) :
  ACalls Tryz.prog 44 [.sl o 0 l.length l.length] H fun y H' => y = .tup [] /\ H' = H.set o (.elems 1 ((Ztf l).map eI)) :=
 ACalls.sortInts Zml ZxK l (by omega) hH
def cpH (x : Inst) (p : Pln) (g : Nat) (R : List Rte) (n : Nat) (m : List Int) : List AM.Obj :=
 [Zb x, ZB p, .cells [.p (.list true []), .p (.list true [])], .cells [.p (.int .i64 (g : Int))], .cells [.sl 5 0 R.length R.length, .sl 6 0 n n], .elems 4 (R.map Yq), .elems 1 (m.map eI)]
theorem V8 {l : List Int} {k : Nat} (hs : l.Pairwise (· <= ·)) (h : ∀ j, 0 < j -> j < k -> nth l j ≠ nth l (j - 1)) : (l.take k).Pairwise (· < ·) := by
 rw [List.pairwise_iff_getElem];intro a b ha hb hab;simp at ha hb;rw [List.getElem_take, List.getElem_take];have h1 := h b (by omega) (by omega);rw [Ze (by omega), Ze (by omega)] at h1;have h2 := List.pairwise_iff_getElem.1 hs (b - 1) b (by omega) (by omega) (by omega);rcases Nat.eq_or_lt_of_le (show a <= b - 1 by omega) with e | e
 ·subst e; omega
 ·have h3 := List.pairwise_iff_getElem.1 hs a (b - 1) (by omega) (by omega) e;omega
theorem Ze0 (x : Inst) (p : Pln) (g : Nat) (R : List Rte) (m : List Int) (hl : m.length <= 1048576) (hs : m.Pairwise (· <= ·)) :
  ACalls Tryz.prog 45 [.sl 6 0 m.length m.length] (cpH x p g R m.length m) fun y H' => ∃ (M : List Int) (k : Nat), M.length = m.length /\ k <= m.length /\ (M.take k).Pairwise (· < ·) /\ (∀ z, z ∈ M.take k ↔ z ∈ m) /\ y = .sl 6 0 k m.length /\ H' = cpH x p g R m.length M := by
 have hs' : ∀ a b, a <= b -> b < m.length -> nth m a <= nth m b := fun a b h1 h2 => by
  rcases Nat.eq_or_lt_of_le h1 with e | e
  ·rw [e]; exact Int.le_refl _
  ·rw [Ze h2, Ze (by omega)]; exact List.pairwise_iff_getElem.1 hs a b (by omega) h2 e
 refine Zc [] Tryz.func45 rfl ZxM ?_;simp (disch := omega) only [Tryz.f45, cpH, Zb, ZB, go_sem, seval];refine cD ?_ ?_ <;> intro h <;> simp (disch := omega) only [Sh.out h, go_sem, seval]
 ·exact ⟨.sl 6 0 m.length m.length, cpH x p g R m.length m, Weak.mk (by simp (disch := omega) only [cpH, Zb, ZB, go_sem, seval]), m, m.length, rfl, Nat.le_refl _, by
   rw [List.take_length]
   have := V8 (l := m) (k := m.length) hs fun j h1 h2 => by omega
   rwa [List.take_length] at this, by simp, rfl, rfl⟩
 ·refine Zf [0] (fun k : Nat => [(3, .p (.int .i64 k))]) (fun _ => cpH x p g R m.length m) (fun k => 1 <= k /\ k <= m.length /\ ∀ j, 0 < j -> j < k -> nth m j ≠ nth m (j - 1)) (fun k => m.length - k) 1 ⟨by omega, by omega, fun j h1 h2 => by omega⟩ (Weak.mk ?_) ?_
  ·simp (disch := omega) only [cpH, Zb, ZB, go_sem, seval]
  ·rintro k ⟨hk1, hk2, hadj⟩;simp (disch := omega) only [cpH, Zb, ZB, go_sem, seval];refine cD ?_ ?_ <;> intro h1 <;> simp (disch := omega) only [Sh.out h1, go_sem, seval]
   ·have hk3 : k < m.length := by omega
    have e1 : ((k : Int) - 1).toNat = k - 1 := by omega
    have he1 : elt (m.map eI) k = eI (nth m k) := Xb hk3;have he2 : elt (m.map eI) (k - 1) = eI (nth m (k - 1)) := Xb (by omega)
    have hk4 : k - 1 < m.length := by omega
    refine Zj mixed (by kernel_rfl) (by kernel_rfl) ?_;simp (disch := omega) only [go_sem, seval];simp (disch := first | omega | (simp only [List.length_cons, List.length_nil, List.length_append, List.length_map, List.length_take, List.length_drop] <;> omega)) only [e1, he1, he2, hk3, hk4, if_true, go_sem, seval];refine cD ?_ ?_ <;> intro h2 <;> simp (disch := omega) only [Sh.out h2, go_sem, seval]
    ·have h2' : nth m k = nth m (k - 1) := by simpa using h2
     have htk : ∀ i, i < m.length -> m.take (i + 1) = m.take i ++ [nth m i] := fun i hi => by rw [List.take_succ_eq_append_getElem hi, Ze hi]
     refine Zf [0, 4] (fun q : Nat × Nat × List Int => [(3, .p (.int .i64 q.1)), (5, .p (.int .i64 q.2.1))]) (fun q => cpH x p g R m.length q.2.2)
      (fun q => q.1 + 1 <= k + q.2.1 /\ k <= q.1 /\ 1 <= q.2.1 /\ k + q.2.1 <= m.length /\ q.2.2.length = m.length /\ (∀ j, k + q.2.1 <= j + 1 -> j < m.length -> nth q.2.2 j = nth m j) /\ (q.2.2.take q.1).Pairwise (· < ·) /\ (∀ z, z ∈ q.2.2.take q.1 ↔ z ∈ m.take (k + q.2.1)) /\ ∀ z ∈ q.2.2.take q.1, z <= nth m (k + q.2.1 - 1)) (fun q => m.length - q.2.1) (k, 1, m)
      ⟨Nat.le_refl _, Nat.le_refl _, Nat.le_refl _, by simp only; omega, rfl, fun _ _ _ => rfl, V8 hs hadj, fun z => ?_, fun z hz => ?_⟩ (Weak.mk ?_) ?_
     ·simp only;rw [htk k hk3, List.mem_append, List.mem_singleton, h2']
      constructor
      ·exact .inl
      ·rintro (h3 | h3)
       ·exact h3
       ·rw [h3]; exact List.mem_iff_getElem.2 ⟨k - 1, by simp; omega, by rw [List.getElem_take, Ze hk4]⟩
     ·simp only at hz;obtain ⟨j, hj, rfl⟩ := List.mem_iff_getElem.1 hz;rw [List.length_take] at hj;rw [List.getElem_take, <- Ze (by omega)];exact hs' j _ (by simp only; omega) (by simp only; omega)
     ·simp (disch := omega) only [cpH, Zb, ZB, go_sem, seval]
     ·rintro ⟨i, b, M⟩ ⟨q1, q2, q3, q4, q5, q6, q7, q8, q9⟩;simp only at q1 q2 q3 q4 q5 q6 q7 q8 q9;simp (disch := omega) only [cpH, Zb, ZB, q5, if_true, go_sem, seval];refine cD ?_ ?_ <;> intro h3 <;> simp (disch := omega) only [Sh.out h3, go_sem, seval]
      ·have hb1 : k + b < M.length := by omega
       have hb2 : k + (b - 1) < M.length := by omega
       have f0 : ((b : Int) - 1).toNat = b - 1 := by omega
       have f1 : elt (M.map eI) (k + b) = eI (nth m (k + b)) := by rw [Xb hb1, q6 (k + b) (by omega) (by omega)]
       have f2 : elt (M.map eI) (k + (b - 1)) = eI (nth m (k + b - 1)) := by rw [Xb hb2, show k + (b - 1) = k + b - 1 by omega, q6 (k + b - 1) (by omega) (by omega)]
       have hb3 : k + b < m.length := by omega
       have hb4 : k + (b - 1) < m.length := by omega
       refine Zj mixed (by kernel_rfl) (by kernel_rfl) ?_;simp (disch := omega) only [go_sem, seval];simp (disch := first | omega | (simp only [List.length_cons, List.length_nil, List.length_append, List.length_map, List.length_take, List.length_drop] <;> omega)) only [f0, f1, f2, q5, hb3, hb4, if_true, go_sem, seval];have hz : nth m (k + b - 1) <= nth m (k + b) := hs' _ _ (by omega) hb3
       have hi : i < M.length := by omega
       have hi2 : i < m.length := by omega
       refine cD ?_ ?_ <;> intro h4 <;> simp (disch := omega) only [Sh.out h4, go_sem, seval]
       ·have ZC : (M.map eI).set i (.int .i64 (nth m (k + b))) = (M.set i (nth m (k + b))).map eI := by rw [List.map_set]; rfl
        simp (disch := first | omega | (simp only [List.length_cons, List.length_nil, List.length_append, List.length_map, List.length_take, List.length_drop] <;> omega)) only [f1, q5, hi2, hb3, if_true, go_sem, seval]
        have e9 : (M.set i (nth m (k + b))).take (i + 1) = M.take i ++ [nth m (k + b)] := by
         rw [List.take_succ_eq_append_getElem (by simpa using hi), List.take_set_of_le (Nat.le_refl _), List.getElem_set_self]
        refine ⟨(i + 1, b + 1, M.set i (nth m (k + b))), ⟨by simp only; omega, by simp only; omega, by simp only; omega, by simp only; omega, by simp only [List.length_set]; exact q5, fun j h5 h6 => ?_, ?_, fun z => ?_, fun z hz => ?_⟩, by simp only; omega, Weak.mk (by simp (disch := omega) only [cpH, Zb, ZB, ZC, go_sem, seval])⟩
        ·simp only at h5 ⊢;rw [Ze (by simp; omega), List.getElem_set_ne (by omega), <- Ze (by omega)];exact q6 j (by omega) h6
        ·simp only;rw [e9, List.pairwise_append];refine ⟨q7, by simp, fun a h5 c h6 => ?_⟩;have := q9 a h5;simp at h6;omega
        ·simp only;rw [e9, show k + (b + 1) = k + b + 1 by omega, htk _ hb3, List.mem_append, List.mem_append, q8]
        ·simp only at hz ⊢;rw [e9, List.mem_append, List.mem_singleton] at hz;rw [show k + (b + 1) - 1 = k + b by omega];rcases hz with h5 | h5
         ·have := q9 z h5; omega
         ·omega
       ·have h4' : nth m (k + b) = nth m (k + b - 1) := by simpa using h4
        refine ⟨(i, b + 1, M), ⟨by simp only; omega, q2, by simp only; omega, by simp only; omega, q5, fun j h5 h6 => q6 j (by simp only at h5; omega) h6, q7, fun z => ?_, fun z hz => ?_⟩, by simp only; omega, Weak.mk (by simp (disch := omega) only [cpH, Zb, ZB, go_sem, seval])⟩
        ·simp only;rw [q8, show k + (b + 1) = k + b + 1 by omega, htk _ hb3, List.mem_append, List.mem_singleton, h4']
         constructor
         ·exact .inl
         ·rintro (h5 | h5)
          ·exact h5
          ·rw [h5]; exact List.mem_iff_getElem.2 ⟨k + b - 1, by simp; omega, by rw [List.getElem_take, Ze (by omega)]⟩
        ·simp only at hz ⊢;rw [show k + (b + 1) - 1 = k + b by omega, h4'];exact q9 z hz
      ·have hkb : k + b = m.length := by omega
       rw [hkb, List.take_length] at q8
       have hi : i < M.length := by omega
       obtain ⟨M', hM'⟩ : ∃ M' : List Int, M' = M.take i ++ List.replicate (m.length - i) 0 ++ M.drop (i + (m.length - i)) := ⟨_, rfl⟩
       have hme : List.take i (M.map eI) ++ (List.replicate (m.length - i) (0 : Int)).map eI ++ List.drop (i + (m.length - i)) (M.map eI) = M'.map eI := by rw [hM', List.map_append, List.map_append, List.map_take, List.map_drop]
       have hml : M'.length = m.length := by rw [hM']; simp; omega
       have hmt : M'.take i = M.take i := by
        rw [hM', List.append_assoc, List.take_append_of_le_length (by simp; omega), List.take_take, Nat.min_self]
       simp (disch := first | omega | (simp only [List.length_cons, List.length_nil, List.length_append, List.length_map, List.length_take, List.length_drop] <;> omega)) only [q5, if_true, Zxd, hme, hml, go_sem, seval];exact ⟨.sl 6 0 i m.length, cpH x p g R m.length M', Weak.mk (by simp (disch := omega) only [cpH, Zb, ZB, Nat.sub_zero, go_sem, seval]), M', i, hml, by omega, by rw [hmt]; exact q7, fun z => by rw [hmt]; exact q8 z, rfl, rfl⟩
    ·exact ⟨k + 1, ⟨by omega, by omega, fun j h3 h4 => by
      rcases Nat.eq_or_lt_of_le (show j <= k by omega) with e | e
      ·subst e; simpa using h2
      ·exact hadj j h3 e⟩, by omega, Weak.mk (by simp (disch := omega) only [cpH, Zb, ZB, go_sem, seval])⟩
   ·have hkl : k = m.length := by omega
    subst hkl;exact ⟨.sl 6 0 m.length m.length, cpH x p g R m.length m, Weak.mk (by simp (disch := omega) only [cpH, Zb, ZB, go_sem, seval]), m, m.length, rfl, Nat.le_refl _, V8 hs hadj, by simp, rfl, rfl⟩
set_option maxRecDepth 60000
theorem ZpK {l : List Int} {g : Nat} {m : List Int} (h0 : ∀ u ∈ l, 0 <= u /\ u <= 60) (hg : g < pw 61) (ha : m.Pairwise (· < ·)) (hm : ∀ z, z ∈ m ↔ z ∈ l \/ z ∈ ZR (g : Int) 63) : m = Zlu g l := by
 refine Zrh ha (WB _ _) fun z => ?_;rw [hm, Zlu, Yi, Yi]
 constructor
 ·rintro (h | ⟨j, rfl, h1, h2⟩)
  ·have := h0 z h;refine ⟨z.toNat, by omega, by omega, ?_⟩;rw [Nat.testBit_or, Y2.2 ⟨z, h, rfl⟩]; rfl
  ·exact ⟨j, rfl, h1, by rw [Nat.testBit_or, h2, Bool.or_true]⟩
 ·rintro ⟨j, rfl, h1, h2⟩;rw [Nat.testBit_or, Bool.or_eq_true, Y2] at h2;rcases h2 with ⟨i, h3, h4⟩ | h2
  ·have := h0 i h3
   left
   rw [<- h4, Int.toNat_of_nonneg this.1]; exact h3
  ·exact .inr ⟨j, rfl, h1, h2⟩
structure Rm (x : Inst) (p : Pln) : Prop where
 n : x.orders.length <= 60
 bl : x.before.length <= 1048576
 val : Val x.orders.length x.before
 rl : p.routes.length <= 1048576
 ul : p.unserved.length <= 1000
 b : ∀ r ∈ p.routes, rteB r
theorem Js (x : Inst) (p : Pln) (set : Int) (h : Rm x p) (hs : I64 set) :
  PT 13 [.p (Zy x), .p (Jf p), .p (.int .i64 set)] [.p (Jf (rmF x p set).1), .p (.int .i64 ((rmF x p set).2.1 : Nat)), .p (.int .i64 (rmF x p set).2.2)] := by
 obtain ⟨hn, hbl, hv, hr, hu, hb⟩ := h;have h60 : pw x.orders.length <= pw 60 := ZS hn;have e60 : pw 60 = 1152921504606846976 := rfl;refine Zc [6] Tryz.func13 rfl ZyT ?_;simp (disch := omega) only [Tryz.f13, go_sem, seval];refine WZ (KZ x p hn hr (by omega) hb) ?_
 cases hask : QU x p with
 | false =>
  have e : rmF x p set = (ZgQ, 0, 2) := by rw [rmF, hask]; rfl
  rw [e];simp (disch := omega) only [go_sem, seval];exact we (by simp (disch := omega) only [ZgQ, List.map_nil, go_sem, seval])
 | true =>
  have hk : kno x.orders.length p.routes = true := by rw [QU, Bool.and_eq_true] at hask; exact hask.1
  have huI : Zc5 x.orders.length p.unserved = true := by rw [QU, Bool.and_eq_true] at hask; exact hask.2
  rw [hk, if_pos rfl];have ha := W3 hk;simp (disch := omega) only [go_sem, seval];refine gF ?_ ?_ <;> intro h1 <;> simp (disch := omega) only [Sh.out h1, go_sem, seval]
  ·have e : rmF x p set = (ZgQ, 0, 2) := by
    rw [rmF, Vg]
    have : ¬ 0 <= set := by omega
    simp [this]
   rw [e];exact we (by simp (disch := omega) only [ZgQ, List.map_nil, go_sem, seval])
  ·obtain ⟨S, rfl⟩ : ∃ S : Nat, set = S := ⟨set.toNat, by omega⟩
   have hS : S < 9223372036854775808 := by have := hs.2; omega
   have hd : S / pw x.orders.length = 0 ↔ S < pw x.orders.length := Nat.div_eq_zero_iff_lt (Vq _)
   have hfd : (S : Int).fdiv (2 ^ min x.orders.length 64) = ((S / pw x.orders.length : Nat) : Int) := by
    have e1 : min x.orders.length 64 = x.orders.length := by omega
    have e2 : (2 : Int) ^ x.orders.length = ((pw x.orders.length : Nat) : Int) := by simp [pw]
    rw [e1, e2, Int.fdiv_eq_ediv_of_nonneg _ (by omega)];exact (Int.natCast_ediv _ _).symm
   rw [hfd];refine cD ?_ ?_ <;> intro h2 <;> simp (disch := omega) only [Sh.out h2, go_sem, seval]
   ·have e : rmF x p (S : Int) = (ZgQ, 0, 2) := by
     rw [rmF, Vg]
     have : ¬ (S : Int) < ((pw x.orders.length : Nat) : Int) := by omega
     simp [this]
    rw [e];exact we (by simp (disch := omega) only [ZgQ, List.map_nil, go_sem, seval])
   ·have hS2 : S < pw x.orders.length := hd.1 (by omega)
    have e : rmF x p (S : Int) = (rmP p (Xh x p S), Xh x p S, 0) := by
     rw [rmF, Vg, hask]
     have q1 : (0 : Int) <= (S : Int) := by omega
     have q2 : (S : Int) < ((pw x.orders.length : Nat) : Int) := by omega
     simp [q1, q2]
    rw [e]
    have eg : Xh x p (S : Int) = lvS x.orders.length x.before (XC p.routes) S := by rw [Xh, Int.toNat_natCast]
    rw [eg];have hg := ZjN x.orders.length x.before (XC p.routes) S;refine (Zbu x (XC p.routes) S hn hbl hv ha hS).use ?_;simp (disch := omega) only [go_sem, seval]
    generalize lvS x.orders.length x.before (XC p.routes) S = g at *
    refine Zm (Weak.nilC (o := 4) (j := 0) 4 (by rfl) (by rfl) (by simp)) ?_;refine XA ?_;refine Zd [10, 16] _ _ _ _ ?_;simp (disch := omega) only [List.set_cons_succ, List.set_cons_zero, List.cons_append, List.nil_append, List.length_cons, List.length_nil, go_sem, seval];have hki := Qh.1 hk;refine ZI [10] [4, 6, 11, 12, 41, 42] (fun k : Nat => [(43, .p (.int .i64 k))]) (fun k => [Zb x, ZB p, .cells [.p (.list true []), .p (.list true [])], .cells [.p (.int .i64 (g : Int))], .cells [.sl 5 0 (Xi g (p.routes.take k)).length (Xi g (p.routes.take k)).length, .p (.list true [])], .elems 4 ((Xi g (p.routes.take k)).map Yq)]) (fun k => k <= p.routes.length) (fun k => p.routes.length - k) 0 (by simp) (Weak.mk ?_) ?_
    ·simp (disch := omega) only [Zb, ZB, Xi, List.take_zero, List.map_nil, List.filter_nil, List.length_nil, go_sem, seval]
    ·intro k hk1;have hll : (Xi g (p.routes.take k)).length <= 1048576 := Nat.le_trans Ww (by simp; omega);simp (disch := omega) only [Zb, ZB, go_sem, seval];refine cD ?_ ?_ <;> intro h3 <;> simp (disch := omega) only [Sh.out h3, go_sem, seval]
     ·have hk2 : k < p.routes.length := by omega
      have hlt := Ji (g := g) hk2;have hbk := hb _ (Zi hk2)
      have hvr : ∀ v ∈ (nth p.routes k).visits, 0 <= v.order /\ v.order <= 62 := fun v hv => by have := hki _ (Zi hk2) v hv; omega
      generalize Xi g (p.routes.take k) = R at *
      refine (Zhh (nth p.routes k).visits _ hbk.1).useF ?_;simp (disch := omega) only [go_sem, seval];refine (ZiD x p g R (nth p.routes k) (nth p.routes k).visits hbk.1 hvr).mono ?_;rintro y H' ⟨M, q, d1, d2, d3, rfl, rfl⟩;have hfe : (Zjf g (nth p.routes k)).visits = (nth p.routes k).visits.filter fun v => !goB g v := rfl
      by_cases hq : q = 0 /\ 0 < (nth p.routes k).visits.length
      ·rw [slV, if_pos hq];rw [hq.1, List.take_zero] at d3;rw [hfe, <- d3, if_neg (by simp), List.append_nil] at hlt;simp (disch := omega) only [rmH, Zb, ZB, Zw, go_sem, seval];refine Zd [] _ _ _ _ ?_;simp (disch := omega) only [List.length_nil, go_sem, seval];exact ⟨k + 1, by omega, by omega, Weak.mk (by simp (disch := omega) only [Zb, ZB, hlt, go_sem, seval])⟩
      ·rw [slV, if_neg hq];simp (disch := omega) only [rmH, Zb, ZB, Zw, d1, decide_true, if_true, go_sem, seval]
       have hq2 : q <= M.length := by omega
       have hfz : fzV 7 (M.map eVis) (.sl 7 0 q (nth p.routes k).visits.length) = .p (.list false ((Zjf g (nth p.routes k)).visits.map eVis)) := by
        rw [fzV, if_pos ⟨rfl, by simpa using d1, by omega⟩, hfe, <- d3, List.map_take]; simp
       have hW : (Zjf g (nth p.routes k)).visits.length <= 1048576 := by
        have := hbk.1;rw [hfe];exact Nat.le_trans (List.length_filter_le _ _) this
       refine Zm (Weak.fz (o := 7) (by rfl)) ?_;refine Zd [] _ _ _ _ ?_;simp (disch := omega) only [List.map_cons, List.map_nil, List.set_cons_succ, List.set_cons_zero, hfz, go_sem, seval];refine cD ?_ ?_ <;> intro h4 <;> simp (disch := omega) only [Sh.out h4, go_sem, seval]
       ·rw [if_pos (by omega)] at hlt;refine ⟨k + 1, by omega, by omega, Weak.mk ?_⟩;simp (disch := omega) only [Zb, ZB, hlt, List.map_append, List.map_cons, List.map_nil, List.length_append, List.length_cons, List.length_nil, go_sem, seval]
        rfl
       ·rw [if_neg (by omega), List.append_nil] at hlt;exact ⟨k + 1, by omega, by omega, Weak.mk (by simp (disch := omega) only [Zb, ZB, hlt, go_sem, seval])⟩
     ·have hkl : k = p.routes.length := by omega
      subst hkl;rw [List.take_length] at hll ⊢;obtain ⟨R, hR⟩ : ∃ R, R = Xi g p.routes := ⟨_, rfl⟩;rw [<- hR] at hll ⊢;refine Zd [16] _ _ _ _ ?_;simp (disch := omega) only [Zb, ZB, go_sem, seval];refine Xl [2] 4 mixed (by kernel_rfl) (by kernel_rfl) (by kernel_rfl) (by simp) ?_;simp (disch := omega) only [Zb, ZB, go_sem, seval]
      refine Z0 (.sl 6 0 p.unserved.length p.unserved.length) [.elems 1 (p.unserved.map eI)] (by
       simp (disch := omega) only [go_sem, seval];refine (ZcG p.unserved _ (by omega)).useF ?_
       exact ⟨rfl, rfl⟩) ?_
      simp (disch := omega) only [QR, go_sem, seval];have hmg := X0 (g : Int) 63;refine ((YU (g : Int)).frozen (by simp)).use ?_
      have hmi : ∀ z ∈ p.unserved ++ ZR (g : Int) 63, 0 <= z /\ z <= 60 := fun z hz => by
       rcases List.mem_append.1 hz with h5 | h5
       ·have := List.all_eq_true.1 huI z h5;simp only [Bool.and_eq_true, decide_eq_true_eq] at this;omega
       ·obtain ⟨j, rfl, _, h6⟩ := Yi.1 h5;have := XS hg h6;omega
      have hlen : (p.unserved ++ ZR (g : Int) 63).length <= 1063 := by simp; omega
      obtain ⟨L, hL⟩ : ∃ L, L = p.unserved ++ ZR (g : Int) 63 := ⟨_, rfl⟩
      have hL1 : p.unserved.map eI ++ (ZR (g : Int) 63).map eI = L.map eI := by rw [hL, List.map_append]
      have hL2 : p.unserved.length + (ZR (g : Int) 63).length = L.length := by rw [hL, List.length_append]
      rw [<- hL] at hmi hlen;simp (disch := omega) only [hL1, hL2, go_sem, seval];refine (ZhR L (by omega) rfl).useH ?_;have hsl : (Ztf L).length = L.length := (K7 L).length_eq;simp (disch := omega) only [List.set_cons_succ, List.set_cons_zero, go_sem, seval];rw [<- hsl];obtain ⟨m, hm⟩ : ∃ m, m = Ztf L := ⟨_, rfl⟩
      have hms : m.Pairwise (· <= ·) := by rw [hm]; exact Zhk L
      have hmm : ∀ z, z ∈ m ↔ z ∈ L := fun z => by rw [hm]; exact (K7 L).mem_iff
      rw [<- hm] at hsl ⊢;refine (Ze0 x p g R m (by omega) hms).mono ?_;rintro y H' ⟨M, k, d1, d2, d3, d4, rfl, rfl⟩
      have hMu : M.take k = Zlu g p.unserved := ZpK (g := g) (fun u hu => hmi u (by rw [hL]; exact List.mem_append_left _ hu)) (Nat.lt_of_lt_of_le hg (ZS (by omega))) d3 fun z => by rw [d4, hmm, hL, List.mem_append]
      simp (disch := omega) only [cpH, Zb, ZB, d1, decide_true, if_true, go_sem, seval]
      have hfz : fzV 6 (M.map eI) (.sl 6 0 k m.length) = .p (.list false ((Zlu g p.unserved).map eI)) := by
       rw [fzV, if_pos ⟨rfl, by simpa using d1, by omega⟩, <- hMu, List.map_take]; simp
      have hfz5 : fzV 5 (R.map Yq) (.sl 6 0 k m.length) = .sl 6 0 k m.length := by rw [fzV, if_neg (by simp)]
      refine Zm (Weak.fz (o := 5) (by rfl)) ?_;refine Zm (Weak.fz (o := 6) (by rfl)) ?_;refine Zd [] _ _ _ _ ?_;simp (disch := omega) only [List.map_cons, List.map_nil, List.set_cons_succ, List.set_cons_zero, hfz5, hfz, go_sem, seval];refine ZdL [2] [1] [3] 3 mixed (by kernel_rfl) (by kernel_rfl) (by kernel_rfl) (by kernel_rfl) (by simp) ?_;simp (disch := omega) only [go_sem, seval];refine ⟨fun q hq p' hp => ?_, ?_⟩
      ·simp only [List.mem_cons, List.not_mem_nil, or_false] at hq;subst hq;obtain rfl : 11 = p' := Option.some.inj hp;exact Ze3 (by decide)
      ·refine ZfI 2 (fun y H' => y = .junk /\ H' = [Zb x, ZB p, ZB (rmP p g), .cells [.p (.int .i64 (g : Int))], ZB (rmP p g), .dead, .dead]) (by kernel_rfl) (by simp (disch := omega) only [Zb, ZB, rmP, hR, go_sem, seval]) ?_;rintro y H' ⟨rfl, rfl⟩;refine ⟨fun k hk => by simp at hk; subst hk; rfl, ZkN ?_⟩;simp (disch := omega) only [Zb, ZB, rmP, go_sem, seval];exact we (by simp (disch := omega) only [rmP, hR, go_sem, seval])
def UV (x : Inst) (r : Rte) : Int × Int := if XO x r = 0 then Us (Qj x r) else (0, XO x r)
theorem ZiM (s : Sco) : 0 <= (Us s).1 /\ (Us s).1 <= 36028797018963968 := by
 unfold Us
 split
 ·simp
 ·split
  ·simp
  ·simp only; omega
theorem Kg (x : Inst) (r : Rte) : 0 <= (UV x r).1 /\ (UV x r).1 <= 36028797018963968 := by
 unfold UV
 split
 ·exact ZiM _
 ·simp
theorem Zge (x : Inst) (r : Rte) (hx : InstOk x) (hb : rteB r) : PT 107 [.p (Zy x), .p (Yq r)] [.p (.int .i64 (UV x r).1), .p (.int .i64 (UV x r).2)] := by
 have ce := ZdJ x r hx hb.1 hb.2;refine Zc [] Tryz.func107 rfl ZrY ?_;simp (disch := omega) only [Tryz.f107, go_sem, seval];unfold Zau at ce;refine J7 ce ?_;simp (disch := omega) only [go_sem, seval];refine cD ?_ ?_ <;> intro h1 <;> simp (disch := omega) only [Sh.out h1, go_sem, seval]
 ·rw [UV, if_neg h1];exact we
 ·have h0 : XO x r = 0 := by omega
  rw [UV, if_pos h0];refine WZ (Zf8 (Qj x r) (KF (by omega) (K6 hx hb.1 h0))) ?_;simp (disch := omega) only [go_sem, seval];exact we
theorem ZbV (x : Inst) (r : Rte) (hx : InstOk x) (hb : rteB r) : PT 108 [.p (Zy x), .p (Yq r)] [.p (.int .i64 (UV x r).1), .p (.int .i64 (UV x r).2)] := by
 have ce := KW x r hx hb.1 hb.2;refine Zc [] Tryz.func108 rfl ZpF ?_;simp (disch := omega) only [Tryz.f108, go_sem, seval];unfold Zau at ce;refine J7 ce ?_;simp (disch := omega) only [go_sem, seval];refine cD ?_ ?_ <;> intro h1 <;> simp (disch := omega) only [Sh.out h1, go_sem, seval]
 ·rw [UV, if_neg h1];exact we
 ·have h0 : XO x r = 0 := by omega
  rw [UV, if_pos h0];refine WZ (ZdI (Qj x r) (KF (by omega) (K6 hx hb.1 h0))) ?_;simp (disch := omega) only [go_sem, seval];exact we
def Zei (x : Inst) (l : List Rte) : Int := l.foldl (fun a r => a + (UV x r).1) 0
theorem U9 {x : Inst} {l : List Rte} {k : Nat} (h : k < l.length) : Zei x (l.take (k + 1)) = Zei x (l.take k) + (UV x (nth l k)).1 := by
 rw [List.take_succ_eq_append_getElem h, Zei, List.foldl_append, Ze h]; rfl
theorem U0 {x : Inst} {l : List Rte} : ∀ k, k <= l.length -> 0 <= Zei x (l.take k) /\ Zei x (l.take k) <= k * 36028797018963968
 | 0, _ => by simp [Zei]
 | k + 1, h => by
  have := U0 (x := x) (l := l) k (by omega);have := Kg x (nth l k);rw [U9 (by omega)];omega
def W9 (x : Inst) (l : List Rte) : Int × Int := match l.find? (fun r => decide ((UV x r).2 ≠ 0)) with | some r => (0, (UV x r).2) | none => (Zei x l, 0)
theorem Zgj {α : Type} [Inhabited α] {p : α -> Bool} : ∀ {l : List α} {k : Nat}, k < l.length -> (∀ j, j < k -> p (nth l j) = false) -> p (nth l k) = true -> l.find? p = some (nth l k)
 | [], _, h, _, _ => by simp at h
 | a :: l, 0, _, _, h => List.find?_cons_of_pos (show p a = true from h)
 | a :: l, k + 1, hk, h0, h => by
  rw [List.find?_cons_of_neg (by rw [show p a = false from h0 0 (by omega)]; simp)];exact Zgj (l := l) (k := k) (by simpa using hk) (fun j hj => h0 (j + 1) (by omega)) h
theorem ZgN {α : Type} [Inhabited α] {p : α -> Bool} {l : List α} (h : ∀ j, j < l.length -> p (nth l j) = false) : l.find? p = none := by
 rw [List.find?_eq_none];intro a ha;obtain ⟨j, hj, rfl⟩ := List.mem_iff_getElem.1 ha;rw [<- Ze hj, h j hj]; simp
theorem ZeE {x : Inst} {l : List Rte} {k : Nat} (hk : k < l.length) (h0 : ∀ j, j < k -> (UV x (nth l j)).2 = 0) (h : ¬ (UV x (nth l k)).2 = 0) : W9 x l = (0, (UV x (nth l k)).2) := by
 rw [W9, Zgj hk (fun j hj => by simp [h0 j hj]) (by simpa using h)]
theorem ZbG {x : Inst} {l : List Rte} (h0 : ∀ j, j < l.length -> (UV x (nth l j)).2 = 0) : W9 x l = (Zei x l, 0) := by
 rw [W9, ZgN (fun j hj => by simp [h0 j hj])]
theorem WM {x : Inst} {l : List Rte} (hl : l.length <= 100) : 0 <= (W9 x l).1 /\ (W9 x l).1 <= 3602879701896396800 := by
 unfold W9
 split
 ·simp
 ·have := U0 (x := x) (l := l) l.length (Nat.le_refl _);rw [List.take_length] at this;simp only;omega
theorem ZgM (x : Inst) (l : List Rte) (c : Bool) (hx : InstOk x) (hl : l.length <= 100) (hb : ∀ r ∈ l, rteB r) : PT 51 [.p (Zy x), .p (.list c (l.map Yq))] [.p (.int .i64 (W9 x l).1), .p (.int .i64 (W9 x l).2)] := by
 refine Zc [] Tryz.func51 rfl Zy1 ?_;simp (disch := omega) only [Tryz.f51, go_sem, seval];refine Zf [2, 11, 12] (fun k : Nat => [(6, .p (.int .i64 (Zei x (l.take k)))), (13, .p (.int .i64 k))]) (fun _ => [Zb x]) (fun k => k <= l.length /\ ∀ j, j < k -> (UV x (nth l j)).2 = 0) (fun k => l.length - k) 0 (by simp) (Weak.mk ?_) ?_
 ·simp (disch := omega) only [Zb, Zei, List.take_zero, List.foldl_nil, go_sem, seval]
 ·rintro k ⟨hk, h0⟩;have hr := U0 (x := x) k hk;simp (disch := omega) only [Zb, go_sem, seval];refine cD ?_ ?_ <;> intro h1 <;> simp (disch := omega) only [Sh.out h1, go_sem, seval]
  ·have hk2 : k < l.length := by omega
   have hp := Kg x (nth l k);have hs := U9 (x := x) hk2;refine WZ (Zge x (nth l k) hx (hb _ (Zi hk2))) ?_;simp (disch := omega) only [go_sem, seval];refine cD ?_ ?_ <;> intro h2 <;> simp (disch := omega) only [Sh.out h2, go_sem, seval]
   ·rw [ZeE hk2 h0 h2];exact we
   ·exact ⟨k + 1, ⟨by omega, Zh.2 ⟨h0, by omega⟩⟩, by omega, Weak.mk (by simp (disch := omega) only [Zb, hs, go_sem, seval])⟩
  ·have hkl : k = l.length := by omega
   subst hkl;rw [ZbG h0, List.take_length];exact we
noncomputable def YZ (x : Inst) (p : Pln) (o : Int) : Int × Int :=
 if QU x p = false \/ o < 0 \/ (x.orders.length : Int) <= o then (0, 2)
 else if (XC p.routes).testBit o.toNat = false then (0, 7)
 else if ¬ (W9 x p.routes).2 = 0 then (0, (W9 x p.routes).2)
 else if ¬ (W9 x (Xi (Xh x p (pw o.toNat : Nat)) p.routes)).2 = 0 then (0, (W9 x (Xi (Xh x p (pw o.toNat : Nat)) p.routes)).2)
 else ((W9 x p.routes).1 - (W9 x (Xi (Xh x p (pw o.toNat : Nat)) p.routes)).1, 0)
theorem Zkb {g : Nat} {l : List Rte} (hb : ∀ r ∈ l, rteB r) : ∀ r ∈ Xi g l, rteB r := fun r hr => by
 obtain ⟨h3, _⟩ := List.mem_filter.1 hr;obtain ⟨r0, h4, rfl⟩ := List.mem_map.1 h3;have := hb r0 h4;exact ⟨Nat.le_trans (List.length_filter_le _ _) this.1, this.2⟩
theorem Zc0 {x : Inst} {p : Pln} {o : Int} (hl : p.routes.length <= 100) : -3602879701896396800 <= (YZ x p o).1 /\ (YZ x p o).1 <= 3602879701896396800 := by
 have h1 := WM (x := x) hl;have h2 := WM (x := x) (l := Xi (Xh x p (pw o.toNat : Nat)) p.routes) (Nat.le_trans Ww hl);unfold YZ
 split
 ·simp
 ·split
  ·simp
  ·split
   ·simp
   ·split
    ·simp
    ·simp only; omega
theorem Zf5 {x : Inst} {p : Pln} {o : Nat} (ha : QU x p = true) (ho : o < x.orders.length) : rmF x p ((pw o : Nat) : Int) = (rmP p (Xh x p (pw o : Nat)), Xh x p (pw o : Nat), 0) := by
 have h1 : pw o < pw x.orders.length := Nat.pow_lt_pow_right (by omega) ho
 have q1 : (0 : Int) <= ((pw o : Nat) : Int) := by omega
 have q2 : ((pw o : Nat) : Int) < ((pw x.orders.length : Nat) : Int) := by omega
 rw [rmF, Vg, ha];simp [q1, q2]
theorem Za1 (x : Inst) (p : Pln) (o : Int) (hx : InstOk x) (h : Rm x p) (hl : p.routes.length <= 100) (ho : I64 o) :
  PT 16 [.p (Zy x), .p (Jf p), .p (.int .i64 o)] [.p (.int .i64 (YZ x p o).1), .p (.int .i64 (YZ x p o).2)] := by
 refine Zc [] Tryz.func16 rfl ZxQ ?_;simp (disch := omega) only [Tryz.f16, go_sem, seval];refine WZ (KZ x p h.n (by have := h.rl; omega) (by have := h.ul; omega) h.b) ?_
 cases hask : QU x p with
 | false =>
  have e : YZ x p o = (0, 2) := by rw [YZ, if_pos (.inl hask)]
  rw [e];simp (disch := omega) only [go_sem, seval];exact we
 | true =>
  have hk : kno x.orders.length p.routes = true := by rw [QU, Bool.and_eq_true] at hask; exact hask.1
  rw [hk, if_pos rfl];simp (disch := omega) only [go_sem, seval];refine gF ?_ ?_ <;> intro h1 <;> simp (disch := omega) only [Sh.out h1, go_sem, seval]
  ·have e : YZ x p o = (0, 2) := by rw [YZ, if_pos (.inr (.inl h1))]
   rw [e];exact we
  ·refine cD ?_ ?_ <;> intro h2 <;> simp (disch := omega) only [Sh.out h2, go_sem, seval]
   ·have e : YZ x p o = (0, 2) := by rw [YZ, if_pos (.inr (.inr h2))]
    rw [e];exact we
   ·have hc : ¬ (QU x p = false \/ o < 0 \/ (x.orders.length : Int) <= o) := by rw [hask]; rintro (h5 | h5 | h5) <;> simp_all
    obtain ⟨n, rfl⟩ : ∃ n : Nat, o = n := ⟨o.toNat, by omega⟩;have hn := h.n;refine (Zkm (XC p.routes : Int) (n : Int)).use ?_;simp (disch := omega) only [go_sem, seval];rw [X2 _ _ (by omega)]
    cases hb : (XC p.routes).testBit n with
    | false =>
     have e : YZ x p (n : Int) = (0, 7) := by rw [YZ, if_neg hc, if_pos (by rw [Int.toNat_natCast]; exact hb)]
     rw [e];simp (disch := omega) only [go_sem, seval];exact we
    | true =>
     have hb' : ¬ (XC p.routes).testBit (n : Int).toNat = false := by rw [Int.toNat_natCast, hb]; simp
     have hp : pw n <= pw 60 := ZS (by omega);have h60 : pw 60 = 1152921504606846976 := rfl;have cr := Js x p ((pw n : Nat) : Int) h ⟨by omega, by omega⟩;rw [Zf5 hask (by omega)] at cr;dsimp only at cr
     have hgg : Xh x p ((pw (n : Int).toNat : Nat) : Int) = Xh x p ((pw n : Nat) : Int) := by rw [Int.toNat_natCast]
     have sv : YZ x p (n : Int) = if ¬ (W9 x p.routes).2 = 0 then (0, (W9 x p.routes).2) else if ¬ (W9 x (Xi (Xh x p ((pw n : Nat) : Int)) p.routes)).2 = 0 then (0, (W9 x (Xi (Xh x p ((pw n : Nat) : Int)) p.routes)).2)
       else ((W9 x p.routes).1 - (W9 x (Xi (Xh x p ((pw n : Nat) : Int)) p.routes)).1, 0) := by rw [YZ, if_neg hc, if_neg hb', hgg]
     rw [sv];have hrl := Ww (g := Xh x p ((pw n : Nat) : Int)) (l := p.routes);have hrb := Zkb (g := Xh x p ((pw n : Nat) : Int)) h.b
     generalize Xh x p ((pw n : Nat) : Int) = g at *
     have t1 := WM (x := x) hl;have t2 := WM (x := x) (l := Xi g p.routes) (by omega);simp (disch := omega) only [go_sem, seval];refine Xl [9, 10] 12 mixed (by kernel_rfl) (by kernel_rfl) (by kernel_rfl) (by simp) ?_;simp (disch := omega) only [go_sem, seval];refine Jl cr ?_;simp (disch := omega) only [go_sem, seval];refine Z0 _ _ (by simp (disch := omega) only [go_sem, seval]; exact ⟨rfl, rfl⟩) ?_;simp (disch := omega) only [go_sem, seval];refine Z0 _ _ (by simp (disch := omega) only [go_sem, seval]; exact ⟨rfl, rfl⟩) ?_;simp (disch := omega) only [QR, rmP, go_sem, seval]
     refine WZ (ZgM x p.routes _ hx hl h.b) ?_;simp (disch := omega) only [go_sem, seval];refine cD ?_ ?_ <;> intro h5 <;> simp (disch := omega) only [Sh.out h5, go_sem, seval]
     ·exact we
     ·refine WZ (ZgM x (Xi g p.routes) _ hx (by omega) hrb) ?_;simp (disch := omega) only [go_sem, seval];refine cD ?_ ?_ <;> intro h6 <;> simp (disch := omega) only [Sh.out h6, go_sem, seval]
      ·exact we (by simp (disch := omega) only [if_neg h5, go_sem, seval])
      ·exact we (by simp (disch := omega) only [if_neg h5, go_sem, seval])
def K2 (x : Inst) (i : Nat) : List Int := (X8 x.orders i).map fun v => (XH x v).place
theorem UQ (x : Inst) (i : Nat) : (K2 x i).length <= 2 := by rw [K2, List.length_map]; exact UU _ _
theorem Zmw {x : Inst} {i : Nat} {v : Vis} (hi : i < x.orders.length) (h : v ∈ X8 x.orders i) : inB x v = true /\ 0 <= (XH x v).place := by
 have ho := ZdR h;refine ⟨by simp [inB, ho]; omega, ?_⟩;unfold X8 at h;rcases List.mem_append.1 h with h | h
 ·split at h
  ·simp at h; subst h; simpa [XH] using by assumption
  ·simp at h
 ·split at h
  ·simp at h; subst h; simpa [XH] using by assumption
  ·simp at h
theorem Q6 (x : Inst) (i : Nat) (hi : i < x.orders.length) (ho : x.orders.length <= 1048576) :
  ACalls Tryz.prog 166 [.p (Zy x), .p (.int .i64 (i : Int))] [] fun y H' => y = .sl 0 0 (K2 x i).length (K2 x i).length /\ H' = [.elems 1 ((K2 x i).map eI)] := by
 refine X5 (fn := Tryz.f166) (by simp) Tryz.func166 rfl ZtE ?_;simp (disch := omega) only [Tryz.f166, go_sem, seval];have hvl := UU x.orders i;have hv := fun v (h : v ∈ X8 x.orders i) => Zmw hi h;refine (visits_c x.orders x.orders_c i hi ho).use ?_;simp (disch := omega) only [go_sem, seval];obtain ⟨V, hV⟩ : ∃ V, V = X8 x.orders i := ⟨_, rfl⟩
 have hP : K2 x i = V.map fun v => (XH x v).place := by rw [hV]; rfl
 rw [hP];rw [<- hV] at hvl hv ⊢;refine Zf [2, 13, 14] (fun k : Nat => [(5, .sl 1 0 k k), (15, .p (.int .i64 k))]) (fun k => [Zb x, .elems 1 (((V.take k).map fun v => (XH x v).place).map eI)]) (fun k => k <= V.length) (fun k => V.length - k) 0 (by simp) (Weak.ofNil 5 1 (by simp (disch := omega) only [go_sem, seval]) (by simp) (Weak.mk ?_)) ?_
 ·simp (disch := omega) only [Zb, List.take_zero, List.map_nil, go_sem, seval]
 ·intro k hk;simp (disch := omega) only [Zb, go_sem, seval];refine cD ?_ ?_ <;> intro h1 <;> simp (disch := omega) only [Sh.out h1, go_sem, seval]
  ·have hk2 : k < V.length := by omega
   have hvk := hv _ (Zi hk2);refine WZ (ZgG x (nth V k) ho hvk.1 hvk.2) ?_;simp (disch := omega) only [go_sem, seval];rw [if_pos ⟨by rw [List.length_take]; omega, by omega, by omega⟩];simp (disch := omega) only [go_sem, seval]
   have ht : (V.take (k + 1)).map (fun v => (XH x v).place) = (V.take k).map (fun v => (XH x v).place) ++ [(XH x (nth V k)).place] := by
    rw [List.take_succ_eq_append_getElem hk2, List.map_append, Ze hk2]; rfl
   exact ⟨k + 1, by omega, by omega, Weak.mk (by simp (disch := omega) only [Zb, ht, List.map_append, List.map_cons, List.map_nil, go_sem, seval])⟩
  ·have hkl : k = V.length := by omega
   subst hkl;rw [List.take_length];exact ⟨1, by simp (disch := omega) only [go_sem, seval]⟩
def ZaW (P Q : List Int) (a : Arc) : Bool := (P.any (fun w => decide (a.src = w)) && Q.any fun w => decide (a.dst = w)) || (Q.any (fun w => decide (a.src = w)) && P.any fun w => decide (a.dst = w))
def YC (P Q : List Int) (l : List Arc) : Int := l.foldl (fun m a => if ZaW P Q a = true then min m a.miles else m) 10001
theorem Za0 {P Q : List Int} {l : List Arc} {k : Nat} (h : k < l.length) : YC P Q (l.take (k + 1)) = if ZaW P Q (nth l k) = true then min (YC P Q (l.take k)) (nth l k).miles else YC P Q (l.take k) := by
 rw [List.take_succ_eq_append_getElem h, YC, List.foldl_append, Ze h]; rfl
def Zen (x : Inst) (i j : Nat) : Int := if (K2 x i).any (fun a => (K2 x j).any fun b => decide (a = b)) = true then 0 else YC (K2 x i) (K2 x j) x.net.arcs
theorem ZaZ (x : Inst) (Q : List Int) (a : Int) (hQ : Q.length <= 1048576) : ACalls Tryz.prog 167 [.p (eI a), .ptr 1 0] [Zb x, .cells [.p (.list false (Q.map eI))]] fun y H' => y = .p (.bool (Q.any fun b => decide (a = b))) /\ H' = [Zb x, .cells [.p (.list false (Q.map eI))]] := by
 refine Zc [] Tryz.func167 rfl ZsA ?_;simp (disch := omega) only [Tryz.f167, Zb, go_sem, seval];refine (Yl Q false a hQ).use ?_;simp (disch := omega) only [go_sem, seval];exact we (by simp (disch := omega) only [Zb, go_sem, seval])
theorem ZdF (x : Inst) (i j : Nat) (hi : i < x.orders.length) (hj : j < x.orders.length) (ho : x.orders.length <= 1048576) (ha : x.net.arcs.length <= 1048576) :
  PC 114 [.p (Zy x), .p (.int .i64 (i : Int)), .p (.int .i64 (j : Int))] (.int .i64 (Zen x i j)) := by
 have hPl := UQ x i;have hQl := UQ x j;refine Zc [] Tryz.func114 rfl ZoQ ?_;simp (disch := omega) only [Tryz.f114, go_sem, seval];refine Xl [6] 7 mixed (by kernel_rfl) (by kernel_rfl) (by kernel_rfl) (by simp) ?_;simp (disch := omega) only [go_sem, seval];refine Zt ((Q6 x i hi ho).frozen (by simp)) ?_;simp (disch := omega) only [go_sem, seval];refine Zt ((Q6 x j hj ho).frozen (by simp)) ?_;simp (disch := omega) only [go_sem, seval];refine Z0 _ _ (by simp (disch := omega) only [go_sem, seval]; exact ⟨rfl, rfl⟩) ?_;unfold Zen
 generalize K2 x i = P at *
 generalize K2 x j = Q at *
 simp (disch := omega) only [QR, go_sem, seval];refine (Ws P false 167 [.ptr 1 0] [Zb x, .cells [.p (.list false (Q.map eI))]] (fun a => Q.any fun b => decide (a = b)) (by omega) (by simp (disch := omega) only [Zb, go_sem, seval]) (by simp (disch := omega) only [go_sem, seval]) fun a _ => ZaZ x Q a (by omega)).useH ?_;simp (disch := omega) only [Zb, go_sem, seval];refine cD ?_ ?_ <;> intro h1 <;> simp (disch := omega) only [Sh.out h1, go_sem, seval]
 ·exact we
 ·refine Zf [7, 8, 25, 26] (fun k : Nat => [(9, .p (.int .i64 (YC P Q (x.net.arcs.take k)))), (27, .p (.int .i64 k))]) (fun _ => [Zb x, .cells [.p (.list false (Q.map eI))]]) (fun k => k <= x.net.arcs.length) (fun k => x.net.arcs.length - k) 0 (by simp) (Weak.mk ?_) ?_
  ·simp (disch := omega) only [Zb, YC, List.take_zero, List.foldl_nil, go_sem, seval]
  ·intro k hk;simp (disch := omega) only [Zb, go_sem, seval];refine cD ?_ ?_ <;> intro h2 <;> simp (disch := omega) only [Sh.out h2, go_sem, seval]
   ·have hk2 : k < x.net.arcs.length := by omega
    have hs := Za0 (P := P) (Q := Q) hk2;have c1 := Yl P false (nth x.net.arcs k).src (by omega);have c2 := Yl Q false (nth x.net.arcs k).dst (by omega);have c3 := Yl Q false (nth x.net.arcs k).src (by omega);have c4 := Yl P false (nth x.net.arcs k).dst (by omega);rw [ZaW] at hs
    generalize P.any (fun w => decide ((nth x.net.arcs k).src = w)) = b1 at *
    generalize Q.any (fun w => decide ((nth x.net.arcs k).dst = w)) = b2 at *
    generalize Q.any (fun w => decide ((nth x.net.arcs k).src = w)) = b3 at *
    generalize P.any (fun w => decide ((nth x.net.arcs k).dst = w)) = b4 at *
    have hmin : Zat true [.p (.int .i64 (YC P Q (x.net.arcs.take k))), .p (.int .i64 (nth x.net.arcs k).miles)] = some (.int .i64 (min (YC P Q (x.net.arcs.take k)) (nth x.net.arcs k).miles)) := by
     by_cases h : YC P Q (x.net.arcs.take k) <= (nth x.net.arcs k).miles
     ·rw [ZbT h, Int.min_eq_left h]
     ·rw [Zbl (by omega), Int.min_eq_right (by omega)]
    refine (c1).use ?_;simp (disch := omega) only [go_sem, seval]
    cases b1 with
    | true =>
     simp (disch := omega) only [go_sem, seval];refine (c2).use ?_;simp (disch := omega) only [go_sem, seval];refine (c3).use ?_;simp (disch := omega) only [go_sem, seval]
     cases b3 with
     | true =>
      simp (disch := omega) only [go_sem, seval];refine (c4).use ?_;simp (disch := omega) only [go_sem, seval]
      cases b2 with
      | true =>
       simp (disch := omega) only [hmin, go_sem, seval];simp only [Bool.true_and, Bool.false_and, Bool.or_true, Bool.true_or, Bool.or_false, Bool.false_or, if_true, Bool.false_eq_true, if_false] at hs;exact ⟨k + 1, by omega, by omega, Weak.mk (by simp (disch := omega) only [Zb, hs, go_sem, seval])⟩
      | false =>
       simp (disch := omega) only [go_sem, seval]
       cases b4 with
       | true =>
        simp (disch := omega) only [hmin, go_sem, seval];simp only [Bool.true_and, Bool.false_and, Bool.or_true, Bool.true_or, Bool.or_false, Bool.false_or, if_true, Bool.false_eq_true, if_false] at hs;exact ⟨k + 1, by omega, by omega, Weak.mk (by simp (disch := omega) only [Zb, hs, go_sem, seval])⟩
       | false =>
        simp (disch := omega) only [hmin, go_sem, seval];simp only [Bool.true_and, Bool.false_and, Bool.or_true, Bool.true_or, Bool.or_false, Bool.false_or, if_true, Bool.false_eq_true, if_false] at hs;exact ⟨k + 1, by omega, by omega, Weak.mk (by simp (disch := omega) only [Zb, hs, go_sem, seval])⟩
     | false =>
      simp (disch := omega) only [go_sem, seval]
      cases b2 with
      | true =>
       simp (disch := omega) only [hmin, go_sem, seval];simp only [Bool.true_and, Bool.false_and, Bool.or_true, Bool.true_or, Bool.or_false, Bool.false_or, if_true, Bool.false_eq_true, if_false] at hs;exact ⟨k + 1, by omega, by omega, Weak.mk (by simp (disch := omega) only [Zb, hs, go_sem, seval])⟩
      | false =>
       simp (disch := omega) only [hmin, go_sem, seval];simp only [Bool.true_and, Bool.false_and, Bool.or_true, Bool.true_or, Bool.or_false, Bool.false_or, if_true, Bool.false_eq_true, if_false] at hs;exact ⟨k + 1, by omega, by omega, Weak.mk (by simp (disch := omega) only [Zb, hs, go_sem, seval])⟩
    | false =>
     simp (disch := omega) only [go_sem, seval];refine (c3).use ?_;simp (disch := omega) only [go_sem, seval]
     cases b3 with
     | true =>
      simp (disch := omega) only [go_sem, seval];refine (c4).use ?_;simp (disch := omega) only [go_sem, seval]
      cases b4 with
      | true =>
       simp (disch := omega) only [hmin, go_sem, seval];simp only [Bool.true_and, Bool.false_and, Bool.or_true, Bool.true_or, Bool.or_false, Bool.false_or, if_true, Bool.false_eq_true, if_false] at hs;exact ⟨k + 1, by omega, by omega, Weak.mk (by simp (disch := omega) only [Zb, hs, go_sem, seval])⟩
      | false =>
       simp (disch := omega) only [hmin, go_sem, seval];simp only [Bool.true_and, Bool.false_and, Bool.or_true, Bool.true_or, Bool.or_false, Bool.false_or, if_true, Bool.false_eq_true, if_false] at hs;exact ⟨k + 1, by omega, by omega, Weak.mk (by simp (disch := omega) only [Zb, hs, go_sem, seval])⟩
     | false =>
      simp (disch := omega) only [go_sem, seval];simp only [Bool.true_and, Bool.false_and, Bool.or_true, Bool.true_or, Bool.or_false, Bool.false_or, if_true, Bool.false_eq_true, if_false] at hs;exact ⟨k + 1, by omega, by omega, Weak.mk (by simp (disch := omega) only [Zb, hs, go_sem, seval])⟩
   ·have hkl : k = x.net.arcs.length := by omega
    subst hkl;rw [List.take_length];exact we (by simp (disch := omega) only [h1, Bool.false_eq_true, if_false, go_sem, seval])
theorem Zfj {S i : Nat} (h : S.testBit i = false) : S ||| pw i = S + pw i := Nat.eq_of_testBit_eq fun j => by rw [Zcw h, Nat.testBit_or, Z5]
theorem or_self {S i : Nat} (h : S.testBit i = true) : S ||| pw i = S := Nat.eq_of_testBit_eq fun j => by
 rw [Nat.testBit_or, Z5]
 by_cases c : i = j
 ·subst c; simp [h]
 ·simp [c]
theorem XY (S i : Nat) (hS : S < 9223372036854775808) (hi : i <= 62) : PC 49 [.p (.int .i64 (S : Int)), .p (.int .i64 (i : Int))] (.bool (S.testBit i)) := by
 have q0 : (0 : Int) <= (S : Int) := by omega
 have q1 : (0 : Int) <= (i : Int) := by omega
 have q2 : (i : Int) <= 62 := by omega
 refine Za Tryz.func49 rfl Zor ?_;simp (disch := omega) only [Tryz.f49, q0, q1, q2, go_sem, seval];have e2 : S.testBit i = decide (S / pw i % 2 = 1) := Zc3 S i;rw [Int.tmod_eq_emod_of_nonneg (Int.natCast_nonneg _), e2]
 congr 2
 rw [decide_eq_decide];omega
theorem ZhI (s i : Int) (hs : s < 0) : PC 49 [.p (.int .i64 s), .p (.int .i64 i)] (.bool false) := by
 have q0 : ¬ 0 <= s := by omega
 refine Za Tryz.func49 rfl Zor ?_;simp (disch := omega) only [Tryz.f49, q0, go_sem, seval]
theorem WK (S i : Nat) (hS : S < 2305843009213693952) (hi : i <= 60) : PC 50 [.p (.int .i64 (S : Int)), .p (.int .i64 (i : Int))] (.int .i64 ((S ||| pw i : Nat) : Int)) := by
 have hp : pw i <= pw 60 := ZS hi;have e60 : pw 60 = 1152921504606846976 := rfl;refine Za Tryz.func50 rfl ZyW ?_;simp (disch := omega) only [Tryz.f50, go_sem, seval];refine (XY S i (by omega) (by omega)).use ?_;simp (disch := omega) only [go_sem, seval]
 cases h : S.testBit i with
 | true =>
  simp (disch := omega) only [go_sem, seval];rw [or_self h]
 | false =>
  simp (disch := omega) only [go_sem, seval];rw [Zfj h, Int.natCast_add]
theorem Qk (x : Inst) (p : Pln) (b : Bool) (hn : x.orders.length <= 60) (hr : p.routes.length <= 1048576) (hu : p.unserved.length <= 1048576) (hb : ∀ r ∈ p.routes, rteB r) :
  PC 47 [.p (Zy x), .p (Jf p), .p (.bool b)] (.bool (kno x.orders.length p.routes && (!b || Zc5 x.orders.length p.unserved))) := by
 refine Za Tryz.func47 rfl Zys ?_;simp (disch := omega) only [Tryz.f47, go_sem, seval];refine Zf [2, 3, 4] (fun i : Nat => [(7, .p (.int .i64 (i : Int)))]) (fun _ => [Zb x, ZB p]) (fun i => i <= p.routes.length /\ ∀ j, j < i -> Za7 x.orders.length (nth p.routes j) = true) (fun i => p.routes.length - i) 0 (by simp) (Weak.mk ?_) ?_
 ·simp (disch := omega) only [Zb, ZB, go_sem, seval]
 ·rintro i ⟨hi, hno⟩;simp (disch := omega) only [Zb, ZB, go_sem, seval];refine cD ?_ ?_ <;> intro h1 <;> simp (disch := omega) only [Sh.out h1, go_sem, seval]
  ·have hi2 : i < p.routes.length := by omega
   have hbi := hb _ (Zi hi2)
   have hbad : Za7 x.orders.length (nth p.routes i) = false -> kno x.orders.length p.routes = false := fun h4 => by
    rw [kno, List.all_eq_false]; exact ⟨nth p.routes i, Zi hi2, by rw [h4]; simp⟩
   have hvl := hbi.1;refine Zf [2, 3, 4, 7] (fun k : Nat => [(8, .p (.int .i64 (k : Int)))]) (fun _ => [Zb x, ZB p]) (fun k => k <= (nth p.routes i).visits.length /\ ∀ j, j < k -> ZgZ x.orders.length (nth (nth p.routes i).visits j) = true) (fun k => (nth p.routes i).visits.length - k) 0 (by simp) (Weak.mk ?_) ?_
   ·simp (disch := omega) only [Zb, ZB, go_sem, seval]
   ·rintro k ⟨hk, hnk⟩;simp (disch := omega) only [Zb, ZB, go_sem, seval];refine cD ?_ ?_ <;> intro h2 <;> simp (disch := omega) only [Sh.out h2, go_sem, seval]
    ·have hk2 : k < (nth p.routes i).visits.length := by omega
     have hbk : ZgZ x.orders.length (nth (nth p.routes i).visits k) = false -> kno x.orders.length p.routes = false := fun h4 => hbad (by
      rw [Za7, List.all_eq_false]; exact ⟨_, Zi hk2, by rw [h4]; simp⟩)
     refine gF ?_ ?_ <;> intro h3 <;> simp (disch := omega) only [Sh.out h3, go_sem, seval]
     ·rw [hbk (by simp [ZgZ]; omega)]
      rfl
     ·refine gF ?_ ?_ <;> intro h4 <;> simp (disch := omega) only [Sh.out h4, go_sem, seval]
      ·rw [hbk (by simp [ZgZ]; omega)]
       rfl
      ·refine cD ?_ ?_ <;> intro h5 <;> simp (disch := omega) only [Sh.out h5, go_sem, seval]
       ·omega
       ·exact ⟨k + 1, ⟨by omega, Zh.2 ⟨hnk, by simp [ZgZ]; omega⟩⟩, by omega, Weak.mk (by simp (disch := omega) only [Zb, ZB, go_sem, seval])⟩
    ·have hkl : k = (nth p.routes i).visits.length := by omega
     subst hkl;refine ⟨i + 1, ⟨by omega, Zh.2 ⟨hno, ?_⟩⟩, by omega, Weak.mk (by simp (disch := omega) only [Zb, ZB, go_sem, seval])⟩;rw [Za7, List.all_eq_true];intro v hv;obtain ⟨j, hj, rfl⟩ := List.mem_iff_getElem.1 hv;rw [<- Ze hj]; exact hnk j hj
  ·have hil : i = p.routes.length := by omega
   subst hil
   have hk : kno x.orders.length p.routes = true := by
    rw [kno, List.all_eq_true];intro r hr;obtain ⟨j, hj, rfl⟩ := List.mem_iff_getElem.1 hr;rw [<- Ze hj]; exact hno j hj
   rw [hk, Bool.true_and];refine Zf [2, 3, 4] (fun i : Nat => [(10, .p (.int .i64 (i : Int)))]) (fun _ => [Zb x, ZB p]) (fun i => i <= p.unserved.length /\ ∀ j, j < i -> Zej x.orders.length (nth p.unserved j) = false) (fun i => p.unserved.length - i) 0 (by simp) (Weak.mk ?_) ?_
   ·simp (disch := omega) only [Zb, ZB, go_sem, seval]
   ·rintro i ⟨hi, hno⟩;simp (disch := omega) only [Zb, ZB, go_sem, seval];refine gT ?_ ?_ <;> intro h2 <;> simp (disch := omega) only [Sh.out h2, go_sem, seval]
    ·have hi2 : i < p.unserved.length := by omega
     cases b with
     | false =>
      simp (disch := omega) only [go_sem, seval]
     | true =>
      simp (disch := omega) only [go_sem, seval];refine Zj mixed (by kernel_rfl) (by kernel_rfl) ?_;simp (disch := omega) only [go_sem, seval];refine gF ?_ ?_ <;> intro h3 <;> simp (disch := omega) only [Sh.out h3, go_sem, seval]
      ·have : Zc5 x.orders.length p.unserved = false := by rw [Zc5, List.all_eq_false]; exact ⟨_, Zi hi2, by simp; omega⟩
       rw [this]
      ·refine cD ?_ ?_ <;> intro h4 <;> simp (disch := omega) only [Sh.out h4, go_sem, seval]
       ·have : Zc5 x.orders.length p.unserved = false := by rw [Zc5, List.all_eq_false]; exact ⟨_, Zi hi2, by simp; omega⟩
        rw [this]
       ·exact ⟨i + 1, ⟨by omega, Zh.2 ⟨hno, by simp [Zej]; omega⟩⟩, by omega, Weak.mk (by simp (disch := omega) only [Zb, ZB, go_sem, seval])⟩
    ·have hil : i = p.unserved.length := by omega
     subst hil
     have : Zc5 x.orders.length p.unserved = true := by
      rw [Zc5, List.all_eq_true];intro u hu;obtain ⟨j, hj, rfl⟩ := List.mem_iff_getElem.1 hu;have := hno j hj;rw [<- Ze hj];simp only [Zej, Bool.not_eq_false'] at this;exact this
     rw [this]
     cases b <;> rfl
theorem Zew {l : List Vis} {k : Nat} (h : k < l.length) : XD (l.take (k + 1)) = XD (l.take k) ||| pw (nth l k).order.toNat := VN h
theorem WH (n : Nat) (l : List Rte) (c : Bool) (hn : n <= 60) (hk : kno n l = true) (hr : l.length <= 1048576) (hb : ∀ r ∈ l, rteB r) :
  PC 52 [.p (.list c (l.map Yq))] (.int .i64 (XC l : Nat)) := by
 have h60 : pw n <= pw 60 := ZS hn;have e60 : pw 60 = 1152921504606846976 := rfl;have hki := Qh.1 hk;refine Za Tryz.func52 rfl Zw0 ?_;simp (disch := omega) only [Tryz.f52, go_sem, seval];refine Zf [0] (fun i : Nat => [(3, .p (.int .i64 (XC (l.take i) : Nat))), (4, .p (.int .i64 (i : Int)))]) (fun _ => []) (fun i => i <= l.length) (fun i => l.length - i) 0 (by simp) (Weak.mk ?_) ?_
 ·simp (disch := omega) only [XC, List.take_zero, List.foldl_nil, go_sem, seval]
 ·intro i hi;have hls : XC (l.take i) < pw n := W3 (Qh.2 fun r hr => hki r (List.mem_of_mem_take hr));simp (disch := omega) only [go_sem, seval];refine cD ?_ ?_ <;> intro h1 <;> simp (disch := omega) only [Sh.out h1, go_sem, seval]
  ·have hi2 : i < l.length := by omega
   have hbi := hb _ (Zi hi2);have hvl := hbi.1;have hvi := hki _ (Zi hi2);have hs := Zas hi2
   generalize XC (l.take i) = S at *
   have hlo : ∀ k, S ||| XD ((nth l i).visits.take k) < pw n := fun k => Nat.or_lt_two_pow hls (by
    rw [U2];refine YF fun o ho => ?_;obtain ⟨v, hv, rfl⟩ := List.mem_map.1 ho;have := hvi v (List.mem_of_mem_take hv)
    omega)
   refine Zf [0, 4] (fun k : Nat => [(3, .p (.int .i64 (S ||| XD ((nth l i).visits.take k) : Nat))), (5, .p (.int .i64 (k : Int)))]) (fun _ => []) (fun k => k <= (nth l i).visits.length) (fun k => (nth l i).visits.length - k) 0 (by simp) (Weak.mk ?_) ?_
   ·simp (disch := omega) only [XD, List.take_zero, List.foldl_nil, Nat.or_zero, go_sem, seval]
   ·intro k hk;have hlk := hlo k;simp (disch := omega) only [go_sem, seval];refine cD ?_ ?_ <;> intro h2 <;> simp (disch := omega) only [Sh.out h2, go_sem, seval]
    ·have hk2 : k < (nth l i).visits.length := by omega
     have hv := hvi _ (Zi hk2);have ht := Zew hk2;obtain ⟨o, ho⟩ : ∃ o : Nat, (nth (nth l i).visits k).order = o := ⟨_, (Int.toNat_of_nonneg hv.1).symm⟩;rw [ho] at hv ht;rw [Int.toNat_natCast] at ht;rw [ho];refine (WK (S ||| XD ((nth l i).visits.take k)) o (by omega) (by omega)).use ?_;simp (disch := omega) only [go_sem, seval];exact ⟨k + 1, by omega, by omega, Weak.mk (by simp (disch := omega) only [ht, Nat.or_assoc, go_sem, seval])⟩
    ·have hkl : k = (nth l i).visits.length := by omega
     subst hkl;rw [List.take_length];exact ⟨i + 1, by omega, by omega, Weak.mk (by simp (disch := omega) only [hs, go_sem, seval])⟩
  ·have hil : i = l.length := by omega
   subst hil;rw [List.take_length]
theorem ZdN (x : Inst) (s : Int) (hn : x.orders.length <= 60) (hs : I64 s) : PC 46 [.p (Zy x), .p (.int .i64 s)] (.bool (Vg x.orders.length s)) := by
 refine Za Tryz.func46 rfl Zyb ?_;simp (disch := omega) only [Tryz.f46, go_sem, seval]
 by_cases h0 : s < 0
 ·have e : Vg x.orders.length s = decide (0 <= s) := by
   have : ¬ 0 <= s := by omega
   simp [Vg, this]
  rw [e];refine Zf [1, 2] (fun k : Nat => [(5, .p (.int .i64 (k : Int)))]) (fun _ => [Zb x]) (fun k => k <= 63) (fun k => 63 - k) 0 (by simp) (Weak.mk ?_) ?_
  ·simp (disch := omega) only [Zb, go_sem, seval]
  ·intro k hk;simp (disch := omega) only [Zb, go_sem, seval];refine cD ?_ ?_ <;> intro h1 <;> simp (disch := omega) only [Sh.out h1, go_sem, seval]
   ·refine (ZhI s (k : Int) h0).use ?_;simp (disch := omega) only [go_sem, seval];exact ⟨k + 1, by omega, by omega, Weak.mk (by simp (disch := omega) only [Zb, go_sem, seval])⟩
 ·obtain ⟨S, rfl⟩ : ∃ S : Nat, s = S := ⟨s.toNat, by omega⟩
  have hS : S < 9223372036854775808 := by have := hs.2; omega
  have hlt : S < pw x.orders.length ↔ ∀ j, j < 63 -> S.testBit j = true -> j < x.orders.length := by
   constructor
   ·intro h j _ hj; exact XS h hj
   ·intro h
    exact Zdu fun j hj => h j (by
     rcases Nat.lt_or_ge j 63 with h1 | h1
     ·exact h1
     ·have : S < 2 ^ j := Nat.lt_of_lt_of_le hS (Nat.le_trans (by decide : 9223372036854775808 <= 2 ^ 63) (Nat.pow_le_pow_right (by omega) h1))
      rw [Nat.testBit_lt_two_pow this] at hj; cases hj) hj
  refine Zf [1, 2] (fun k : Nat => [(5, .p (.int .i64 (k : Int)))]) (fun _ => [Zb x]) (fun k => k <= 63 /\ ∀ j, j < k -> S.testBit j = true -> j < x.orders.length) (fun k => 63 - k) 0 (by simp) (Weak.mk ?_) ?_
  ·simp (disch := omega) only [Zb, go_sem, seval]
  ·rintro k ⟨hk, hno⟩;simp (disch := omega) only [Zb, go_sem, seval];refine cD ?_ ?_ <;> intro h1 <;> simp (disch := omega) only [Sh.out h1, go_sem, seval]
   ·refine (XY S k hS (by omega)).use ?_;simp (disch := omega) only [go_sem, seval]
    cases hb : S.testBit k with
    | true =>
     simp (disch := omega) only [go_sem, seval];refine cD ?_ ?_ <;> intro h2 <;> simp (disch := omega) only [Sh.out h2, go_sem, seval]
     ·have : Vg x.orders.length (S : Int) = false := by
       have h5 : ¬ S < pw x.orders.length := fun h => by have := hlt.1 h k (by omega) hb; omega
       have : ¬ (S : Int) < ((pw x.orders.length : Nat) : Int) := by omega
       simp [Vg, this]
      rw [this]
     ·exact ⟨k + 1, ⟨by omega, fun j h3 h4 => by
       rcases Nat.eq_or_lt_of_le (show j <= k by omega) with e | e
       ·omega
       ·exact hno j e h4⟩, by omega, Weak.mk (by simp (disch := omega) only [Zb, go_sem, seval])⟩
    | false =>
     simp (disch := omega) only [go_sem, seval]
     exact ⟨k + 1, ⟨by omega, fun j h3 h4 => by
      rcases Nat.eq_or_lt_of_le (show j <= k by omega) with e | e
      ·subst e; rw [hb] at h4; cases h4
      ·exact hno j e h4⟩, by omega, Weak.mk (by simp (disch := omega) only [Zb, go_sem, seval])⟩
   ·have hk63 : k = 63 := by omega
    subst hk63;have h5 := hlt.2 hno
    have e : Vg x.orders.length (S : Int) = true := by
     have q1 : (0 : Int) <= (S : Int) := by omega
     have q2 : (S : Int) < ((pw x.orders.length : Nat) : Int) := by omega
     simp [Vg, q1, q2]
    have q1 : (0 : Int) <= (S : Int) := by omega
    rw [e];simp [q1]
def Zi8 (N S on k : Nat) : Bool := (List.range k).any fun j => N.testBit j && S.testBit j && on.testBit j
theorem Zkp {n : Nat} {be : List (Int × Int)} {on S i : Nat} (ha : on < pw n) : lvB n be on S i = (on.testBit i && Zi8 (ZH n be (i : Int)) S on n) := by
 rw [lvB, Zi8]
 congr 1
 rw [Bool.eq_iff_iff, decide_eq_true_eq, List.any_eq_true]
 constructor
 ·intro h;obtain ⟨j, hj⟩ := Nat.exists_testBit_of_ne_zero h;rw [Nat.testBit_and, Nat.testBit_and] at hj
  have h2 : on.testBit j = true := by rw [Bool.and_eq_true] at hj; exact hj.2
  exact ⟨j, List.mem_range.2 (XS ha h2), hj⟩
 ·rintro ⟨j, _, hj⟩ h
  have : ((ZH n be (i : Int)) &&& S &&& on).testBit j = true := by rw [Nat.testBit_and, Nat.testBit_and]; exact hj
  rw [h] at this; simp at this
theorem ZbA (x : Inst) (p : Pln) (S : Nat) (hn : x.orders.length <= 60) (hl : x.before.length <= 1048576) (hv : Val x.orders.length x.before) (hk : kno x.orders.length p.routes = true) (hr : p.routes.length <= 1048576) (hb : ∀ r ∈ p.routes, rteB r) (hS : S < 9223372036854775808) :
  PC 48 [.p (Zy x), .p (Jf p), .p (.int .i64 (S : Int))] (.int .i64 (lvS x.orders.length x.before (XC p.routes) S : Nat)) := by
 have h60 : pw x.orders.length <= pw 60 := ZS hn;have e60 : pw 60 = 1152921504606846976 := rfl;have hon := W3 hk;refine Za Tryz.func48 rfl Zy2 ?_;simp (disch := omega) only [Tryz.f48, go_sem, seval];refine (WH x.orders.length p.routes p.routes_c hn hk hr hb).use ?_;simp (disch := omega) only [go_sem, seval]
 generalize XC p.routes = on at *
 refine Zf [2, 3, 7] (fun i : Nat => [(8, .p (.int .i64 (Xy (lvB x.orders.length x.before on S) i : Nat))), (9, .p (.int .i64 (i : Int)))]) (fun _ => [Zb x, ZB p]) (fun i => i <= x.orders.length) (fun i => x.orders.length - i) 0 (by simp) (Weak.mk ?_) ?_
 ·simp (disch := omega) only [Zb, ZB, Xy, go_sem, seval]
 ·intro i hi;have hsl := Yv (lvB x.orders.length x.before on S) i;have hsi : pw i <= pw 60 := ZS (by omega);simp (disch := omega) only [Zb, ZB, go_sem, seval];refine cD ?_ ?_ <;> intro h1 <;> simp (disch := omega) only [Sh.out h1, go_sem, seval]
  ·have hi2 : i < x.orders.length := by omega
   refine (ZiT x (i : Int) hn hl hv).use ?_;simp (disch := omega) only [go_sem, seval]
   have hnd : ZH x.orders.length x.before (i : Int) < pw x.orders.length := by rw [<- Vh hv hi2]; exact Yv _ _
   have hlv := Zkp (be := x.before) (S := S) (i := i) hon
   have hss : Xy (lvB x.orders.length x.before on S) (i + 1) = if lvB x.orders.length x.before on S i = true then Xy (lvB x.orders.length x.before on S) i ||| pw i else Xy (lvB x.orders.length x.before on S) i := by
    have hb0 : (Xy (lvB x.orders.length x.before on S) i).testBit i = false := Nat.testBit_lt_two_pow hsl;rw [Xy, Zfj hb0]
   generalize Xy (lvB x.orders.length x.before on S) i = O at *
   generalize ZH x.orders.length x.before (i : Int) = N at *
   refine Zf [2, 3, 7, 9, 10] (fun k : Nat => [(8, .p (.int .i64 ((if (on.testBit i && Zi8 N S on k) = true then O ||| pw i else O : Nat) : Int))), (11, .p (.int .i64 (k : Int)))]) (fun _ => [Zb x, ZB p]) (fun k => k <= x.orders.length) (fun k => x.orders.length - k) 0 (by simp) (Weak.mk ?_) ?_
   ·simp (disch := omega) only [Zb, ZB, Zi8, List.range_zero, List.any_nil, Bool.and_false, Bool.false_eq_true, if_false, go_sem, seval]
   ·intro k hk2
    have hany : Zi8 N S on (k + 1) = (Zi8 N S on k || (N.testBit k && S.testBit k && on.testBit k)) := by
     rw [Zi8, Zi8, List.range_succ, List.any_append]; simp
    simp (disch := omega) only [Zb, ZB, go_sem, seval];refine gT ?_ ?_ <;> intro h2 <;> simp (disch := omega) only [Sh.out h2, go_sem, seval]
    ·have hk3 : k < x.orders.length := by omega
     refine (XY on i (by omega) (by omega)).use ?_;simp (disch := omega) only [go_sem, seval]
     cases hoi : on.testBit i with
     | false =>
      simp (disch := omega) only [go_sem, seval];rw [hoi, Bool.false_and] at hlv;rw [hlv] at hss;exact ⟨i + 1, by omega, by omega, Weak.mk (by simp (disch := omega) only [Zb, ZB, hss, Bool.false_and, Bool.false_eq_true, if_false, go_sem, seval])⟩
     | true =>
      simp (disch := omega) only [go_sem, seval]
      try simp only [Bool.true_and]
      generalize Zi8 N S on k = A at *
      have hOl : (if A = true then O ||| pw i else O) < pw 61 := by
       split
       ·exact Nat.or_lt_two_pow (Nat.lt_of_lt_of_le hsl (ZS (by omega))) (Nat.pow_lt_pow_right (by omega) (by omega))
       ·exact Nat.lt_of_lt_of_le hsl (ZS (by omega))
      have e61 : pw 61 = 2305843009213693952 := rfl;refine (XY N k (by omega) (by omega)).use ?_;simp (disch := omega) only [go_sem, seval]
      cases hNk : N.testBit k with
      | false =>
       simp (disch := omega) only [go_sem, seval];rw [hNk] at hany;simp only [Bool.false_and, Bool.or_false] at hany;exact ⟨k + 1, by omega, by omega, Weak.mk (by simp (disch := omega) only [Zb, ZB, hany, Bool.true_and, go_sem, seval])⟩
      | true =>
       simp (disch := omega) only [go_sem, seval];refine (XY S k hS (by omega)).use ?_;simp (disch := omega) only [go_sem, seval]
       cases hSk : S.testBit k with
       | false =>
        simp (disch := omega) only [go_sem, seval];rw [hNk, hSk] at hany;simp only [Bool.true_and, Bool.false_and, Bool.or_false] at hany;exact ⟨k + 1, by omega, by omega, Weak.mk (by simp (disch := omega) only [Zb, ZB, hany, Bool.true_and, go_sem, seval])⟩
       | true =>
        simp (disch := omega) only [go_sem, seval];refine (XY on k (by omega) (by omega)).use ?_;simp (disch := omega) only [go_sem, seval]
        cases hok : on.testBit k with
        | false =>
         simp (disch := omega) only [go_sem, seval];rw [hNk, hSk, hok] at hany;simp only [Bool.true_and, Bool.or_false] at hany;exact ⟨k + 1, by omega, by omega, Weak.mk (by simp (disch := omega) only [Zb, ZB, hany, Bool.true_and, go_sem, seval])⟩
        | true =>
         simp (disch := omega) only [go_sem, seval];rw [hNk, hSk, hok] at hany;simp only [Bool.true_and, Bool.or_true] at hany;refine (WK (if A = true then O ||| pw i else O) i (by omega) (by omega)).use ?_;simp (disch := omega) only [go_sem, seval]
         have e9 : (if A = true then O ||| pw i else O) ||| pw i = O ||| pw i := by
          split
          ·rw [Nat.or_assoc, Nat.or_self]
          ·rfl
         exact ⟨k + 1, by omega, by omega, Weak.mk (by simp (disch := omega) only [Zb, ZB, hany, e9, Bool.true_and, if_true, go_sem, seval])⟩
    ·have hkn : k = x.orders.length := by omega
     subst hkn
     rw [<- hlv] at *
     exact ⟨i + 1, by omega, by omega, Weak.mk (by simp (disch := omega) only [Zb, ZB, hss, go_sem, seval])⟩
  ·have hin : i = x.orders.length := by omega
   rw [hin]
   rfl
theorem ZaL (x : Inst) (l : List Rte) (c : Bool) (hx : InstOk x) (hl : l.length <= 100) (hb : ∀ r ∈ l, rteB r) : PT 53 [.p (Zy x), .p (.list c (l.map Yq))] [.p (.int .i64 (W9 x l).1), .p (.int .i64 (W9 x l).2)] := by
 refine Zc [] Tryz.func53 rfl ZwO ?_;simp (disch := omega) only [Tryz.f53, go_sem, seval];refine Zf [1, 2] (fun k : Nat => [(6, .p (.int .i64 (Zei x (l.take k)))), (7, .p (.int .i64 (k : Int)))]) (fun _ => [Zb x]) (fun k => k <= l.length /\ ∀ j, j < k -> (UV x (nth l j)).2 = 0) (fun k => l.length - k) 0 (by simp) (Weak.mk ?_) ?_
 ·simp (disch := omega) only [Zb, Zei, List.take_zero, List.foldl_nil, go_sem, seval]
 ·rintro k ⟨hk, h0⟩;have hr := U0 (x := x) k hk;simp (disch := omega) only [Zb, go_sem, seval];refine cD ?_ ?_ <;> intro h1 <;> simp (disch := omega) only [Sh.out h1, go_sem, seval]
  ·have hk2 : k < l.length := by omega
   have hp := Kg x (nth l k);have hs := U9 (x := x) hk2;refine Zj mixed (by kernel_rfl) (by kernel_rfl) ?_;simp (disch := omega) only [go_sem, seval];refine Qf (ZbV x (nth l k) hx (hb _ (Zi hk2))) ?_;simp (disch := omega) only [go_sem, seval];refine cD ?_ ?_ <;> intro h2 <;> simp (disch := omega) only [Sh.out h2, go_sem, seval]
   ·rw [ZeE hk2 h0 h2];exact we
   ·exact ⟨k + 1, ⟨by omega, Zh.2 ⟨h0, by omega⟩⟩, by omega, Weak.mk (by simp (disch := omega) only [Zb, hs, go_sem, seval])⟩
  ·have hkl : k = l.length := by omega
   subst hkl;rw [ZbG h0, List.take_length];exact we
theorem ZdE (x : Inst) (p : Pln) (set : Int) (h : Rm x p) (hs : I64 set) :
  PT 14 [.p (Zy x), .p (Jf p), .p (.int .i64 set)] [.p (Jf (rmF x p set).1), .p (.int .i64 ((rmF x p set).2.1 : Nat)), .p (.int .i64 (rmF x p set).2.2)] := by
 obtain ⟨hn, hbl, hv, hr, hu, hb⟩ := h;have h60 : pw x.orders.length <= pw 60 := ZS hn;have e60 : pw 60 = 1152921504606846976 := rfl;refine Zc [5] Tryz.func14 rfl ZyX ?_;simp (disch := omega) only [Tryz.f14, go_sem, seval];refine (ZdN x set hn hs).use ?_;simp (disch := omega) only [go_sem, seval]
 cases hok : Vg x.orders.length set with
 | false =>
  have e : rmF x p set = (ZgQ, 0, 2) := by rw [rmF, hok, Bool.and_false]; rfl
  rw [e];simp (disch := omega) only [go_sem, seval];exact we (by simp (disch := omega) only [ZgQ, List.map_nil, go_sem, seval])
 | true =>
  simp (disch := omega) only [go_sem, seval];have ck := Qk x p true hn hr (by omega) hb;rw [show (kno x.orders.length p.routes && (!true || Zc5 x.orders.length p.unserved)) = QU x p from rfl] at ck;refine (ck).use ?_;simp (disch := omega) only [go_sem, seval]
  cases hask : QU x p with
  | false =>
   have e : rmF x p set = (ZgQ, 0, 2) := by rw [rmF, hask]; rfl
   rw [e];simp (disch := omega) only [go_sem, seval];exact we (by simp (disch := omega) only [ZgQ, List.map_nil, go_sem, seval])
  | true =>
   have hk : kno x.orders.length p.routes = true := by rw [QU, Bool.and_eq_true] at hask; exact hask.1
   have huI : Zc5 x.orders.length p.unserved = true := by rw [QU, Bool.and_eq_true] at hask; exact hask.2
   rw [Vg, Bool.and_eq_true, decide_eq_true_eq, decide_eq_true_eq] at hok;obtain ⟨S, rfl⟩ : ∃ S : Nat, set = S := ⟨set.toNat, by omega⟩
   have hS : S < 9223372036854775808 := by have := hs.2; omega
   have e : rmF x p (S : Int) = (rmP p (Xh x p S), Xh x p S, 0) := by
    rw [rmF, Vg, hask];simp [hok.1, hok.2]
   rw [e]
   have eg : Xh x p (S : Int) = lvS x.orders.length x.before (XC p.routes) S := by rw [Xh, Int.toNat_natCast]
   rw [eg];have hg := ZjN x.orders.length x.before (XC p.routes) S;simp (disch := omega) only [go_sem, seval];refine (ZbA x p S hn hbl hv hk hr hb hS).use ?_;simp (disch := omega) only [go_sem, seval]
   generalize lvS x.orders.length x.before (XC p.routes) S = g at *
   have hki := Qh.1 hk;refine Zm (Weak.nilC (o := 3) (j := 0) 4 (by rfl) (by rfl) (by simp)) ?_;refine Zd [15, 23, 28] _ _ _ _ ?_;simp (disch := omega) only [List.set_cons_succ, List.set_cons_zero, List.cons_append, List.nil_append, List.length_cons, List.length_nil, go_sem, seval];refine ZI [15, 23, 28] [4, 6, 9, 10] (fun i : Nat => [(11, .p (.int .i64 (i : Int)))]) (fun i => [Zb x, ZB p, .cells [.p (.list true []), .p (.list true [])], .cells [.sl 4 0 (Xi g (p.routes.take i)).length (Xi g (p.routes.take i)).length, .p (.list true [])], .elems 4 ((Xi g (p.routes.take i)).map Yq)]) (fun i => i <= p.routes.length) (fun i => p.routes.length - i) 0 (by simp) (Weak.mk ?_) ?_
   ·simp (disch := omega) only [Zb, ZB, Xi, List.take_zero, List.map_nil, List.filter_nil, List.length_nil, go_sem, seval]
   ·intro i hi;have hll : (Xi g (p.routes.take i)).length <= 1048576 := Nat.le_trans Ww (by simp; omega);simp (disch := omega) only [Zb, ZB, go_sem, seval];refine cD ?_ ?_ <;> intro h3 <;> simp (disch := omega) only [Sh.out h3, go_sem, seval]
    ·have hi2 : i < p.routes.length := by omega
     have hlt := Ji (g := g) hi2;have hbk := hb _ (Zi hi2);have hvl := hbk.1
     have hvr : ∀ v ∈ (nth p.routes i).visits, 0 <= v.order /\ v.order <= 62 := fun v hv => by have := hki _ (Zi hi2) v hv; omega
     generalize Xi g (p.routes.take i) = R at *
     refine ZI [15] [4, 6, 9, 10, 11, 12] (fun k : Nat => [(13, .sl 6 0 (((nth p.routes i).visits.take k).filter fun v => !goB g v).length (((nth p.routes i).visits.take k).filter fun v => !goB g v).length), (14, .p (.int .i64 (k : Int)))])
      (fun k => [Zb x, ZB p, .cells [.p (.list true []), .p (.list true [])], .cells [.sl 4 0 R.length R.length, .p (.list true [])], .elems 4 (R.map Yq), Zw (nth p.routes i), .elems 2 ((((nth p.routes i).visits.take k).filter fun v => !goB g v).map eVis)]) (fun k => k <= (nth p.routes i).visits.length) (fun k => (nth p.routes i).visits.length - k) 0 (by simp) (Weak.ofNil 13 2 (by simp (disch := omega) only [go_sem, seval]) (by simp) (Weak.mk ?_)) ?_
     ·simp (disch := omega) only [Zb, ZB, Zw, List.take_zero, List.filter_nil, List.map_nil, List.length_nil, go_sem, seval]
     ·intro k hk1;have hfl := List.length_filter_le (fun v => !goB g v) ((nth p.routes i).visits.take k);rw [List.length_take] at hfl;simp (disch := omega) only [Zb, ZB, Zw, go_sem, seval];refine cD ?_ ?_ <;> intro h4 <;> simp (disch := omega) only [Sh.out h4, go_sem, seval]
      ·have hk2 : k < (nth p.routes i).visits.length := by omega
       have hf := W1 (f := goB g) hk2;have hvo := hvr _ (Zi hk2);obtain ⟨o, ho⟩ : ∃ o : Nat, (nth (nth p.routes i).visits k).order = o := ⟨_, (Int.toNat_of_nonneg hvo.1).symm⟩
       have hgo : goB g (nth (nth p.routes i).visits k) = g.testBit o := by rw [goB, ho, Int.toNat_natCast]
       rw [ho] at hvo;rw [ho];refine (XY g o (by omega) (by omega)).use ?_;simp (disch := omega) only [go_sem, seval];rw [hgo] at hf
       generalize ((nth p.routes i).visits.take k).filter (fun v => !goB g v) = W at *
       cases hgb : g.testBit o with
       | true =>
        simp (disch := omega) only [go_sem, seval];rw [hgb, if_pos rfl, List.append_nil] at hf;exact ⟨k + 1, by omega, by omega, Weak.mk (by simp (disch := omega) only [Zb, ZB, Zw, hf, go_sem, seval])⟩
       | false =>
        rw [hgb, if_neg (by simp)] at hf;simp (disch := omega) only [go_sem, seval];refine ⟨k + 1, by omega, by omega, Weak.mk ?_⟩;simp (disch := omega) only [Zb, ZB, Zw, hf, List.map_append, List.map_cons, List.map_nil, List.length_append, List.length_cons, List.length_nil, go_sem, seval]
        done
      ·have hkl : k = (nth p.routes i).visits.length := by omega
       subst hkl
       rw [List.take_length] at *
       have hfe : (nth p.routes i).visits.filter (fun v => !goB g v) = (Zjf g (nth p.routes i)).visits := rfl
       rw [hfe] at *
       refine Zm (Weak.fz (o := 6) (by rfl)) ?_;refine Zd [] _ _ _ _ ?_;simp (disch := omega) only [List.map_cons, List.map_nil, List.set_cons_succ, List.set_cons_zero, go_sem, seval];refine cD ?_ ?_ <;> intro h5 <;> simp (disch := omega) only [Sh.out h5, go_sem, seval]
       ·rw [if_pos (by omega)] at hlt;refine ⟨i + 1, by omega, by omega, Weak.mk ?_⟩;simp (disch := omega) only [Zb, ZB, hlt, List.map_append, List.map_cons, List.map_nil, List.length_append, List.length_cons, List.length_nil, go_sem, seval]
        rfl
       ·rw [if_neg (by omega), List.append_nil] at hlt;exact ⟨i + 1, by omega, by omega, Weak.mk (by simp (disch := omega) only [Zb, ZB, hlt, go_sem, seval])⟩
    ·have hil : i = p.routes.length := by omega
     subst hil;rw [List.take_length] at hll ⊢;obtain ⟨R, hR⟩ : ∃ R, R = Xi g p.routes := ⟨_, rfl⟩;rw [<- hR] at hll ⊢
     have hui : ∀ u ∈ p.unserved, 0 <= u /\ u < (x.orders.length : Int) := fun u hu => by
      have := List.all_eq_true.1 huI u hu;simp only [Bool.and_eq_true, decide_eq_true_eq] at this;exact this
     have hsl : ∀ k, g ||| XV (p.unserved.take k) < pw x.orders.length := fun k => Nat.or_lt_two_pow hg (YF fun u hu => by
      have := hui u (List.mem_of_mem_take hu)
      omega)
     refine ZI [23, 28] [4, 6, 9, 10] (fun k : Nat => [(15, .p (.int .i64 (g ||| XV (p.unserved.take k) : Nat))), (16, .p (.int .i64 (k : Int)))]) (fun _ => [Zb x, ZB p, .cells [.p (.list true []), .p (.list true [])], .cells [.sl 4 0 R.length R.length, .p (.list true [])], .elems 4 (R.map Yq)]) (fun k => k <= p.unserved.length) (fun k => p.unserved.length - k) 0 (by simp) (Weak.mk ?_) ?_
     ·simp (disch := omega) only [Zb, ZB, XV, List.take_zero, List.foldl_nil, Nat.or_zero, go_sem, seval]
     ·intro k hk1;have hslk := hsl k;simp (disch := omega) only [Zb, ZB, go_sem, seval];refine cD ?_ ?_ <;> intro h4 <;> simp (disch := omega) only [Sh.out h4, go_sem, seval]
      ·have hk2 : k < p.unserved.length := by omega
       have huk := hui _ (Zi hk2);have hst := Qe hk2;obtain ⟨u, hu'⟩ : ∃ u : Nat, nth p.unserved k = u := ⟨_, (Int.toNat_of_nonneg huk.1).symm⟩;rw [hu', Int.toNat_natCast] at hst;rw [hu'] at huk;rw [hu'];refine (WK (g ||| XV (p.unserved.take k)) u (by omega) (by omega)).use ?_;simp (disch := omega) only [go_sem, seval];exact ⟨k + 1, by omega, by omega, Weak.mk (by simp (disch := omega) only [Zb, ZB, hst, Nat.or_assoc, go_sem, seval])⟩
      ·have hkl : k = p.unserved.length := by omega
       subst hkl;rw [List.take_length] at hslk ⊢
       have hun : Zlu g p.unserved = ZR ((g ||| XV p.unserved : Nat) : Int) 63 := by rw [Zlu, Nat.or_comm]
       generalize g ||| XV p.unserved = A at *
       refine Zm (Weak.nilC (o := 3) (j := 1) 1 (by rfl) (by rfl) (by simp)) ?_;refine XA ?_;refine Zd [28] _ _ _ _ ?_;simp (disch := omega) only [List.set_cons_succ, List.set_cons_zero, List.cons_append, List.nil_append, List.length_cons, List.length_nil, go_sem, seval];refine ZI [28] [6, 9, 10, 15] (fun k : Nat => [(17, .p (.int .i64 (k : Int)))]) (fun k => [Zb x, ZB p, .cells [.p (.list true []), .p (.list true [])], .cells [.sl 4 0 R.length R.length, .sl 5 0 (ZR (A : Int) k).length (ZR (A : Int) k).length], .elems 4 (R.map Yq), .elems 1 ((ZR (A : Int) k).map eI)]) (fun k => k <= 63) (fun k => 63 - k) 0 (by simp) (Weak.mk ?_) ?_
       ·simp (disch := omega) only [Zb, ZB, Wq, List.map_nil, List.length_nil, go_sem, seval]
       ·intro k hk;have hml := X0 (A : Int) k;simp (disch := omega) only [Zb, ZB, go_sem, seval];refine cD ?_ ?_ <;> intro h5 <;> simp (disch := omega) only [Sh.out h5, go_sem, seval]
        ·refine (XY A k (by omega) (by omega)).use ?_;simp (disch := omega) only [go_sem, seval];have hsn := X2 A k (by omega)
         cases hb2 : A.testBit k with
         | true =>
          have hy := VA (hsn.trans hb2);simp (disch := omega) only [go_sem, seval];refine ⟨k + 1, by omega, by omega, Weak.mk ?_⟩;simp (disch := omega) only [Zb, ZB, hy, List.map_append, List.map_cons, List.map_nil, List.length_append, List.length_cons, List.length_nil, go_sem, seval]
          done
         | false =>
          have hy := Ve (hsn.trans hb2);simp (disch := omega) only [go_sem, seval];exact ⟨k + 1, by omega, by omega, Weak.mk (by simp (disch := omega) only [Zb, ZB, hy, go_sem, seval])⟩
        ·have hk63 : k = 63 := by omega
         subst hk63;rw [<- hun];refine Zm (Weak.fz (o := 4) (by rfl)) ?_;refine Zm (Weak.fz (o := 5) (by rfl)) ?_;refine Zd [] _ _ _ _ ?_;simp (disch := omega) only [List.map_cons, List.map_nil, List.set_cons_succ, List.set_cons_zero, go_sem, seval];exact we (by simp (disch := omega) only [rmP, hR, go_sem, seval])
theorem KH (x : Inst) (p : Pln) (o : Int) (hx : InstOk x) (h : Rm x p) (hl : p.routes.length <= 100) (ho : I64 o) :
  PT 17 [.p (Zy x), .p (Jf p), .p (.int .i64 o)] [.p (.int .i64 (YZ x p o).1), .p (.int .i64 (YZ x p o).2)] := by
 have hn := h.n;refine Zc [] Tryz.func17 rfl ZwX ?_;simp (disch := omega) only [Tryz.f17, go_sem, seval];refine gF ?_ ?_ <;> intro h1 <;> simp (disch := omega) only [Sh.out h1, go_sem, seval]
 ·have e : YZ x p o = (0, 2) := by rw [YZ, if_pos (.inr (.inl h1))]
  rw [e];exact we
 ·refine gF ?_ ?_ <;> intro h2 <;> simp (disch := omega) only [Sh.out h2, go_sem, seval]
  ·have e : YZ x p o = (0, 2) := by rw [YZ, if_pos (.inr (.inr h2))]
   rw [e];exact we
  ·have h3 : ¬ 62 < o := by omega
   simp (disch := omega) only [h3, go_sem, seval];have ck := Qk x p true h.n h.rl (by have := h.ul; omega) h.b;rw [show (kno x.orders.length p.routes && (!true || Zc5 x.orders.length p.unserved)) = QU x p from rfl] at ck;refine (ck).use ?_;simp (disch := omega) only [go_sem, seval]
   cases hask : QU x p with
   | false =>
    have e : YZ x p o = (0, 2) := by rw [YZ, if_pos (.inl hask)]
    rw [e];simp (disch := omega) only [go_sem, seval];exact we
   | true =>
    simp (disch := omega) only [go_sem, seval]
    have hk : kno x.orders.length p.routes = true := by rw [QU, Bool.and_eq_true] at hask; exact hask.1
    have hc : ¬ (QU x p = false \/ o < 0 \/ (x.orders.length : Int) <= o) := by rw [hask]; rintro (h5 | h5 | h5) <;> simp_all
    obtain ⟨n, rfl⟩ : ∃ n : Nat, o = n := ⟨o.toNat, by omega⟩;have hon := W3 hk;have h60 : pw x.orders.length <= pw 60 := ZS hn;have e60 : pw 60 = 1152921504606846976 := rfl;refine (WH x.orders.length p.routes p.routes_c h.n hk h.rl h.b).use ?_;simp (disch := omega) only [go_sem, seval];refine (XY (XC p.routes) n (by omega) (by omega)).use ?_;simp (disch := omega) only [go_sem, seval]
    cases hb : (XC p.routes).testBit n with
    | false =>
     have e : YZ x p (n : Int) = (0, 7) := by rw [YZ, if_neg hc, if_pos (by rw [Int.toNat_natCast]; exact hb)]
     rw [e];simp (disch := omega) only [go_sem, seval];exact we
    | true =>
     have hb' : ¬ (XC p.routes).testBit (n : Int).toNat = false := by rw [Int.toNat_natCast, hb]; simp
     have hp : pw n <= pw 60 := ZS (by omega);have cr := ZdE x p ((pw n : Nat) : Int) h ⟨by omega, by omega⟩;rw [Zf5 hask (by omega)] at cr;dsimp only at cr
     have hgg : Xh x p ((pw (n : Int).toNat : Nat) : Int) = Xh x p ((pw n : Nat) : Int) := by rw [Int.toNat_natCast]
     have sv : YZ x p (n : Int) = if ¬ (W9 x p.routes).2 = 0 then (0, (W9 x p.routes).2) else if ¬ (W9 x (Xi (Xh x p ((pw n : Nat) : Int)) p.routes)).2 = 0 then (0, (W9 x (Xi (Xh x p ((pw n : Nat) : Int)) p.routes)).2)
       else ((W9 x p.routes).1 - (W9 x (Xi (Xh x p ((pw n : Nat) : Int)) p.routes)).1, 0) := by rw [YZ, if_neg hc, if_neg hb', hgg]
     rw [sv];have hrl := Ww (g := Xh x p ((pw n : Nat) : Int)) (l := p.routes);have hrb := Zkb (g := Xh x p ((pw n : Nat) : Int)) h.b
     generalize Xh x p ((pw n : Nat) : Int) = g at *
     have t1 := WM (x := x) hl;have t2 := WM (x := x) (l := Xi g p.routes) (by omega);simp (disch := omega) only [go_sem, seval];refine WZ (ZaL x p.routes _ hx hl h.b) ?_;simp (disch := omega) only [go_sem, seval];refine cD ?_ ?_ <;> intro h5 <;> simp (disch := omega) only [Sh.out h5, go_sem, seval]
     ·exact we
     ·refine J7 cr ?_;simp (disch := omega) only [rmP, go_sem, seval];refine WZ (ZaL x (Xi g p.routes) _ hx (by omega) hrb) ?_;simp (disch := omega) only [go_sem, seval];refine cD ?_ ?_ <;> intro h6 <;> simp (disch := omega) only [Sh.out h6, go_sem, seval]
      ·exact we (by simp (disch := omega) only [if_neg h5, go_sem, seval])
      ·exact we (by simp (disch := omega) only [if_neg h5, go_sem, seval])
def Vl (a b : Nat) : Nat := a ^^^ (a &&& b)
theorem VT (a b j : Nat) : (Vl a b).testBit j = (a.testBit j && !b.testBit j) := by
 rw [Vl, Nat.testBit_xor, Nat.testBit_and]; cases a.testBit j <;> cases b.testBit j <;> rfl
theorem Ub {a b n : Nat} (h : a < pw n) : Vl a b < pw n := Zdu fun j hj => by
 rw [VT, Bool.and_eq_true] at hj; exact XS h hj.1
theorem ZwW {a b : Nat} (ha : a < 9223372036854775808) (hb : b < 9223372036854775808) : IntKind.i64.wrap ((BitVec.ofInt 64 (a : Int) &&& ~~~(BitVec.ofInt 64 (b : Int))).toNat : Int) = ((Vl a b : Nat) : Int) := by
 have e : (BitVec.ofInt 64 (a : Int) &&& ~~~(BitVec.ofInt 64 (b : Int))).toNat = Vl a b := by
  apply Nat.eq_of_testBit_eq;intro j;rw [BitVec.testBit_toNat, BitVec.getLsbD_and, BitVec.getLsbD_not, BitVec.ofInt_natCast, BitVec.ofInt_natCast, BitVec.getLsbD_ofNat, BitVec.getLsbD_ofNat, VT]
  by_cases hj : j < 64
  ·simp [hj]
  ·have h1 : a.testBit j = false := by
    have : a < 2 ^ j := Nat.lt_of_lt_of_le ha (Nat.le_trans (by decide : 9223372036854775808 <= 2 ^ 63) (Nat.pow_le_pow_right (by omega) (by omega)));exact Nat.testBit_lt_two_pow this
   simp [hj, h1]
 have h2 : Vl a b < pw 63 := Ub (by simpa [pw] using ha);have h3 : pw 63 = 9223372036854775808 := rfl;rw [e]
 generalize Vl a b = d at *
 exact IntWalk.i64_in _ (by omega)
@[go_sem high] theorem Zte {P : Program} {t : TypeId} {a b : Nat} (ha : a < 9223372036854775808) (hb : b < 9223372036854775808) : Ye P .andNot t (.p (.int .i64 (a : Int))) (.p (.int .i64 (b : Int))) = some (.int .i64 ((Vl a b : Nat) : Int)) := by
 rw [ZbR]; exact congrArg (fun q => some (PV.int .i64 q)) (ZwW ha hb)
theorem Zci : Znf Tryz.prog 143 = some (.int .i64, some (.int .i64 0)) := by kernel_rfl
def KI : Nat -> Nat -> Nat -> Int -> Nat × Int
 | 0, _, s, st => (s, st)
 | n + 1, all, s, st => if Vl all s = 0 then (s, st) else KI n all (s ||| pw (QW st (Vl all s)).toNat) (Yc st)
theorem Zi9 (all : Nat) (st : Int) (n : Nat) (ha : all < pw 61) (hn : n <= 1048576) : PT 55 [.p (.int .i64 (all : Int)), .p (.int .i64 st), .p (.int .i64 (n : Int))] [.p (.int .i64 ((KI n all 0 st).1 : Nat)), .p (.int .i64 (KI n all 0 st).2)] := by
 have e61 : pw 61 = 2305843009213693952 := rfl;obtain ⟨R, hR⟩ : ∃ R, R = KI n all 0 st := ⟨_, rfl⟩;rw [<- hR];refine Zc [] Tryz.func55 rfl ZyE ?_;simp (disch := omega) only [Tryz.f55, go_sem, seval];refine Zf [0, 10] (fun q : Nat × Nat × Int => [(1, .p (.int .i64 q.2.2)), (8, .p (.int .i64 (q.2.1 : Int))), (11, .p (.int .i64 (q.1 : Int)))]) (fun _ => []) (fun q => q.1 <= n /\ q.2.1 < pw 61 /\ R = KI (n - q.1) all q.2.1 q.2.2) (fun q => n - q.1) (0, 0, st) ⟨by simp, by simp [e61], by simpa using hR⟩ (Weak.mk ?_) ?_
 ·simp (disch := omega) only [go_sem, seval]
 ·rintro ⟨k, s, t⟩ ⟨h1, h2, h3⟩;simp only at h1 h2 h3;have hdl := Ub (b := s) ha;simp (disch := omega) only [go_sem, seval];refine cD ?_ ?_ <;> intro h4 <;> simp (disch := omega) only [Sh.out h4, go_sem, seval]
  ·obtain ⟨m, hm⟩ : ∃ m, n - k = m + 1 := ⟨n - k - 1, by omega⟩;rw [hm, KI] at h3;refine cD ?_ ?_ <;> intro h5 <;> simp (disch := omega) only [Sh.out h5, go_sem, seval]
   ·rw [if_pos (by omega)] at h3;rw [h3];exact we
   ·rw [if_neg (by omega)] at h3;obtain ⟨j, hj, _, hj2⟩ := VX (s := t) (S := Vl all s) (by omega) (Nat.lt_of_lt_of_le hdl (ZS (by omega)));have hj3 := XS hdl hj2;have hp : pw j <= pw 60 := ZS (by omega);have e60 : pw 60 = 1152921504606846976 := rfl;refine WZ (Zb4 t (Vl all s) (by omega) (by omega)) ?_;rw [hj] at h3 ⊢;rw [Int.toNat_natCast] at h3;simp (disch := omega) only [go_sem, seval];refine ⟨(k + 1, s ||| pw j, Yc t), ⟨by simp only; omega, Nat.or_lt_two_pow h2 (Nat.lt_of_le_of_lt hp (by omega)), by simp only; rw [h3]; congr 1; omega⟩, by simp only; omega, wk⟩
  ·have hk : n - k = 0 := by omega
   rw [hk, KI] at h3;rw [h3];exact we
theorem Zlm (x : Inst) (f i : Nat) (hf : f < x.orders.length) (hi : i < x.orders.length) (ho : x.orders.length <= 1048576) (ha : x.net.arcs.length <= 1048576) :
  ACalls Tryz.prog 113 [.p (eI (i : Int)), .ptr 0 0, .ptr 1 0] [Zb x, .cells [.p (.int .i64 (f : Int))]] fun y H' => y = .p (eI (Zen x f i)) /\ H' = [Zb x, .cells [.p (.int .i64 (f : Int))]] := by
 refine Zc [] Tryz.func113 rfl Zq1 ?_;simp (disch := omega) only [Tryz.f113, Zb, go_sem, seval];refine (ZdF x f i hf hi ho ha).use ?_;simp (disch := omega) only [go_sem, seval];exact we (by simp (disch := omega) only [Zb, go_sem, seval])
def ZbX (x : Inst) (all : Nat) (st : Int) (n : Nat) : Nat :=
 pw (QW st all).toNat ||| Kl (fun _ => false) (fun i => Zen x (QW st all).toNat i.toNat) (ZR (Vl all (pw (QW st all).toNat) : Int) 63) (n - 1)
theorem ZtR (x : Inst) (all : Nat) (st : Int) (n : Nat) (hx : x.orders.length <= 19) (h0 : 0 < all) (ha : all < pw x.orders.length) (hn : 1 <= n) (hn2 : n <= 1048576) (har : x.net.arcs.length <= 1048576) :
  PT 57 [.p (Zy x), .p (.int .i64 (all : Int)), .p (.int .i64 st), .p (.int .i64 (n : Int))] [.p (.int .i64 (ZbX x all st n : Nat)), .p (.int .i64 (Yc st))] := by
 have h19 : pw x.orders.length <= pw 19 := ZS hx;have e19 : pw 19 = 524288 := rfl;obtain ⟨f, hf, _, hf2⟩ := VX (s := st) (S := all) h0 (Nat.lt_of_lt_of_le ha (ZS (by omega)));have hf3 := XS ha hf2;have hp : pw f <= pw 19 := ZS (by omega);have hdl := Ub (b := pw f) ha;refine Zc [] Tryz.func57 rfl ZwV ?_;simp (disch := omega) only [Tryz.f57, go_sem, seval];refine WZ (Zb4 st all h0 (by omega)) ?_;unfold ZbX;rw [hf, Int.toNat_natCast];simp (disch := omega) only [go_sem, seval];refine ((YU (Vl all (pw f) : Int)).frozen (by simp)).use ?_
 have hin : ∀ i ∈ ZR (Vl all (pw f) : Int) 63, 0 <= i /\ i < x.orders.length := fun i hi => by
  obtain ⟨j, rfl, _, h3⟩ := Yi.1 hi;have := XS hdl h3;omega
 have hasc := WB (Vl all (pw f) : Int) 63
 have hlen : (ZR (Vl all (pw f) : Int) 63).length <= 19 := by
  have : ZR (Vl all (pw f) : Int) 63 ⊆ (List.range 19).map (fun i : Nat => (i : Int)) := fun i hi => by
   have := hin i hi;exact List.mem_map.2 ⟨i.toNat, by simp; omega, by simp; omega⟩
  have h2 := (U8 hasc).length_le_of_subset this;simpa using h2
 have htl : Kl (fun _ => false) (fun i => Zen x f i.toNat) (ZR (Vl all (pw f) : Int) 63) (n - 1) < pw 19 := YF fun i hi => by
  have := hin i (XQ.1 (List.mem_of_mem_take hi));omega
 generalize ZR (Vl all (pw f) : Int) 63 = l at *
 have w : Two (Zb x) (.cells [.p (.int .i64 (f : Int))]) [.ptr 0 0, .ptr 1 0] := ⟨fun H n h => by simp [Zb, wkO, wkF, wkV, refB], fun H n h => by simp [wkO, wkF, wkV, refB], fun n h => by simp [refBs, refB]; omega, by simp [refH, Zb, refBs, refB]⟩
 have ct := ZfZ (g := 113) (v := fun i => Zen x f i.toNat) w l false (n - 1) hlen hasc (fun i hi => by have := hin i hi; omega) fun i hi => by
  have := hin i hi;obtain ⟨k, rfl⟩ : ∃ k : Nat, i = k := ⟨i.toNat, by omega⟩;exact Zlm x f k hf3 (by omega) (by omega) har
 rw [show ((n - 1 : Nat) : Int) = (n : Int) - 1 by omega] at ct;simp (disch := omega) only [go_sem, seval];refine Zj mixed (by kernel_rfl) (by kernel_rfl) ?_;simp (disch := omega) only [go_sem, seval];refine KR ct ?_;simp (disch := omega) only [go_sem, seval];exact we
theorem Zkk (es : List (Int × Int)) (i : Int) (v : Int) (hv : QP es i = v) (hr : -3602879701896396800 <= v /\ v <= 3602879701896396800) : ACalls Tryz.prog 111 [.p (eI i), .ptr 1 0] [.map (es.map eII), .cells [.mp 0]] fun y H' => y = .p (eI (-v)) /\ H' = [.map (es.map eII), .cells [.mp 0]] := by
 refine Zc [] Tryz.func111 rfl ZpI ?_;simp (disch := omega) only [Tryz.f111, go_sem, seval];refine J1 Zci rfl ?_;rw [hv];simp (disch := omega) only [go_sem, seval];exact we (by simp (disch := omega) only [Int.zero_sub, go_sem, seval])
theorem Zk9 (a b : AM.Obj) (i : Int) (w : Two a b []) : ACalls Tryz.prog 112 [.p (eI i)] [a, b] fun y H' => y = .p (eI 0) /\ H' = [a, b] := by
 obtain ⟨wa, wb, wc, wf⟩ := w;refine Zc [] Tryz.func112 rfl Zom ?_;simp (disch := omega) only [Tryz.f112, go_sem, seval];exact we (by simp (disch := omega) only [wa, wb, go_sem, seval])
noncomputable def WV (x : Inst) (p : Pln) (i : Int) : Bool := decide (¬ (YZ x p i).2 = 0)
noncomputable def ZbC (x : Inst) (p : Pln) (all n : Nat) : Nat := Kl (WV x p) (fun i => -(YZ x p i).1) (ZR (all : Int) 63) n
theorem Zio {x : Inst} {p : Pln} {o : Int} (h : ¬ (YZ x p o).2 = 0) : (YZ x p o).1 = 0 := by
 unfold YZ at h ⊢
 split
 ·rfl
 ·split
  ·rfl
  ·split
   ·rfl
   ·split
    ·rfl
    ·rename_i c1 c2 c3 c4;rw [if_neg c1, if_neg c2, if_neg c3, if_neg c4] at h;exact absurd rfl h
theorem Uk {S n : Nat} (h : S < pw n) (hn : n <= 19) : (ZR (S : Int) 63).length <= 19 /\ ∀ i ∈ ZR (S : Int) 63, 0 <= i /\ i < (n : Int) := by
 have hin : ∀ i ∈ ZR (S : Int) 63, 0 <= i /\ i < (n : Int) := fun i hi => by
  obtain ⟨j, rfl, _, h3⟩ := Yi.1 hi;have := XS h h3;omega
 refine ⟨?_, hin⟩
 have : ZR (S : Int) 63 ⊆ (List.range 19).map (fun i : Nat => (i : Int)) := fun i hi => by
  have := hin i hi;exact List.mem_map.2 ⟨i.toNat, by simp; omega, by simp; omega⟩
 have h2 := (U8 (WB _ _)).length_le_of_subset this;simpa using h2
theorem Zo3 (x : Inst) (p : Pln) (all n : Nat) (hx : InstOk x) (hR : Rm x p) (hx19 : x.orders.length <= 19) (hl : p.routes.length <= 100) (ha : all < pw x.orders.length) (hn : n <= 1048576) :
  PC 56 [.p (Zy x), .p (Jf p), .p (.int .i64 (all : Int)), .p (.int .i64 (n : Int))] (.int .i64 (ZbC x p all n : Nat)) := by
 obtain ⟨hml, hmi⟩ := Uk ha hx19;have hasc := WB (all : Int) 63
 rw [ZbC, Zdd hasc fun i _ h => by
  simp only [WV, decide_eq_true_eq] at h
  rw [Zio h]; rfl]
 refine Zc [12] Tryz.func56 rfl Zw9 ?_;simp (disch := omega) only [Tryz.f56, go_sem, seval];refine ((YU (all : Int)).frozen (by simp)).use ?_;simp (disch := omega) only [go_sem, seval]
 generalize ZR (all : Int) 63 = l at *
 refine ZI [12] [3, 4, 5, 11, 19, 20] (fun q : Nat × List (Int × Int) => [(9, .sl 4 0 ((l.take q.1).filter fun i => !WV x p i).length ((l.take q.1).filter fun i => !WV x p i).length), (10, .sl 5 0 ((l.take q.1).filter (WV x p)).length ((l.take q.1).filter (WV x p)).length), (21, .p (.int .i64 (q.1 : Int)))])
  (fun q => [Zb x, ZB p, .map (q.2.map eII), .cells [.mp 2], .elems 1 (((l.take q.1).filter fun i => !WV x p i).map eI), .elems 1 (((l.take q.1).filter (WV x p)).map eI)])
  (fun q => q.1 <= l.length /\ ∀ i ∈ (l.take q.1).filter (fun i => !WV x p i), QP q.2 i = (YZ x p i).1) (fun q => l.length - q.1) (0, []) ⟨by simp, by simp⟩ (Weak.ofNil 9 1 (by simp (disch := omega) only [go_sem, seval]) (by simp) (Weak.ofNil 10 1 (by simp (disch := omega) only [go_sem, seval]) (by simp) (Weak.mk ?_))) ?_
 ·simp (disch := omega) only [Zb, ZB, List.take_zero, List.filter_nil, List.map_nil, List.length_nil, go_sem, seval]
 ·rintro ⟨k, es⟩ ⟨h1, h2⟩;simp only at h1 h2;have hk1 := List.length_filter_le (fun i => !WV x p i) (l.take k);have hk2 := List.length_filter_le (WV x p) (l.take k);rw [List.length_take] at hk1 hk2;simp (disch := omega) only [Zb, ZB, go_sem, seval];refine cD ?_ ?_ <;> intro h3 <;> simp (disch := omega) only [Sh.out h3, go_sem, seval]
  ·have hk : k < l.length := by omega
   have hmk := hmi _ (Zi hk)
   have ht : l.take (k + 1) = l.take k ++ [nth l k] := by rw [List.take_succ_eq_append_getElem hk, Ze hk]
   refine WZ (Za1 x p (nth l k) hx hR hl ⟨by omega, by omega⟩) ?_;simp (disch := omega) only [go_sem, seval];refine cD ?_ ?_ <;> intro h4 <;> simp (disch := omega) only [Sh.out h4, go_sem, seval]
   ·have hu : WV x p (nth l k) = true := by simpa [WV] using h4
    have e1 : (l.take (k + 1)).filter (fun i => !WV x p i) = (l.take k).filter fun i => !WV x p i := by rw [ht, List.filter_append]; simp [hu]
    have e2 : (l.take (k + 1)).filter (WV x p) = (l.take k).filter (WV x p) ++ [nth l k] := by rw [ht, List.filter_append]; simp [hu]
    refine ⟨(k + 1, es), ⟨by simp only; omega, by simp only [e1]; exact h2⟩, by simp only; omega, Weak.mk ?_⟩;simp (disch := omega) only [Zb, ZB, e1, e2, List.map_append, List.map_cons, List.map_nil, List.length_append, List.length_cons, List.length_nil, go_sem, seval]
   ·have hu : WV x p (nth l k) = false := by simpa [WV] using h4
    have e1 : (l.take (k + 1)).filter (fun i => !WV x p i) = (l.take k).filter (fun i => !WV x p i) ++ [nth l k] := by rw [ht, List.filter_append]; simp [hu]
    have e2 : (l.take (k + 1)).filter (WV x p) = (l.take k).filter (WV x p) := by rw [ht, List.filter_append]; simp [hu]
    refine Zc8 Zci rfl fun m' hm' => ?_;simp (disch := omega) only [List.set_cons_succ, List.set_cons_zero, go_sem, seval];refine ⟨(k + 1, m'), ⟨by simp only; omega, fun i hi => ?_⟩, by simp only; omega, Weak.mk ?_⟩
    ·simp only at hi ⊢;rw [hm']
     split
     ·rename_i c; rw [c]
     ·rename_i c;rw [e1, List.mem_append, List.mem_singleton] at hi;rcases hi with hi | hi
      ·exact h2 i hi
      ·exact absurd hi c
    ·simp (disch := omega) only [Zb, ZB, e1, e2, List.map_append, List.map_cons, List.map_nil, List.length_append, List.length_cons, List.length_nil, go_sem, seval]
  ·have hkl : k = l.length := by omega
   subst hkl
   rw [List.take_length] at *
   have hk3 : ∀ i ∈ l.filter (fun i => !WV x p i), i ∈ l := fun i hi => (List.mem_filter.1 hi).1;have hu3 : ∀ i ∈ l.filter (WV x p), i ∈ l := fun i hi => (List.mem_filter.1 hi).1;have ak := hasc.filter (fun i => !WV x p i);have au := hasc.filter (WV x p)
   generalize l.filter (fun i => !WV x p i) = K at *
   generalize l.filter (WV x p) = U at *
   refine Zm (Weak.fz (o := 4) (by rfl)) ?_;refine Zm (Weak.fz (o := 5) (by rfl)) ?_;refine Zd [] _ _ _ _ ?_;simp (disch := omega) only [List.map_cons, List.map_nil, List.set_cons_succ, List.set_cons_zero, go_sem, seval];have w : Two (.map (es.map eII)) (.cells [.mp 0]) [.ptr 1 0] := ⟨fun H n h => by simp [wkO], fun H n h => by simp [wkO, wkF, wkV, refB]; omega, fun n h => by simp [refBs, refB]; omega, by simp [refH, refBs, refB]⟩;have c1 := (ZfZ (g := 111) (v := fun i => -(YZ x p i).1) w K false n (by omega) ak (fun i hi => by have := hmi i (hk3 i hi); omega) fun i hi => Zkk es i _ (h2 i hi) (Zc0 hl)).back [Zb x, ZB p] (by rfl)
   have c2 : ACalls Tryz.prog 110 [.p (.list false (K.map eI)), .p (.int .i64 (n : Int)), .fn (.func 111) [] [.ptr 3 0]] [Zb x, ZB p, .map (es.map eII), .cells [.mp 2]] fun y H' => y = .p (.int .i64 (Kl (fun _ => false) (fun i => -(YZ x p i).1) K n : Nat)) /\ H' = [Zb x, ZB p, .map (es.map eII), .cells [.mp 2]] :=
    c1.mono (by rintro _ _ ⟨y, H1, ⟨rfl, rfl⟩, rfl, rfl⟩; exact ⟨rfl, rfl⟩)
   refine c2.useP (L := [.dead, .dead]) rfl ?_ (by simp [refBs, refB]) (by simp [refH, Zb, ZB, refBs, refB]);simp (disch := omega) only [go_sem, seval];have w2 : Two (Zb x) (ZB p) [] := ⟨fun H n h => by simp [Zb, wkO, wkF, wkV, refB], fun H n h => by simp [ZB, wkO, wkF, wkV, refB], fun n h => by simp [refBs], by simp [refH, Zb, ZB, refBs, refB]⟩;have c4 := ZfZ (g := 112) (v := fun _ => 0) w2 U false (n - K.length) (by omega) au (fun i hi => by have := hmi i (hu3 i hi); omega) fun i hi => Zk9 (Zb x) (ZB p) i w2;rw [show ((n - K.length : Nat) : Int) = max 0 ((n : Int) - (K.length : Int)) by omega] at c4
   refine c4.useP (L := [.map (es.map eII), .cells [.mp 2], .dead, .dead]) rfl ?_ (by simp [refBs, refB]) (by simp [refH, Zb, ZB, refBs, refB])
   have b1 : Kl (fun _ => false) (fun i => -(YZ x p i).1) K n < pw 19 := YF fun i hi => by
    have := hmi i (hk3 i (XQ.1 (List.mem_of_mem_take hi)));omega
   have b2 : Kl (fun _ => false) (fun _ => 0) U (n - K.length) < pw 19 := YF fun i hi => by
    have := hmi i (hu3 i (XQ.1 (List.mem_of_mem_take hi)));omega
   have e19 : pw 19 = 524288 := rfl;simp (disch := omega) only [go_sem, seval];exact we
noncomputable def Wg (x : Inst) (p : Pln) (kind st n : Int) : Nat × Int × Int :=
 if kno x.orders.length p.routes = false then (0, 0, 2)
 else if kind < 1 \/ 4 < kind then (0, 0, 8)
 else if n < 1 \/ 10 < n then (0, 0, 2)
 else if XC p.routes = 0 then (0, st, 0)
 else if kind = 1 then ((KI n.toNat (XC p.routes) 0 st).1, (KI n.toNat (XC p.routes) 0 st).2, 0)
 else if kind = 2 then (ZbC x p (XC p.routes) n.toNat, st, 0)
 else if kind = 3 then (ZbX x (XC p.routes) st n.toNat, Yc st, 0)
 else (XD (nth p.routes (Xq st p.routes.length).toNat).visits, Yc st, 0)
theorem Zcx (x : Inst) (p : Pln) (kind st n : Int) (hx : InstOk x) (hR : Rm x p) (hx19 : x.orders.length <= 19) (hl : p.routes.length <= 100) (har : x.net.arcs.length <= 1048576) (hn : I64 n) :
  PT 18 [.p (Zy x), .p (Jf p), .p (.int .i64 kind), .p (.int .i64 st), .p (.int .i64 n)] [.p (.int .i64 ((Wg x p kind st n).1 : Nat)), .p (.int .i64 (Wg x p kind st n).2.1), .p (.int .i64 (Wg x p kind st n).2.2)] := by
 have e61 : pw 61 = 2305843009213693952 := rfl;refine Zc [] Tryz.func18 rfl Zw2 ?_;simp (disch := omega) only [Tryz.f18, go_sem, seval];refine WZ (Q3 x p hR.n (by have := hR.rl; omega) hR.b) ?_
 cases hk : kno x.orders.length p.routes with
 | false =>
  have e : Wg x p kind st n = (0, 0, 2) := by rw [Wg, if_pos hk]
  rw [e];simp (disch := omega) only [go_sem, seval];exact we
 | true =>
  have hk' : ¬ kno x.orders.length p.routes = false := by rw [hk]; simp
  rw [if_pos rfl];have ha := W3 hk;have ha61 : XC p.routes < pw 61 := Nat.lt_of_lt_of_le ha (ZS (by omega));simp (disch := omega) only [go_sem, seval];refine gF ?_ ?_ <;> intro h1 <;> simp (disch := omega) only [Sh.out h1, go_sem, seval]
  ·have e : Wg x p kind st n = (0, 0, 8) := by rw [Wg, if_neg hk', if_pos (.inl h1)]
   rw [e];exact we
  ·refine cD ?_ ?_ <;> intro h2 <;> simp (disch := omega) only [Sh.out h2, go_sem, seval]
   ·have e : Wg x p kind st n = (0, 0, 8) := by rw [Wg, if_neg hk', if_pos (.inr h2)]
    rw [e];exact we
   ·have c1 : ¬ (kind < 1 \/ 4 < kind) := by omega
    refine gF ?_ ?_ <;> intro h3 <;> simp (disch := omega) only [Sh.out h3, go_sem, seval]
    ·have e : Wg x p kind st n = (0, 0, 2) := by rw [Wg, if_neg hk', if_neg c1, if_pos (.inl h3)]
     rw [e];exact we
    ·refine cD ?_ ?_ <;> intro h4 <;> simp (disch := omega) only [Sh.out h4, go_sem, seval]
     ·have e : Wg x p kind st n = (0, 0, 2) := by rw [Wg, if_neg hk', if_neg c1, if_pos (.inr h4)]
      rw [e];exact we
     ·have c2 : ¬ (n < 1 \/ 10 < n) := by omega
      refine cD ?_ ?_ <;> intro h5 <;> simp (disch := omega) only [Sh.out h5, go_sem, seval]
      ·have c3 : XC p.routes = 0 := by omega
       have e : Wg x p kind st n = (0, st, 0) := by rw [Wg, if_neg hk', if_neg c1, if_neg c2, if_pos c3]
       rw [e];exact we
      ·have c3 : ¬ XC p.routes = 0 := by omega
       obtain ⟨m, rfl⟩ : ∃ m : Nat, n = m := ⟨n.toNat, by omega⟩
       have e : Wg x p kind st (m : Int) = if kind = 1 then ((KI m (XC p.routes) 0 st).1, (KI m (XC p.routes) 0 st).2, 0)
         else if kind = 2 then (ZbC x p (XC p.routes) m, st, 0)
         else if kind = 3 then (ZbX x (XC p.routes) st m, Yc st, 0)
         else (XD (nth p.routes (Xq st p.routes.length).toNat).visits, Yc st, 0) := by rw [Wg, if_neg hk', if_neg c1, if_neg c2, if_neg c3, Int.toNat_natCast]
       rw [e];refine cD ?_ ?_ <;> intro h6 <;> simp (disch := omega) only [Sh.out h6, go_sem, seval]
       ·rw [if_pos h6];refine WZ (Zi9 (XC p.routes) st m ha61 (by omega)) ?_;simp (disch := omega) only [go_sem, seval];exact we
       ·rw [if_neg h6];refine cD ?_ ?_ <;> intro h7 <;> simp (disch := omega) only [Sh.out h7, go_sem, seval]
        ·rw [if_pos h7];refine (Zo3 x p (XC p.routes) m hx hR hx19 hl ha (by omega)).use ?_;simp (disch := omega) only [go_sem, seval];exact we
        ·rw [if_neg h7];refine cD ?_ ?_ <;> intro h8 <;> simp (disch := omega) only [Sh.out h8, go_sem, seval]
         ·rw [if_pos h8];refine WZ (ZtR x (XC p.routes) st m hx19 (by omega) ha (by omega) (by omega) har) ?_;simp (disch := omega) only [go_sem, seval];exact we
         ·rw [if_neg h8]
          have h9 : kind = 4 := by omega
          have hne : 0 < p.routes.length := by
           rcases Nat.eq_zero_or_pos p.routes.length with h | h
           ·rw [List.length_eq_zero_iff.1 h] at c3; exact absurd rfl c3
           ·exact h
          have hb := YR (s := st) (n := (p.routes.length : Int)) (by omega);obtain ⟨j, hj⟩ : ∃ j : Nat, Xq st p.routes.length = j := ⟨_, (Int.toNat_of_nonneg hb.1).symm⟩
          have hjl : j < p.routes.length := by omega
          have cb := KM st p.routes.length;rw [hj] at cb ⊢;rw [Int.toNat_natCast];simp (disch := omega) only [h9, go_sem, seval];refine WZ cb ?_;simp (disch := omega) only [go_sem, seval];have hkr : Za7 x.orders.length (nth p.routes j) = true := List.all_eq_true.1 hk _ (Zi hjl);have co := W0 (nth p.routes j) (hR.b _ (Zi hjl)).1;rw [show QN (nth p.routes j).visits = (((XD (nth p.routes j).visits : Nat) : Int), 0) by simp [QN, Zcm hR.n hkr]] at co;refine WZ co ?_;simp (disch := omega) only [go_sem, seval];exact we
theorem ZgL (x : Inst) (hw : x.wf 1048576) (p : Pln) (hp : p.wf 1048576) : ACalls Tryz.prog 11 [.p (Zy x), .p (Jf p)] [] fun y H' => ∃ b : Bool, (b = true -> InstOk x /\ x.orders.length <= 4 /\ p.routes.length <= 5 /\ p.unserved.length <= 12) /\ y = .p (.bool b) /\ H' = [] := by
 have hpw := hp;obtain ⟨q1, q2, q3, q4⟩ := hp;refine ACalls.pureE (Xc Tryz.func11 rfl Zyn (Zd [] _ _ _ _ ?_));simp (disch := omega) only [Tryz.f11, go_sem, seval];refine gF ?_ ?_ <;> intro h1 <;> simp (disch := omega) only [Sh.out h1, go_sem, seval]
 ·exact ⟨false, by simp, rfl⟩
 ·refine gF ?_ ?_ <;> intro h2 <;> simp (disch := omega) only [Sh.out h2, go_sem, seval]
  ·exact ⟨false, by simp, rfl⟩
  ·refine gF ?_ ?_ <;> intro h3 <;> simp (disch := omega) only [Sh.out h3, go_sem, seval]
   ·exact ⟨false, by simp, rfl⟩
   ·refine ((ZnW x hw).frozenE).useV fun m hm => ?_;simp (disch := omega) only [go_sem, seval];have hem := hm.emp;refine cD ?_ ?_ <;> intro h4 <;> simp (disch := omega) only [Sh.out h4, go_sem, seval]
    ·exact ⟨false, by simp, rfl⟩
    ·have hx : InstOk x := hem.1 (List.length_eq_zero_iff.1 (by omega));refine Zf [3] (fun k : Nat => [(5, .p (.int .i64 (k : Int)))]) (fun _ => [Zb x, ZB p]) (fun k => k <= p.routes.length) (fun k => p.routes.length - k) 0 (by simp) (Weak.mk ?_) ?_
     ·simp (disch := omega) only [Zb, ZB, go_sem, seval]
     ·intro k hk;simp (disch := omega) only [Zb, ZB, go_sem, seval];refine cD ?_ ?_ <;> intro h5 <;> simp (disch := omega) only [Sh.out h5, go_sem, seval]
      ·have hk2 : k < p.routes.length := by omega
       obtain ⟨_, _, _, _, w1, _⟩ := q2 _ (Zi hk2);refine cD ?_ ?_ <;> intro h6 <;> simp (disch := omega) only [Sh.out h6, go_sem, seval]
       ·exact ⟨false, by simp, rfl⟩
       ·exact ⟨k + 1, by omega, by omega, Weak.mk (by simp (disch := omega) only [Zb, ZB, go_sem, seval])⟩
      ·exact ⟨true, fun _ => ⟨hx, by omega, by omega, by omega⟩, rfl⟩
def ZwF (name : List UInt8) : Ord := { name := name, load_c := false, load := [1], pick := ⟨-1, 0, 0, 0⟩, drp := ⟨1, 0, 50, 0⟩, skills := 0, penalty := 0, split := 1, last := -1, now := -1, off := false }
def simI : Inst := { net := { places_c := false, places := [[104, 117, 98], [97, 115, 104]], arcs_c := false, arcs := [⟨0, 1, 0, 10, false, [⟨0, 20⟩], true, []⟩, ⟨1, 0, 0, 10, false, [⟨0, 20⟩], true, []⟩] }, types_c := false, types := [{ name := [118, 97, 110], count := 1, src := 0, dst := 0, cap_c := false, cap := [5], cls := 1000, drive := 1000, opn := 0, rest := 0, skills := 0, fixed := 5, perMile := 1, perTick := 0, prof := 0 }], orders_c := false, orders := [ZwF [111, 97], ZwF [111, 98]], apart_c := true, apart := [], before_c := true, before := [] }
def simP : Pln := ⟨false, [⟨0, 0, true, [], false, [⟨0, true⟩, ⟨1, true⟩]⟩], true, []⟩
theorem Zs9 : InstOk simI := by
 refine ⟨?_, ?_, ?_, ?_⟩
 ·refine ⟨⟨⟨by decide, fun i hi => ?_⟩, by decide⟩, fun i hi => ?_⟩
  ·have : i = 0 \/ i = 1 := by simp [simI] at hi; omega
   rcases this with rfl | rfl <;> (unfold Zjo; decide)
  ·have : i = 0 \/ i = 1 := by simp [simI] at hi; omega
   rcases this with rfl | rfl <;> (unfold Zdk YI Znu VP; decide)
 ·refine ⟨by decide, fun i hi => ?_⟩
  have : i = 0 := by simp [simI] at hi; omega
  subst this;unfold QT
  decide
 ·refine ⟨by decide, fun i hi => ?_⟩
  have : i = 0 \/ i = 1 := by simp [simI] at hi; omega
  rcases this with rfl | rfl <;> exact ⟨by decide, by decide, by decide, by decide, by decide, by decide, by decide, by decide, by decide, by decide⟩
 ·rfl
theorem Zfq {n all set : Nat} (ha : all < pw n) : lvS n [] all set = all &&& set := Nat.eq_of_testBit_eq fun i => by
 have hv : Val n ([] : List (Int × Int)) := fun p hp => by simp at hp
 rw [Bool.eq_iff_iff, Zlh hv ha, Nat.testBit_and, Bool.and_eq_true]
 constructor
 ·rintro ⟨h1, j, h2, h3, h4⟩;rcases h2 with rfl | h2
  ·exact ⟨h1, h3⟩
  ·exfalso
   induction h2 with
   | one h => obtain ⟨p, hp, _⟩ := h; simp at hp
   | more _ h => obtain ⟨p, hp, _⟩ := h; simp at hp
 ·rintro ⟨h1, h2⟩;exact ⟨h1, i, .inl rfl, h2, h1⟩
theorem Zhn : Xh simI simP 1 = 1 := by rw [Xh]; exact Zfq (n := 2) (all := 3) (set := 1) (by decide)
theorem ZnU : rmF simI simP 1 = (⟨false, [⟨0, 0, true, [], false, [⟨1, true⟩]⟩], false, [0]⟩, 1, 0) := by
 rw [rmF, Zhn]
 rfl
def simQ : Pln := ⟨false, [⟨0, 0, true, [], false, [⟨1, true⟩]⟩], false, [0]⟩
theorem ZkC {p : Pln} (h : p = simP \/ p = simQ) : Rm simI p := by
 refine ⟨by decide, by decide, fun q hq => by simp [simI] at hq, ?_, ?_, ?_⟩
 ·rcases h with rfl | rfl <;> decide
 ·rcases h with rfl | rfl <;> decide
 ·rcases h with rfl | rfl
  ·intro r hr;simp only [simP, List.mem_cons, List.not_mem_nil, or_false] at hr;subst hr;exact ⟨by decide, by decide⟩
  ·intro r hr;simp only [simQ, List.mem_cons, List.not_mem_nil, or_false] at hr;subst hr;exact ⟨by decide, by decide⟩
theorem Zkv : rmF simI simP 1 = (simQ, 1, 0) := ZnU
theorem ZgD : Xh simI simQ ((pw 1 : Nat) : Int) = 2 := by rw [Xh]; exact Zfq (n := 2) (all := 2) (set := 2) (by decide)
theorem Zff : UV simI ⟨0, 0, true, [], false, [⟨1, true⟩]⟩ = (419430400, 0) := by kernel_rfl
theorem Zmc : W9 simI simQ.routes = (419430400, 0) := by
 rw [ZbG (x := simI) (l := simQ.routes)]
 ·show (0 + (UV simI ⟨0, 0, true, [], false, [⟨1, true⟩]⟩).1, (0 : Int)) = _
  rw [Zff]
  rfl
 ·intro j hj
  have : j = 0 := by simp [simQ] at hj; omega
  subst this
  show (UV simI ⟨0, 0, true, [], false, [⟨1, true⟩]⟩).2 = 0
  rw [Zff]
theorem Zmf : YZ simI simQ 1 = (419430400, 0) := by
 have h1 : ¬ (QU simI simQ = false \/ (1 : Int) < 0 \/ (simI.orders.length : Int) <= 1) := by decide
 have h2 : ¬ (XC simQ.routes).testBit (1 : Int).toNat = false := by decide
 have h3 : Xh simI simQ ((pw (1 : Int).toNat : Nat) : Int) = 2 := ZgD;have h4 : W9 simI (Xi 2 simQ.routes) = (0, 0) := rfl;rw [YZ, if_neg h1, if_neg h2, Zmc, h3, h4]
 rfl
theorem ZlI : Wg simI simP 4 1 1 = (3, 48271, 0) := by
 have h1 : ¬ kno simI.orders.length simP.routes = false := by decide
 have h2 : ¬ XC simP.routes = 0 := by decide
 rw [Wg, if_neg h1, if_neg (by decide), if_neg (by decide), if_neg h2, if_neg (by decide), if_neg (by decide), if_neg (by decide)]
 rfl
theorem ZdY : PT 35 [] [.p (Zy simI), .p (Jf simP)] := by
 refine Zc [2, 7, 8] Tryz.func35 rfl ZyQ ?_;simp (disch := omega) only [Tryz.f35, go_sem, seval];refine Zm (Weak.fz (o := 2) (by rfl)) ?_;refine Zd [7, 8] _ _ _ _ ?_;simp (disch := omega) only [List.map_cons, List.map_nil, List.set_cons_succ, List.set_cons_zero, go_sem, seval];refine Zm (Weak.fz (o := 3) (by rfl)) ?_;refine Zm (Weak.fz (o := 4) (by rfl)) ?_;refine Zm (Weak.fz (o := 6) (by rfl)) ?_;refine Zm (Weak.fz (o := 9) (by rfl)) ?_;refine Zd [8] _ _ _ _ ?_;simp (disch := omega) only [List.map_cons, List.map_nil, List.set_cons_succ, List.set_cons_zero, go_sem, seval]
 refine Zm ((Weak.fz (o := 11) (by rfl)).trans (Weak.fz (o := 12) (by rfl))) ?_;refine XA (ZhX 4 2 ?_);simp (disch := omega) only [List.map_cons, List.map_nil, List.set_cons_succ, List.set_cons_zero, List.cons_append, List.nil_append, go_sem, seval];refine ⟨_, _, Weak.fz (o := 14) (by rfl), ?_⟩;simp (disch := omega) only [List.map_cons, List.map_nil, List.set_cons_succ, List.set_cons_zero, List.cons_append, List.nil_append, go_sem, seval];refine ⟨_, _, Weak.fz (o := 15) (by rfl), ?_⟩;simp (disch := omega) only [List.map_cons, List.map_nil, List.set_cons_succ, List.set_cons_zero, List.cons_append, List.nil_append, go_sem, seval]
 refine Zd [] _ _ _ _ ?_;simp (disch := omega) only [go_sem, seval];exact we (by simp (disch := omega) only [simI, simP, ZwF, List.map_cons, List.map_nil, go_sem, seval])
theorem VD : PC 12 [] (.bool true) := by
 have har : simI.net.arcs.length <= 1048576 := by decide
 have c1 := Js simI simP 1 (ZkC (.inl rfl)) ⟨by decide, by decide⟩;rw [Zkv] at c1;dsimp only at c1;have c2 := Za1 simI simQ 1 Zs9 (ZkC (.inr rfl)) (by decide) ⟨by decide, by decide⟩;rw [Zmf] at c2;dsimp only at c2;have c3 := Zcx simI simP 4 1 1 Zs9 (ZkC (.inl rfl)) (by decide) (by decide) har ⟨by decide, by decide⟩;rw [ZlI] at c3;dsimp only at c3;refine Za Tryz.func12 rfl ZxA ?_;simp (disch := omega) only [Tryz.f12, go_sem, seval];refine WZ ZdY ?_;simp (disch := omega) only [go_sem, seval];have e1 : simQ.routes.length = 1 := rfl;have e2 : (nth simQ.routes 0).visits.length = 1 := rfl
 have e3 : simQ.unserved.length = 1 := rfl;refine J7 c1 ?_;simp (disch := omega) only [go_sem, seval];refine WZ c2 ?_;simp (disch := omega) only [go_sem, seval];refine J7 c3 ?_;simp (disch := omega) only [e1, e2, e3, go_sem, seval]
 done
theorem ZoD {x : Inst} {p : Pln} (hx : InstOk x) (hw : x.wf 1048576) (hp : p.wf 1048576) (h1 : p.routes.length <= 5) (h2 : p.unserved.length <= 12) : Rm x p :=
 ⟨by have := Zy7 hx; omega, by obtain ⟨_, _, _, _, _, _, _, w8, _⟩ := hw; exact w8, (QK hx).val, by omega, by omega, Zl7 hp⟩
theorem KN (x : Inst) (hw : x.wf 1048576) (p : Pln) (hp : p.wf 1048576) (o : Int) (ho : I64 o) : PC 4 [.p (Zy x), .p (Jf p), .p (.int .i64 o)] (.bool true) := by
 refine Za Tryz.func4 rfl ZBE ?_;simp (disch := omega) only [Tryz.f4, go_sem, seval];refine (ZgL x hw p hp).useV fun b hb => ?_;simp (disch := omega) only [go_sem, seval];refine cD ?_ ?_ <;> intro h1 <;> simp (disch := omega) only [Sh.out h1, go_sem, seval]
 ·refine (VD).use ?_;simp (disch := omega) only [go_sem, seval]
 ·obtain ⟨hx, g1, g2, g3⟩ := hb (by simpa using h1);have hR := ZoD hx hw hp g2 g3;refine WZ (Za1 x p o hx hR (by omega) ho) ?_;simp (disch := omega) only [go_sem, seval];refine WZ (KH x p o hx hR (by omega) ho) ?_;simp (disch := omega) only [go_sem, seval];refine (VD).use ?_;simp (disch := omega) only [go_sem, seval]
theorem ZbJ {P Q : List Int} {l : List Arc} {L : Int} (h1 : ∀ a ∈ l, ZaW P Q a = true -> L <= a.miles) (h2 : L <= 10001) (h3 : L = 10001 \/ ∃ a ∈ l, ZaW P Q a = true /\ L = a.miles) : YC P Q l = L := by
 have key : ∀ (l : List Arc) (m : Int), (l.foldl (fun m a => if ZaW P Q a = true then min m a.miles else m) m <= m) /\ (∀ a ∈ l, ZaW P Q a = true -> l.foldl (fun m a => if ZaW P Q a = true then min m a.miles else m) m <= a.miles) /\
   (l.foldl (fun m a => if ZaW P Q a = true then min m a.miles else m) m = m \/ ∃ a ∈ l, ZaW P Q a = true /\ l.foldl (fun m a => if ZaW P Q a = true then min m a.miles else m) m = a.miles) := by
  intro l
  induction l with
  | nil => intro m; exact ⟨Int.le_refl _, by simp, .inl rfl⟩
  | cons b l ih =>
   intro m;rw [List.foldl_cons]
   by_cases c : ZaW P Q b = true
   ·rw [if_pos c];obtain ⟨i1, i2, i3⟩ := ih (min m b.miles);refine ⟨by omega, fun a ha hb => ?_, ?_⟩
    ·rcases List.mem_cons.1 ha with rfl | ha
     ·omega
     ·exact i2 a ha hb
    ·rcases i3 with e | ⟨a, ha, hb, e⟩
     ·by_cases hm : m <= b.miles
      ·left; rw [e, Int.min_eq_left hm]
      ·right; exact ⟨b, by simp, c, by rw [e, Int.min_eq_right (by omega)]⟩
     ·right; exact ⟨a, by simp [ha], hb, e⟩
   ·rw [if_neg c];obtain ⟨i1, i2, i3⟩ := ih m;refine ⟨i1, fun a ha hb => ?_, ?_⟩
    ·rcases List.mem_cons.1 ha with rfl | ha
     ·exact absurd hb c
     ·exact i2 a ha hb
    ·rcases i3 with e | ⟨a, ha, hb, e⟩
     ·exact .inl e
     ·right; exact ⟨a, by simp [ha], hb, e⟩
 obtain ⟨i1, i2, i3⟩ := key l 10001
 change YC P Q l <= 10001 at i1
 rw [show l.foldl (fun m a => if ZaW P Q a = true then min m a.miles else m) 10001 = YC P Q l from rfl] at i3;apply Int.le_antisymm
 ·rcases h3 with e | ⟨a, ha, hb, e⟩
  ·rw [e]; exact i1
  ·rw [e]; exact i2 a ha hb
 ·rcases i3 with e | ⟨a, ha, hb, e⟩
  ·rw [e]; exact h2
  ·rw [e]; exact h1 a ha hb
theorem Zg5 (S : Nat) (hS : S < 9223372036854775808) : PC 63 [.p (.int .i64 (S : Int))] (.int .i64 (pc S 63 : Nat)) := by
 refine Za Tryz.func63 rfl ZyF ?_;simp (disch := omega) only [Tryz.f63, go_sem, seval];refine Zf [0] (fun k : Nat => [(3, .p (.int .i64 (pc S k : Nat))), (4, .p (.int .i64 (k : Int)))]) (fun _ => []) (fun k => k <= 63) (fun k => 63 - k) 0 (by simp) (Weak.mk ?_) ?_
 ·simp (disch := omega) only [pc, go_sem, seval]
 ·intro k hk;have hp := ZmC S k;simp (disch := omega) only [go_sem, seval];refine cD ?_ ?_ <;> intro h1 <;> simp (disch := omega) only [Sh.out h1, go_sem, seval]
  ·refine (XY S k hS (by omega)).use ?_;simp (disch := omega) only [go_sem, seval]
   cases hb : S.testBit k with
   | true =>
    have e : pc S (k + 1) = pc S k + 1 := by rw [pc, if_pos hb]
    simp (disch := omega) only [go_sem, seval];exact ⟨k + 1, by omega, by omega, Weak.mk (by simp (disch := omega) only [e, go_sem, seval])⟩
   | false =>
    have e : pc S (k + 1) = pc S k := by rw [pc, if_neg (by simp [hb])]; rfl
    simp (disch := omega) only [go_sem, seval];exact ⟨k + 1, by omega, by omega, Weak.mk (by simp (disch := omega) only [e, go_sem, seval])⟩
  ·have : k = 63 := by omega
   rw [this]
def eRk (q : Int -> Bool) (v : Int -> Int) (i : Int) : PV := .agg [.int .i64 i, .bool (q i), .int .i64 (v i)]
@[go_sem] theorem ZAX (q v i) : eRk q v i = .agg [.int .i64 i, .bool (q i), .int .i64 (v i)] := Eq.trans rfl rfl
theorem Zak (q : Int -> Bool) (v : Int -> Int) (l : List Int) (c : Bool) (n : Nat) (hl : l.length <= 60) (hasc : l.Pairwise (· < ·)) (h0 : ∀ i ∈ l, 0 <= i /\ i <= 59) (hn : n <= 1048576) :
  PC 116 [.p (.list c (l.map (eRk q v))), .p (.int .i64 (n : Int))] (.int .i64 (Kl q v l n : Nat)) := by
 have hnd := U8 hasc;have e60 : pw 60 = 1152921504606846976 := rfl;have hsl := UM (q := q) (v := v) (l := l)
 have hasc' : ∀ a b, a < b -> b < l.length -> nth l a < nth l b := fun a b h1 h2 => by rw [Ze h2, Ze (by omega)]; exact List.pairwise_iff_getElem.1 hasc a b (by omega) h2 h1
 have hS0 : ∀ k, ∀ i ∈ (Wz q v l).take k, 0 <= i /\ i <= 59 := fun k i hi => h0 i (XQ.1 (List.mem_of_mem_take hi));refine Za Tryz.func116 rfl Zrg ?_;simp (disch := omega) only [Tryz.f116, go_sem, seval];refine Zf [0, 1] (fun k : Nat => [(5, .p (.int .i64 (XV ((Wz q v l).take k) : Nat))), (6, .p (.int .i64 (k : Int)))]) (fun _ => []) (fun k => k <= n /\ k <= l.length) (fun k => l.length - k) 0 (by simp) (Weak.mk ?_) ?_
 ·simp (disch := omega) only [XV, List.take_zero, List.foldl_nil, go_sem, seval]
 ·rintro k ⟨hk1, hk2⟩
  have ZC : XV ((Wz q v l).take k) < pw 60 := YF fun i hi => by have := hS0 k i hi; omega
  have hmem : ∀ i ∈ l, (XV ((Wz q v l).take k)).testBit i.toNat = true ↔ i ∈ (Wz q v l).take k := fun i hi => Zhf (fun j hj => (hS0 k j hj).1) (h0 i hi).1;simp (disch := omega) only [go_sem, seval];refine gT ?_ ?_ <;> intro h1 <;> simp (disch := omega) only [Sh.out h1, go_sem, seval]
  ·refine cD ?_ ?_ <;> intro h2 <;> simp (disch := omega) only [Sh.out h2, go_sem, seval]
   ·have hkl : k < l.length := by omega
    have hst := Qe (l := Wz q v l) (k := k) (by omega)
    generalize hSe : XV ((Wz q v l).take k) = S at *
    refine Zf [0, 1, 5, 6] (fun w : Nat × Int => [(7, .p (.int .i64 w.2)), (8, .p (.int .i64 (w.1 : Int)))]) (fun _ => [])
     (fun w => w.1 <= l.length /\ (w.2 = -1 /\ (∀ j, j < w.1 -> S.testBit (nth l j).toNat = true) \/ ∃ b : Nat, w.2 = (b : Int) /\ b < w.1 /\ S.testBit (nth l b).toNat = false /\ ∀ j, j < w.1 -> S.testBit (nth l j).toNat = false -> leK q v (nth l b) (nth l j) = true))
     (fun w => l.length - w.1) (0, -1) ⟨by simp, .inl ⟨rfl, fun j h => by omega⟩⟩ (Weak.mk ?_) ?_
    ·simp (disch := omega) only [go_sem, seval]
    ·rintro ⟨i, w⟩ ⟨hi, hw⟩;simp only at hi hw
     have hwr : -1 <= w /\ w < l.length := by
      rcases hw with ⟨e, _⟩ | ⟨b, e, h5, _⟩ <;> omega
     simp (disch := omega) only [go_sem, seval];refine cD ?_ ?_ <;> intro h3 <;> simp (disch := omega) only [Sh.out h3, go_sem, seval]
     ·have hi2 : i < l.length := by omega
      have hli := h0 _ (Zi hi2);obtain ⟨o, ho⟩ : ∃ o : Nat, nth l i = o := ⟨_, (Int.toNat_of_nonneg hli.1).symm⟩;rw [ho] at hli;rw [ho];refine (XY S o (by omega) (by omega)).use ?_;simp (disch := omega) only [go_sem, seval]
      cases hb : S.testBit o with
      | true =>
       simp (disch := omega) only [go_sem, seval];refine ⟨(i + 1, w), ⟨by simp only; omega, ?_⟩, by simp only; omega, wk⟩;rcases hw with ⟨e, h5⟩ | ⟨b, e, h5, h6, h7⟩
       ·refine .inl ⟨e, fun j hj => ?_⟩;simp only at hj;rcases Nat.eq_or_lt_of_le (show j <= i by omega) with e2 | e2
        ·rw [e2, ho, Int.toNat_natCast]; exact hb
        ·exact h5 j e2
       ·refine .inr ⟨b, e, by simp only; omega, h6, fun j hj hn => ?_⟩;simp only at hj;rcases Nat.eq_or_lt_of_le (show j <= i by omega) with e2 | e2
        ·rw [e2, ho, Int.toNat_natCast, hb] at hn; cases hn
        ·exact h7 j e2 hn
      | false =>
       simp (disch := omega) only [go_sem, seval];refine Zj mixed (by kernel_rfl) (by kernel_rfl) ?_;simp (disch := omega) only [go_sem, seval]
       have hrefl : ∀ a, leK q v a a = true := fun a => by simp [leK]
       refine gF ?_ ?_ <;> intro h5 <;> simp (disch := omega) only [Sh.out h5, go_sem, seval]
       ·have hw1 : w = -1 /\ ∀ j, j < i -> S.testBit (nth l j).toNat = true := by
         rcases hw with hw | ⟨b, e, _⟩
         ·exact hw
         ·omega
        refine ⟨(i + 1, (i : Int)), ⟨by simp only; omega, .inr ⟨i, rfl, by simp only; omega, by rw [ho, Int.toNat_natCast]; exact hb, fun j hj hn => ?_⟩⟩, by simp only; omega, wk⟩;simp only at hj;rcases Nat.eq_or_lt_of_le (show j <= i by omega) with e2 | e2
        ·rw [e2]; exact hrefl _
        ·rw [hw1.2 j e2] at hn; cases hn
       ·obtain ⟨b, rfl, hb1, hb2, hb3⟩ : ∃ b : Nat, w = (b : Int) /\ b < i /\ S.testBit (nth l b).toNat = false /\ ∀ j, j < i -> S.testBit (nth l j).toNat = false -> leK q v (nth l b) (nth l j) = true := by
         rcases hw with ⟨e, _⟩ | hw
         ·omega
         ·exact hw
        have hbl : b < l.length := by omega
        have hlt : nth l b < nth l i := hasc' b i hb1 hi2
        have upd : leK q v (nth l i) (nth l b) = true -> (∃ c : Nat, (i : Int) = (c : Int) /\ c < i + 1 /\ S.testBit (nth l c).toNat = false /\ ∀ j, j < i + 1 -> S.testBit (nth l j).toNat = false -> leK q v (nth l c) (nth l j) = true) := fun hle =>
         ⟨i, rfl, by omega, by rw [ho, Int.toNat_natCast]; exact hb, fun j hj hn => by
          rcases Nat.eq_or_lt_of_le (show j <= i by omega) with e2 | e2
          ·rw [e2]; exact hrefl _
          ·exact QI hle (hb3 j e2 hn)⟩
        have kep : leK q v (nth l b) (nth l i) = true -> (∃ c : Nat, (b : Int) = (c : Int) /\ c < i + 1 /\ S.testBit (nth l c).toNat = false /\ ∀ j, j < i + 1 -> S.testBit (nth l j).toNat = false -> leK q v (nth l c) (nth l j) = true) := fun hle =>
         ⟨b, rfl, by omega, hb2, fun j hj hn => by
          rcases Nat.eq_or_lt_of_le (show j <= i by omega) with e2 | e2
          ·rw [e2]; exact hle
          ·exact hb3 j e2 hn⟩
        cases hqi : q (nth l i) with
        | true =>
         cases hqb : q (nth l b) with
         | true =>
          simp (disch := omega) only [hqi, hqb, go_sem, seval];refine cD ?_ ?_ <;> intro h6 <;> simp (disch := omega) only [Sh.out h6, go_sem, seval]
          ·exact ⟨(i + 1, (i : Int)), ⟨by simp only; omega, .inr (upd (by simp [leK, hqi, hqb, h6]))⟩, by simp only; omega, wk⟩
          ·exact ⟨(i + 1, (b : Int)), ⟨by simp only; omega, .inr (kep (by simp [leK, hqi, hqb]; omega))⟩, by simp only; omega, wk⟩
         | false =>
          simp (disch := omega) only [hqi, hqb, show (true == false) = false from rfl, go_sem, seval];exact ⟨(i + 1, (b : Int)), ⟨by simp only; omega, .inr (kep (by simp [leK, hqi, hqb]))⟩, by simp only; omega, wk⟩
        | false =>
         cases hqb : q (nth l b) with
         | true =>
          simp (disch := omega) only [hqi, hqb, go_sem, seval];exact ⟨(i + 1, (i : Int)), ⟨by simp only; omega, .inr (upd (by simp [leK, hqi, hqb]))⟩, by simp only; omega, wk⟩
         | false =>
          simp (disch := omega) only [hqi, hqb, go_sem, seval];refine cD ?_ ?_ <;> intro h6 <;> simp (disch := omega) only [Sh.out h6, go_sem, seval]
          ·exact ⟨(i + 1, (i : Int)), ⟨by simp only; omega, .inr (upd (by simp [leK, hqi, hqb, h6]))⟩, by simp only; omega, wk⟩
          ·exact ⟨(i + 1, (b : Int)), ⟨by simp only; omega, .inr (kep (by simp [leK, hqi, hqb]; omega))⟩, by simp only; omega, wk⟩
     ·have hil : i = l.length := by omega
      subst hil
      obtain ⟨b, rfl, hb1, hb2, hb3⟩ : ∃ b : Nat, w = (b : Int) /\ b < l.length /\ S.testBit (nth l b).toNat = false /\ ∀ j, j < l.length -> S.testBit (nth l j).toNat = false -> leK q v (nth l b) (nth l j) = true := by
       rcases hw with ⟨e, h5⟩ | hw
       ·exfalso
        have hsub : l ⊆ (Wz q v l).take k := fun a ha => by
         obtain ⟨j, hj, rfl⟩ := List.mem_iff_getElem.1 ha;rw [<- Ze hj];exact (hmem _ (Zi hj)).1 (h5 j hj)
        have := hnd.length_le_of_subset hsub;rw [List.length_take] at this;omega
       ·exact hw
      have hbm := Zi hb1
      have hmin : nth l b = nth (Wz q v l) k := ZhN hnd hkl hbm (fun h => by rw [(hmem _ hbm).2 h] at hb2; cases hb2) fun j hj hn => by
       obtain ⟨m, hm, rfl⟩ := List.mem_iff_getElem.1 hj;rw [<- Ze hm] at hn ⊢;refine hb3 m hm ?_
       cases hc : S.testBit (nth l m).toNat with
       | false => rfl
       | true => exact absurd ((hmem _ (Zi hm)).1 hc) hn
      have hb0 := h0 _ hbm;rw [<- hmin] at hst;obtain ⟨o, ho⟩ : ∃ o : Nat, nth l b = o := ⟨_, (Int.toNat_of_nonneg hb0.1).symm⟩;rw [ho] at hb0;rw [ho, Int.toNat_natCast] at hst;simp (disch := omega) only [go_sem, seval];rw [ho];refine (WK S o (by omega) (by omega)).use ?_;simp (disch := omega) only [go_sem, seval];exact ⟨k + 1, ⟨by omega, by omega⟩, by omega, Weak.mk (by simp (disch := omega) only [hst, go_sem, seval])⟩
   ·have hkl : k = l.length := by omega
    have e : Kl q v l n = XV ((Wz q v l).take k) := by
     rw [Kl, List.take_of_length_le (by omega), List.take_of_length_le (by omega)]
    rw [e]
  ·have hkn : k = n := by omega
   subst hkn
   rfl
def Zj6 (o : Ord) : List Int := (if 0 <= o.pick.place then [o.pick.place] else []) ++ (if 0 <= o.drp.place then [o.drp.place] else [])
theorem Zmy (x : Inst) (i : Nat) : Zj6 (nth x.orders i) = K2 x i := by
 unfold Zj6 K2 X8;rw [List.map_append]
 congr 1 <;> split <;> simp [XH]
theorem Zal (o : Ord) : ACalls Tryz.prog 170 [.p (UP o)] [] fun x H' => x = .sl 0 0 (Zj6 o).length (Zj6 o).length /\ H' = [.elems 1 ((Zj6 o).map eI)] := by
 suffices hh : ACalls Tryz.prog 170 [.p (UP o)] [] fun x H' => ∃ m : List Int, m = Zj6 o /\ x = .sl 0 0 m.length m.length /\ H' = [.elems 1 (m.map eI)] by
  refine hh.mono ?_;rintro x H' ⟨m, rfl, h1, h2⟩;exact ⟨h1, h2⟩
 refine Zx [2] Tryz.func170 rfl Zrr ?_;simp (disch := omega) only [Tryz.f170, go_sem, seval];refine Zm (Weak.ofNil 3 1 (by simp (disch := omega) only [go_sem, seval]) (by simp) (Weak.refl _ _ _)) ?_;refine Zo [1] (fun m : List Int => [(3, .sl 1 0 m.length m.length)]) (fun m => [Yb o, .elems 1 (m.map eI)]) (fun m => m = (if 0 <= o.pick.place then [o.pick.place] else [])) ?_ ?_
 ·simp (disch := omega) only [Yb, go_sem, seval];refine cD ?_ ?_ <;> intro h <;> simp (disch := omega) only [Sh.out h, go_sem, seval]
  ·exact ⟨[o.pick.place], by simp [h], Weak.mk (by simp (disch := omega) only [Yb, List.map_cons, List.map_nil, List.length_cons, List.length_nil, go_sem, seval])⟩
  ·exact ⟨[], by simp [h], Weak.mk (by simp (disch := omega) only [Yb, List.map_nil, List.length_nil, go_sem, seval])⟩
 ·intro m hm
  have hml : m.length <= 1 := by rw [hm]; split <;> simp
  refine Zd [] _ _ _ _ ?_;simp (disch := omega) only [Yb, go_sem, seval];refine cD ?_ ?_ <;> intro h <;> simp (disch := omega) only [Sh.out h, go_sem, seval]
  ·exact ⟨m ++ [o.drp.place], by rw [Zj6, hm, if_pos h], 1, by simp (disch := omega) only [List.map_append, List.map_cons, List.map_nil, List.length_append, List.length_cons, List.length_nil, go_sem, seval]⟩
  ·exact ⟨m, by rw [Zj6, hm, if_neg h, List.append_nil], 1, by simp (disch := omega) only [go_sem, seval]⟩
theorem JE (x : Inst) (i : Nat) : PC 170 [.p (UP (nth x.orders i))] (.list false ((K2 x i).map eI)) := by
 have := (Zal (nth x.orders i)).frozen (by simp);rwa [Zmy] at this
def mtB (p q : Int) (a : Arc) : Bool := decide (a.src = p /\ a.dst = q \/ a.src = q /\ a.dst = p)
theorem ZcX {P Q : List Int} {a : Arc} : ZaW P Q a = true ↔ ∃ p ∈ P, ∃ q ∈ Q, mtB p q a = true := by
 simp only [ZaW, mtB, Bool.or_eq_true, Bool.and_eq_true, List.any_eq_true, decide_eq_true_eq]
 constructor
 ·rintro (⟨⟨p, h1, h2⟩, q, h3, h4⟩ | ⟨⟨q, h1, h2⟩, p, h3, h4⟩)
  ·exact ⟨p, h1, q, h3, .inl ⟨h2, h4⟩⟩
  ·exact ⟨p, h3, q, h1, .inr ⟨h2, h4⟩⟩
 ·rintro ⟨p, h1, q, h2, (⟨h3, h4⟩ | ⟨h3, h4⟩)⟩
  ·exact .inl ⟨⟨p, h1, h3⟩, q, h2, h4⟩
  ·exact .inr ⟨⟨q, h2, h3⟩, p, h1, h4⟩
def LoA (P Q : List Int) (l : List Arc) (i k : Nat) (L : Int) : Prop := ∀ i' k', i' < P.length -> k' < Q.length -> (i' < i \/ (i' = i /\ k' < k)) -> nth P i' ≠ nth Q k' /\ ∀ a ∈ l, mtB (nth P i') (nth Q k') a = true -> L <= a.miles
def AtA (P Q : List Int) (l : List Arc) (L : Int) : Prop := L <= 10001 /\ (L = 10001 \/ ∃ a ∈ l, ZaW P Q a = true /\ L = a.miles)
theorem LoA.le {P Q l i k L L'} (h : LoA P Q l i k L) (hl : L' <= L) : LoA P Q l i k L' := fun i' k' h1 h2 h3 => ⟨(h i' k' h1 h2 h3).1, fun a ha hm => Int.le_trans hl ((h i' k' h1 h2 h3).2 a ha hm)⟩
theorem ZfH (x : Inst) (a b : Nat) (ha : a < x.orders.length) (hb : b < x.orders.length) (ho : x.orders.length <= 1048576) (har : x.net.arcs.length <= 1048576) :
  PC 117 [.p (Zy x), .p (.int .i64 (a : Int)), .p (.int .i64 (b : Int))] (.int .i64 (Zen x a b)) := by
 have hPl := UQ x a;have hQl := UQ x b;refine Za Tryz.func117 rfl ZpB ?_;simp (disch := omega) only [Tryz.f117, go_sem, seval];refine (JE x a).use ?_;simp (disch := omega) only [go_sem, seval];refine (JE x b).use ?_;unfold Zen
 generalize K2 x a = P at *
 generalize K2 x b = Q at *
 simp (disch := omega) only [go_sem, seval];obtain ⟨D, hD⟩ : ∃ D, D = if (P.any fun a => Q.any fun b => decide (a = b)) = true then 0 else YC P Q x.net.arcs := ⟨_, rfl⟩;rw [<- hD];refine Zf [3, 7, 8] (fun q : Nat × Int => [(9, .p (.int .i64 q.2)), (10, .p (.int .i64 (q.1 : Int)))]) (fun _ => [Zb x]) (fun q => q.1 <= P.length /\ AtA P Q x.net.arcs q.2 /\ LoA P Q x.net.arcs q.1 0 q.2) (fun q => P.length - q.1) (0, 10001) ⟨by simp, ⟨Int.le_refl _, .inl rfl⟩, fun i' k' _ _ h => by simp only at h; omega⟩ (Weak.mk ?_) ?_
 ·simp (disch := omega) only [Zb, go_sem, seval]
 ·rintro ⟨i, L⟩ ⟨hi, hA, hLo⟩;simp only at hi hA hLo;simp (disch := omega) only [Zb, go_sem, seval];refine cD ?_ ?_ <;> intro h1 <;> simp (disch := omega) only [Sh.out h1, go_sem, seval]
  ·have hi2 : i < P.length := by omega
   refine Zf [3, 7, 8, 10] (fun q : Nat × Int => [(9, .p (.int .i64 q.2)), (11, .p (.int .i64 (q.1 : Int)))]) (fun _ => [Zb x]) (fun q => q.1 <= Q.length /\ AtA P Q x.net.arcs q.2 /\ LoA P Q x.net.arcs i q.1 q.2) (fun q => Q.length - q.1) (0, L) ⟨by simp, hA, hLo⟩ (Weak.mk ?_) ?_
   ·simp (disch := omega) only [Zb, go_sem, seval]
   ·clear hA hLo;rintro ⟨k, L⟩ ⟨hk, hA, hLo⟩;simp only at hk hA hLo;simp (disch := omega) only [Zb, go_sem, seval];refine cD ?_ ?_ <;> intro h2 <;> simp (disch := omega) only [Sh.out h2, go_sem, seval]
    ·have hk2 : k < Q.length := by omega
     refine Zj mixed (by kernel_rfl) (by kernel_rfl) ?_;simp (disch := omega) only [go_sem, seval];refine cD ?_ ?_ <;> intro h3 <;> simp (disch := omega) only [Sh.out h3, go_sem, seval]
     ·have : (P.any fun a => Q.any fun b => decide (a = b)) = true := by
       rw [List.any_eq_true];exact ⟨nth P i, Zi hi2, by rw [List.any_eq_true]; exact ⟨nth Q k, Zi hk2, by simpa using h3⟩⟩
      rw [if_pos this] at hD;rw [hD]
     ·have hne : nth P i ≠ nth Q k := by simpa using h3
      refine Zf [3, 7, 8, 10, 11] (fun q : Nat × Int => [(9, .p (.int .i64 q.2)), (12, .p (.int .i64 (q.1 : Int)))]) (fun _ => [Zb x])
       (fun q => q.1 <= x.net.arcs.length /\ AtA P Q x.net.arcs q.2 /\ LoA P Q x.net.arcs i k q.2 /\ ∀ j, j < q.1 -> mtB (nth P i) (nth Q k) (nth x.net.arcs j) = true -> q.2 <= (nth x.net.arcs j).miles) (fun q => x.net.arcs.length - q.1) (0, L) ⟨by simp, hA, hLo, fun j h => by simp only at h; omega⟩ (Weak.mk ?_) ?_
      ·simp (disch := omega) only [Zb, go_sem, seval]
      ·clear hA hLo;rintro ⟨j, L⟩ ⟨hj, hA, hLo, hin⟩;simp only at hj hA hLo hin;simp (disch := omega) only [Zb, go_sem, seval];refine cD ?_ ?_ <;> intro h4 <;> simp (disch := omega) only [Sh.out h4, go_sem, seval]
       ·have hj2 : j < x.net.arcs.length := by omega
        have hmin : Zat true [.p (.int .i64 L), .p (.int .i64 (nth x.net.arcs j).miles)] = some (.int .i64 (min L (nth x.net.arcs j).miles)) := by
         by_cases h : L <= (nth x.net.arcs j).miles
         ·rw [ZbT h, Int.min_eq_left h]
         ·rw [Zbl (by omega), Int.min_eq_right (by omega)]
        have yes : mtB (nth P i) (nth Q k) (nth x.net.arcs j) = true -> j + 1 <= x.net.arcs.length /\ AtA P Q x.net.arcs (min L (nth x.net.arcs j).miles) /\ LoA P Q x.net.arcs i k (min L (nth x.net.arcs j).miles) /\ ∀ j', j' < j + 1 -> mtB (nth P i) (nth Q k) (nth x.net.arcs j') = true -> min L (nth x.net.arcs j).miles <= (nth x.net.arcs j').miles := fun hm => by
         refine ⟨by omega, ⟨by have := hA.1; omega, ?_⟩, hLo.le (by omega), fun j' h5 h6 => ?_⟩
         ·by_cases hle : L <= (nth x.net.arcs j).miles
          ·rw [Int.min_eq_left hle]; exact hA.2
          ·rw [Int.min_eq_right (by omega)];exact .inr ⟨_, Zi hj2, ZcX.2 ⟨_, Zi hi2, _, Zi hk2, hm⟩, rfl⟩
         ·rcases Nat.eq_or_lt_of_le (show j' <= j by omega) with e | e
          ·rw [e]; omega
          ·have := hin j' e h6; omega
        have no : mtB (nth P i) (nth Q k) (nth x.net.arcs j) = false -> j + 1 <= x.net.arcs.length /\ AtA P Q x.net.arcs L /\ LoA P Q x.net.arcs i k L /\ ∀ j', j' < j + 1 -> mtB (nth P i) (nth Q k) (nth x.net.arcs j') = true -> L <= (nth x.net.arcs j').miles := fun hm => by
         refine ⟨by omega, hA, hLo, fun j' h5 h6 => ?_⟩;rcases Nat.eq_or_lt_of_le (show j' <= j by omega) with e | e
         ·rw [e, hm] at h6; cases h6
         ·exact hin j' e h6
        refine Zj mixed (by kernel_rfl) (by kernel_rfl) ?_;simp (disch := omega) only [go_sem, seval];refine gT ?_ ?_ <;> intro g1 <;> simp (disch := omega) only [Sh.out g1, go_sem, seval]
        ·refine gF ?_ ?_ <;> intro g2 <;> simp (disch := omega) only [Sh.out g2, hmin, go_sem, seval]
         ·exact ⟨(j + 1, min L (nth x.net.arcs j).miles), yes (by simp [mtB, g1, g2]), by simp only; omega, Weak.mk (by simp (disch := omega) only [Zb, go_sem, seval])⟩
         ·refine gT ?_ ?_ <;> intro g3 <;> simp (disch := omega) only [Sh.out g3, go_sem, seval]
          ·refine cD ?_ ?_ <;> intro g4 <;> simp (disch := omega) only [Sh.out g4, hmin, go_sem, seval]
           ·exact ⟨(j + 1, min L (nth x.net.arcs j).miles), yes (by simp only [mtB, decide_eq_true_eq]; right; exact ⟨g3, g4⟩), by simp only; omega, Weak.mk (by simp (disch := omega) only [Zb, go_sem, seval])⟩
           ·exact ⟨(j + 1, L), no (by simp only [mtB, decide_eq_false_iff_not]; rintro (h | h); exact g2 h.2; exact g4 h.2), by simp only; omega, Weak.mk (by simp (disch := omega) only [Zb, go_sem, seval])⟩
          ·exact ⟨(j + 1, L), no (by simp only [mtB, decide_eq_false_iff_not]; rintro (h | h); exact g2 h.2; exact g3 h.1), by simp only; omega, Weak.mk (by simp (disch := omega) only [Zb, go_sem, seval])⟩
        ·refine gT ?_ ?_ <;> intro g3 <;> simp (disch := omega) only [Sh.out g3, go_sem, seval]
         ·refine cD ?_ ?_ <;> intro g4 <;> simp (disch := omega) only [Sh.out g4, hmin, go_sem, seval]
          ·exact ⟨(j + 1, min L (nth x.net.arcs j).miles), yes (by simp only [mtB, decide_eq_true_eq]; right; exact ⟨g3, g4⟩), by simp only; omega, Weak.mk (by simp (disch := omega) only [Zb, go_sem, seval])⟩
          ·exact ⟨(j + 1, L), no (by simp only [mtB, decide_eq_false_iff_not]; rintro (h | h); exact g1 h.1; exact g4 h.2), by simp only; omega, Weak.mk (by simp (disch := omega) only [Zb, go_sem, seval])⟩
         ·exact ⟨(j + 1, L), no (by simp only [mtB, decide_eq_false_iff_not]; rintro (h | h); exact g1 h.1; exact g3 h.1), by simp only; omega, Weak.mk (by simp (disch := omega) only [Zb, go_sem, seval])⟩
       ·have hjl : j = x.net.arcs.length := by omega
        subst hjl;refine ⟨(k + 1, L), ⟨by simp only; omega, hA, fun i' k' e1 e2 e3 => ?_⟩, by simp only; omega, Weak.mk (by simp (disch := omega) only [Zb, go_sem, seval])⟩;simp only at e3
        by_cases e4 : i' = i /\ k' = k
        ·obtain ⟨rfl, rfl⟩ := e4;refine ⟨hne, fun a ha hm => ?_⟩;obtain ⟨j, hj, rfl⟩ := List.mem_iff_getElem.1 ha;rw [<- Ze hj] at hm ⊢;exact hin j hj hm
        ·exact hLo i' k' e1 e2 (by omega)
    ·have hkl : k = Q.length := by omega
     subst hkl;refine ⟨(i + 1, L), ⟨by simp only; omega, hA, fun i' k' e1 e2 e3 => hLo i' k' e1 e2 (by simp only at e3; omega)⟩, by simp only; omega, Weak.mk (by simp (disch := omega) only [Zb, go_sem, seval])⟩
  ·have hil : i = P.length := by omega
   subst hil
   have hn : (P.any fun a => Q.any fun b => decide (a = b)) = false := by
    rw [List.any_eq_false];intro p hp h;rw [List.any_eq_true] at h;obtain ⟨q, hq, h⟩ := h;obtain ⟨i', hi', rfl⟩ := List.mem_iff_getElem.1 hp;obtain ⟨k', hk', rfl⟩ := List.mem_iff_getElem.1 hq;have := (hLo i' k' hi' hk' (.inl hi')).1;rw [Ze hi', Ze hk'] at this;exact this (by simpa using h)
   rw [if_neg (by rw [hn]; simp)] at hD
   have hL := ZbJ (L := L) (P := P) (Q := Q) (l := x.net.arcs) (fun a ha hm => by
    obtain ⟨p, hp, q, hq, hm⟩ := ZcX.1 hm;obtain ⟨i', hi', rfl⟩ := List.mem_iff_getElem.1 hp;obtain ⟨k', hk', rfl⟩ := List.mem_iff_getElem.1 hq;have := (hLo i' k' hi' hk' (.inl hi')).2 a ha;rw [Ze hi', Ze hk'] at this
    exact this hm) hA.1 hA.2
   rw [hD, hL]
theorem Ze7 {S n : Nat} (h : S < pw n) : ∀ k, n + k <= 63 -> ZR (S : Int) (n + k) = ZR (S : Int) n
 | 0, _ => rfl
 | k + 1, hk => by
  rw [<- Nat.add_assoc, Ve, Ze7 h k (by omega)];rw [X2 S (n + k) (by omega)]
  cases hb : S.testBit (n + k) with
  | false => rfl
  | true => have := XS h hb; omega
theorem ZcU {S n : Nat} (h : S < pw n) (hn : n <= 63) : ZR (S : Int) n = ZR (S : Int) 63 := by
 have := Ze7 h (63 - n) (by omega);rw [<- this]; congr 1; omega
theorem Zhg (x : Inst) (p : Pln) (on n : Nat) (hx : InstOk x) (hR : Rm x p) (hx19 : x.orders.length <= 19) (hl : p.routes.length <= 100) (ha : on < pw x.orders.length) (hn : n <= 1048576) :
  PC 60 [.p (Zy x), .p (Jf p), .p (.int .i64 (on : Int)), .p (.int .i64 (n : Int))] (.int .i64 (ZbC x p on n : Nat)) := by
 obtain ⟨hml, hmi⟩ := Uk ha hx19;have hasc := WB (on : Int) 63;have h19 : pw x.orders.length <= pw 19 := ZS hx19;have e19 : pw 19 = 524288 := rfl;have hcut := ZcU ha (by omega);refine Zc [8] Tryz.func60 rfl Zzd ?_;simp (disch := omega) only [Tryz.f60, go_sem, seval]
 refine ZI [8] [2, 3, 4, 5] (fun k : Nat => [(9, .sl 2 0 (ZR (on : Int) k).length (ZR (on : Int) k).length), (10, .p (.int .i64 (k : Int)))])
  (fun k => [Zb x, ZB p, .elems 3 ((ZR (on : Int) k).map (eRk (WV x p) fun i => -(YZ x p i).1))])
  (fun k => k <= x.orders.length) (fun k => x.orders.length - k) 0 (by simp) (Weak.ofNil 9 3 (by simp (disch := omega) only [go_sem, seval]) (by simp) (Weak.mk ?_)) ?_
 ·simp (disch := omega) only [Zb, ZB, Wq, List.map_nil, List.length_nil, go_sem, seval]
 ·intro k hk;have hk1 := X0 (on : Int) k;simp (disch := omega) only [Zb, ZB, go_sem, seval];refine cD ?_ ?_ <;> intro h3 <;> simp (disch := omega) only [Sh.out h3, go_sem, seval]
  ·have hs := X2 on k (by omega);refine (XY on k (by omega) (by omega)).use ?_;simp (disch := omega) only [go_sem, seval]
   cases hb : on.testBit k with
   | false =>
    simp (disch := omega) only [go_sem, seval];exact ⟨k + 1, by omega, by omega, Weak.mk (by simp (disch := omega) only [Zb, ZB, Ve (hs.trans hb), go_sem, seval])⟩
   | true =>
    simp (disch := omega) only [go_sem, seval];have hr := Zc0 (x := x) (p := p) (o := (k : Int)) hl;refine WZ (KH x p (k : Int) hx hR hl ⟨by omega, by omega⟩) ?_;simp (disch := omega) only [go_sem, seval];exact ⟨k + 1, by omega, by omega, Weak.mk (by simp (disch := omega) only [Zb, ZB, VA (hs.trans hb), List.map_append, List.map_cons, List.map_nil, List.length_append, List.length_cons, List.length_nil, WV, Int.zero_sub, go_sem, seval])⟩
  ·have hkl : k = x.orders.length := by omega
   subst hkl;rw [hcut];refine Zm (Weak.fz (o := 2) (by rfl)) ?_;refine Zd [] _ _ _ _ ?_;simp (disch := omega) only [List.map_cons, List.map_nil, List.set_cons_succ, List.set_cons_zero, go_sem, seval];refine (Zak (WV x p) (fun i => -(YZ x p i).1) (ZR (on : Int) 63) false n (by omega) hasc (fun i hi => by have := hmi i hi; omega) hn).use ?_;simp (disch := omega) only [go_sem, seval];exact we (by simp (disch := omega) only [ZbC, go_sem, seval])
theorem ZhW (x : Inst) (on : Nat) (st : Int) (n : Nat) (hx : x.orders.length <= 19) (h0 : 0 < on) (ha : on < pw x.orders.length) (hn : 1 <= n) (hn2 : n <= 1048576) (har : x.net.arcs.length <= 1048576) :
  PT 61 [.p (Zy x), .p (.int .i64 (on : Int)), .p (.int .i64 st), .p (.int .i64 (n : Int))] [.p (.int .i64 (ZbX x on st n : Nat)), .p (.int .i64 (Yc st))] := by
 have h19 : pw x.orders.length <= pw 19 := ZS hx;have e19 : pw 19 = 524288 := rfl;obtain ⟨f, hf, _, hf2⟩ := VX (s := st) (S := on) h0 (Nat.lt_of_lt_of_le ha (ZS (by omega)));have hf3 := XS ha hf2;have hdl := Ub (b := pw f) ha;obtain ⟨hml, hmi⟩ := Uk hdl hx;have hasc := WB (Vl on (pw f) : Int) 63;have hcut := ZcU hdl (by omega);refine Zc [8] Tryz.func61 rfl ZxG ?_;simp (disch := omega) only [Tryz.f61, go_sem, seval];refine WZ (Jv st on h0 (by omega)) ?_;unfold ZbX;rw [hf, Int.toNat_natCast]
 have hdb : ∀ k, (Vl on (pw f)).testBit k = (on.testBit k && decide (k ≠ f)) := fun k => by
  rw [VT, Z5]
  by_cases e : f = k
  ·simp [e]
  ·simp [e, Ne.symm e]
 generalize Vl on (pw f) = D at *
 simp (disch := omega) only [go_sem, seval]
 refine ZI [8] [1, 3, 4, 10, 11] (fun k : Nat => [(12, .sl 1 0 (ZR (D : Int) k).length (ZR (D : Int) k).length), (13, .p (.int .i64 (k : Int)))])
  (fun k => [Zb x, .elems 3 ((ZR (D : Int) k).map (eRk (fun _ => false) fun i => Zen x f i.toNat))])
  (fun k => k <= x.orders.length) (fun k => x.orders.length - k) 0 (by simp) (Weak.ofNil 12 3 (by simp (disch := omega) only [go_sem, seval]) (by simp) (Weak.mk ?_)) ?_
 ·simp (disch := omega) only [Zb, Wq, List.map_nil, List.length_nil, go_sem, seval]
 ·intro k hk;have hk1 := X0 (D : Int) k;simp (disch := omega) only [Zb, go_sem, seval];refine cD ?_ ?_ <;> intro h3 <;> simp (disch := omega) only [Sh.out h3, go_sem, seval]
  ·have hs := X2 D k (by omega);have hd := hdb k;refine (XY on k (by omega) (by omega)).use ?_;simp (disch := omega) only [go_sem, seval]
   cases hb : on.testBit k with
   | false =>
    rw [hb, Bool.false_and] at hd;simp (disch := omega) only [go_sem, seval];exact ⟨k + 1, by omega, by omega, Weak.mk (by simp (disch := omega) only [Zb, Ve (hs.trans hd), go_sem, seval])⟩
   | true =>
    rw [hb, Bool.true_and] at hd;simp (disch := omega) only [go_sem, seval];refine cD ?_ ?_ <;> intro h4 <;> simp (disch := omega) only [Sh.out h4, go_sem, seval]
    ·rw [decide_eq_true (by omega : k ≠ f)] at hd;refine (ZfH x f k hf3 (by omega) (by omega) har).use ?_;simp (disch := omega) only [go_sem, seval];exact ⟨k + 1, by omega, by omega, Weak.mk (by simp (disch := omega) only [Zb, VA (hs.trans hd), List.map_append, List.map_cons, List.map_nil, List.length_append, List.length_cons, List.length_nil, Int.toNat_natCast, go_sem, seval])⟩
    ·rw [decide_eq_false (by omega : ¬ k ≠ f)] at hd;exact ⟨k + 1, by omega, by omega, Weak.mk (by simp (disch := omega) only [Zb, Ve (hs.trans hd), go_sem, seval])⟩
  ·have hkl : k = x.orders.length := by omega
   subst hkl;rw [hcut];refine Zm (Weak.fz (o := 1) (by rfl)) ?_;refine Zd [] _ _ _ _ ?_;simp (disch := omega) only [List.map_cons, List.map_nil, List.set_cons_succ, List.set_cons_zero, go_sem, seval]
   have hfi : ∀ i ∈ ZR (D : Int) 63, 0 <= i /\ i <= 59 := fun i hi => by have := hmi i hi; omega
   have ct := Zak (fun _ => false) (fun i => Zen x f i.toNat) (ZR (D : Int) 63) false (n - 1) (by omega) hasc hfi (by omega)
   have htl : Kl (fun _ => false) (fun i => Zen x f i.toNat) (ZR (D : Int) 63) (n - 1) < pw 19 := YF fun i hi => by
    have := hmi i (XQ.1 (List.mem_of_mem_take hi));omega
   rw [show ((n - 1 : Nat) : Int) = (n : Int) - 1 by omega] at ct
   generalize Kl (fun _ => false) (fun i => Zen x f i.toNat) (ZR (D : Int) 63) (n - 1) = T at *
   refine (ct).use ?_;simp (disch := omega) only [go_sem, seval];refine (WK T f (by omega) (by omega)).use ?_;simp (disch := omega) only [go_sem, seval];exact ⟨_, _, Weak.mk (by simp (disch := omega) only [Nat.or_comm T (pw f), go_sem, seval]), rfl, rfl⟩
theorem Ui {a n : Nat} (h : a < pw n) : Xy (fun j => a.testBit j) n = a := Nat.eq_of_testBit_eq fun j => by
 rw [YP]
 by_cases hj : j < n
 ·simp [hj]
 ·simp only [hj, decide_false, Bool.false_and]
  cases hb : a.testBit j with
  | false => rfl
  | true => exact absurd (XS h hb) hj
theorem Zao {a b : Nat} (h : ∀ j, b.testBit j = true -> a.testBit j = true) : ∀ n, Xy (fun j => (Vl a b).testBit j) n + Xy (fun j => b.testBit j) n = Xy (fun j => a.testBit j) n
 | 0 => rfl
 | n + 1 => by
  have ih := Zao h n;have hn := h n;simp only [Xy, VT] at ih ⊢
  by_cases hb : b.testBit n = true
  ·have ha := hn hb;simp only [ha, hb, Bool.not_true, Bool.and_false, Bool.false_eq_true, ↓reduceIte]; omega
  ·by_cases ha : a.testBit n = true
   ·simp only [ha, hb, Bool.true_and, Bool.not_eq_true'] ; rw [if_pos (by simp [hb])]; simp only [Bool.false_eq_true, ↓reduceIte]; omega
   ·simp only [ha, hb, Bool.false_and, Bool.false_eq_true, ↓reduceIte]; exact ih
theorem Zgp {a b n : Nat} (ha : a < pw n) (h : ∀ j, b.testBit j = true -> a.testBit j = true) : Vl a b + b = a := by
 have hb : b < pw n := Zdu fun j hj => XS ha (h j hj);have := Zao h n;rwa [Ui (Ub ha), Ui hb, Ui ha] at this
theorem ZiA {l : List Rte} {k : Nat} (h : k < l.length) : (l.take (k + 1)).drop k = [nth l k] := by
 rw [List.take_succ_eq_append_getElem h, List.drop_append, List.drop_eq_nil_of_le (by simp; omega), Ze h];simp [List.length_take, Nat.min_eq_left (Nat.le_of_lt h)]
theorem ZBn {α : Type} {l : List α} (h : l.length = 3) : ∃ a b c, l = [a, b, c] := by match l, h with | [a, b, c], _ => exact ⟨a, b, c, rfl⟩
theorem ZdK (x : Inst) (p : Pln) (kind st n : Int) (hx : InstOk x) (hR : Rm x p) (hx19 : x.orders.length <= 19) (hl : p.routes.length <= 100) (har : x.net.arcs.length <= 1048576) (hn : I64 n) :
  PT 19 [.p (Zy x), .p (Jf p), .p (.int .i64 kind), .p (.int .i64 st), .p (.int .i64 n)] [.p (.int .i64 ((Wg x p kind st n).1 : Nat)), .p (.int .i64 (Wg x p kind st n).2.1), .p (.int .i64 (Wg x p kind st n).2.2)] := by
 have e61 : pw 61 = 2305843009213693952 := rfl;refine Zc [] Tryz.func19 rfl Zwe ?_;simp (disch := omega) only [Tryz.f19, go_sem, seval];have ck := Qk x p false hR.n hR.rl (by have := hR.ul; omega) hR.b;rw [show (kno x.orders.length p.routes && (!false || Zc5 x.orders.length p.unserved)) = kno x.orders.length p.routes by simp] at ck;refine (ck).use ?_;simp (disch := omega) only [go_sem, seval]
 cases hk : kno x.orders.length p.routes with
 | false =>
  have e : Wg x p kind st n = (0, 0, 2) := by rw [Wg, if_pos hk]
  rw [e];simp (disch := omega) only [go_sem, seval];exact we
 | true =>
  have hk' : ¬ kno x.orders.length p.routes = false := by rw [hk]; simp
  have ha := W3 hk;have ha61 : XC p.routes < pw 61 := Nat.lt_of_lt_of_le ha (ZS (by omega));simp (disch := omega) only [go_sem, seval];refine gF ?_ ?_ <;> intro h1 <;> simp (disch := omega) only [Sh.out h1, go_sem, seval]
  ·have e : Wg x p kind st n = (0, 0, 8) := by rw [Wg, if_neg hk', if_pos (.inl h1)]
   rw [e];exact we
  ·refine cD ?_ ?_ <;> intro h2 <;> simp (disch := omega) only [Sh.out h2, go_sem, seval]
   ·have e : Wg x p kind st n = (0, 0, 8) := by rw [Wg, if_neg hk', if_pos (.inr h2)]
    rw [e];exact we
   ·have c1 : ¬ (kind < 1 \/ 4 < kind) := by omega
    refine gF ?_ ?_ <;> intro h3 <;> simp (disch := omega) only [Sh.out h3, go_sem, seval]
    ·have e : Wg x p kind st n = (0, 0, 2) := by rw [Wg, if_neg hk', if_neg c1, if_pos (.inl h3)]
     rw [e];exact we
    ·refine cD ?_ ?_ <;> intro h4 <;> simp (disch := omega) only [Sh.out h4, go_sem, seval]
     ·have e : Wg x p kind st n = (0, 0, 2) := by rw [Wg, if_neg hk', if_neg c1, if_pos (.inr h4)]
      rw [e];exact we
     ·have c2 : ¬ (n < 1 \/ 10 < n) := by omega
      refine (WH x.orders.length p.routes p.routes_c hR.n hk hR.rl hR.b).use ?_;simp (disch := omega) only [go_sem, seval];refine cD ?_ ?_ <;> intro h5 <;> simp (disch := omega) only [Sh.out h5, go_sem, seval]
      ·have c3 : XC p.routes = 0 := by omega
       have e : Wg x p kind st n = (0, st, 0) := by rw [Wg, if_neg hk', if_neg c1, if_neg c2, if_pos c3]
       rw [e];exact we
      ·have c3 : ¬ XC p.routes = 0 := by omega
       obtain ⟨m, rfl⟩ : ∃ m : Nat, n = m := ⟨n.toNat, by omega⟩
       have e : Wg x p kind st (m : Int) = if kind = 1 then ((KI m (XC p.routes) 0 st).1, (KI m (XC p.routes) 0 st).2, 0)
         else if kind = 2 then (ZbC x p (XC p.routes) m, st, 0)
         else if kind = 3 then (ZbX x (XC p.routes) st m, Yc st, 0)
         else (XD (nth p.routes (Xq st p.routes.length).toNat).visits, Yc st, 0) := by rw [Wg, if_neg hk', if_neg c1, if_neg c2, if_neg c3, Int.toNat_natCast]
       rw [e];refine cD ?_ ?_ <;> intro h7 <;> simp (disch := omega) only [Sh.out h7, go_sem, seval]
       ·rw [if_neg (by omega), if_pos h7];refine (Zhg x p (XC p.routes) m hx hR hx19 hl ha (by omega)).use ?_;simp (disch := omega) only [go_sem, seval];exact we
       ·refine cD ?_ ?_ <;> intro h8 <;> simp (disch := omega) only [Sh.out h8, go_sem, seval]
        ·rw [if_neg (by omega), if_neg h7, if_pos h8];refine WZ (ZhW x (XC p.routes) st m hx19 (by omega) ha (by omega) (by omega) har) ?_;simp (disch := omega) only [go_sem, seval];exact we
        ·refine cD ?_ ?_ <;> intro h9 <;> simp (disch := omega) only [Sh.out h9, go_sem, seval]
         ·rw [if_neg (by omega), if_neg h7, if_neg h8]
          have hne : 0 < p.routes.length := by
           rcases Nat.eq_zero_or_pos p.routes.length with h | h
           ·rw [List.length_eq_zero_iff.1 h] at c3; exact absurd rfl c3
           ·exact h
          have hb := YR (s := st) (n := (p.routes.length : Int)) (by omega);obtain ⟨j, hj⟩ : ∃ j : Nat, Xq st p.routes.length = j := ⟨_, (Int.toNat_of_nonneg hb.1).symm⟩
          have hjl : j < p.routes.length := by omega
          have cb := Qx st p.routes.length;rw [hj] at cb ⊢;rw [Int.toNat_natCast];refine WZ cb ?_;simp (disch := omega) only [go_sem, seval];rw [ZiA hjl];have co := fun c => WH x.orders.length [nth p.routes j] c hR.n (by simpa [kno] using List.all_eq_true.1 hk _ (Zi hjl)) (by simp) (by simpa using hR.b _ (Zi hjl));rw [show XC [nth p.routes j] = XD (nth p.routes j).visits by simp [XC]] at co;refine (co _).use ?_;simp (disch := omega) only [go_sem, seval];exact we
         ·rw [if_pos (by omega)];obtain ⟨R, hRr⟩ : ∃ R, R = KI m (XC p.routes) 0 st := ⟨_, rfl⟩;rw [<- hRr]
          generalize XC p.routes = on at *
          refine Zf [4, 13] (fun q : Nat × Nat × Int => [(3, .p (.int .i64 q.2.2)), (18, .p (.int .i64 (q.2.1 : Int)))]) (fun _ => [Zb x, ZB p])
           (fun q => q.1 <= m /\ pc q.2.1 63 = q.1 /\ (∀ j, q.2.1.testBit j = true -> on.testBit j = true) /\ R = KI (m - q.1) on q.2.1 q.2.2) (fun q => m - q.1) (0, 0, st) ⟨by simp, (by decide : pc 0 63 = 0), by simp, by simpa using hRr⟩ (Weak.mk ?_) ?_
          ·simp (disch := omega) only [Zb, ZB, go_sem, seval]
          ·rintro ⟨k, s, t⟩ ⟨g1, g2, g3, g4⟩;simp only at g1 g2 g3 g4;have hs61 : s < pw 61 := Zdu fun j hj => XS ha61 (g3 j hj);have hsz := Zg5 s (by omega);rw [g2] at hsz
           have fin : Vl on s = 0 \/ m - k = 0 -> R = (s, t) := fun h => by
            rw [g4]
            cases hm : m - k with
            | zero => rfl
            | succ z => rw [KI, if_pos (by omega)]
           simp (disch := omega) only [Zb, ZB, go_sem, seval];refine (hsz).use ?_;simp (disch := omega) only [go_sem, seval];refine gT ?_ ?_ <;> intro h10 <;> simp (disch := omega) only [Sh.out h10, go_sem, seval]
           ·refine cD ?_ ?_ <;> intro h11 <;> simp (disch := omega) only [Sh.out h11, go_sem, seval]
            ·have hda := Zgp ha61 g3
             have hd0 : ¬ Vl on s = 0 := by omega
             have hdl := Ub (b := s) ha61;obtain ⟨j, hj, _, hj2⟩ := VX (s := t) (S := Vl on s) (by omega) (Nat.lt_of_lt_of_le hdl (ZS (by omega)));have hj3 := XS hdl hj2
             have hj4 : on.testBit j = true /\ s.testBit j = false := by rw [VT] at hj2; simpa using hj2
             have hp : pw j <= pw 60 := ZS (by omega);have e60 : pw 60 = 1152921504606846976 := rfl;obtain ⟨z, hz⟩ : ∃ z, m - k = z + 1 := ⟨m - k - 1, by omega⟩;rw [hz, KI, if_neg hd0, hj, Int.toNat_natCast] at g4;have cp := Jv t (Vl on s) (by omega) (by omega);rw [hj, show ((Vl on s : Nat) : Int) = (on : Int) - (s : Int) by omega] at cp;refine WZ cp ?_;simp (disch := omega) only [go_sem, seval];refine (WK s j (by omega) (by omega)).use ?_;simp (disch := omega) only [go_sem, seval];have hpc := Ze5 hj4.2 63;rw [if_pos (by omega), g2, <- Zfj hj4.2] at hpc;refine ⟨(k + 1, s ||| pw j, Yc t), ⟨by simp only; omega, hpc, fun i hi => ?_, by simp only; rw [g4]; congr 1; omega⟩, by simp only; omega, Weak.mk (by simp (disch := omega) only [Zb, ZB, go_sem, seval])⟩
             simp only at hi;rw [Nat.testBit_or, Z5, Bool.or_eq_true, decide_eq_true_eq] at hi;rcases hi with hi | rfl
             ·exact g3 i hi
             ·exact hj4.1
            ·have hda := Zgp ha61 g3;rw [fin (.inl (by omega))];exact we
           ·rw [fin (.inr (by omega))];exact we
structure Ask where
 kind : Int
 state : Int
 n : Int
 deriving Inhabited
def ZBq (x : Ask) : List PV := [.int .i64 x.kind, .int .i64 x.state, .int .i64 x.n]
def Zyt (x : Ask) : PV := .agg [.int .i64 x.kind, .int .i64 x.state, .int .i64 x.n]
@[go_sem] theorem ZxP (x : Ask) : Zyt x = .agg [.int .i64 x.kind, .int .i64 x.state, .int .i64 x.n] := Eq.trans rfl rfl
def Ask.wf (B : Nat) (x : Ask) : Prop := I64 x.kind /\ I64 x.state /\ I64 x.n
theorem Zie {B m cs} (h : Y0 Tryz.prog B m 49 cs) : ∃ x : Ask, cs = ZBq x /\ x.wf B := by
 obtain ⟨h1, m', h2⟩ := Xw Zq4 Zya h;obtain ⟨a0, a1, a2, rfl⟩ := ZBn h1;obtain ⟨n0, e0, w0⟩ := Zr Tryz.underlying3 (h2 (0, 3) (by simp));obtain ⟨n1, e1, w1⟩ := Zr Tryz.underlying3 (h2 (1, 3) (by simp));obtain ⟨n2, e2, w2⟩ := Zr Tryz.underlying3 (h2 (2, 3) (by simp));simp [Zih] at e0 e1 e2;subst e0; subst e1; subst e2;exact ⟨⟨n0, n1, n2⟩, rfl, ZL w0, ZL w1, ZL w2⟩
theorem ZkS {B v} (h : FitV Tryz.prog B 49 v) : ∃ x : Ask, v = Zyt x /\ x.wf B := by
 obtain ⟨k, cs, h, e⟩ := h.out;obtain ⟨x, rfl, hw⟩ := Zie h;exact ⟨x, e.trans (by rw [QJ, if_pos (Xv Zq4)]; rfl), hw⟩
theorem QY (x : Inst) (hw : x.wf 1048576) (p : Pln) (hp : p.wf 1048576) (a : Ask) (hs : a.wf 1048576) : PC 5 [.p (Zy x), .p (Jf p), .p (Zyt a)] (.bool true) := by
 refine Za Tryz.func5 rfl ZB2 ?_;simp (disch := omega) only [Tryz.f5, go_sem, seval];refine (ZgL x hw p hp).useV fun b hb => ?_;simp (disch := omega) only [go_sem, seval];refine cD ?_ ?_ <;> intro h1 <;> simp (disch := omega) only [Sh.out h1, go_sem, seval]
 ·refine (VD).use ?_;simp (disch := omega) only [go_sem, seval]
 ·obtain ⟨hx, g1, g2, g3⟩ := hb (by simpa using h1);have hR := ZoD hx hw hp g2 g3
  have har : x.net.arcs.length <= 1048576 := by
   obtain ⟨⟨_, _, h, _⟩, _⟩ := hw;exact h
  refine J7 (Zcx x p a.kind a.state a.n hx hR (by omega) (by omega) har hs.2.2) ?_;simp (disch := omega) only [go_sem, seval];refine J7 (ZdK x p a.kind a.state a.n hx hR (by omega) (by omega) har hs.2.2) ?_;simp (disch := omega) only [go_sem, seval];refine (VD).use ?_;simp (disch := omega) only [go_sem, seval]
end Go.Proofs.YtcdoglogglbemaaGreatDoor.K
