/- Declarations that the closing texts need, part 17: joined by tools/slim.py. -/
import Derived.Test.YtcdoglogglbemaaGreatDoorZb16
import Derived.Shelf.Slices.In.SortNone
import Derived.Shelf.Sort.Plain
set_option linter.unusedVariables false
set_option linter.unusedSimpArgs false
namespace Go.AM
open Go.RowKit Go.Shelf Go.Lib Go.Sort Go.Proofs
theorem ACalls.sortInts {P : Program} {ρ : Ren} (L : Lays.n189 P ρ) (hg : Zg P (ρ.f 189)) (l : List Int) (hlen : l.length < 4611686018427387904) {H : List AM.Obj} {o : Nat} (hHo : H[o]? = some (.elems 1 (l.map (PV.int .i64)))) :
  ACalls P (ρ.f 189) [.sl o 0 l.length l.length] H fun y H' => y = .tup [] /\ H' = H.set o (.elems 1 ((l.mergeSort fun x y => decide (x <= y)).map (PV.int .i64))) := by
 refine ⟨hg, fun F ι w vs hr hv => ?_⟩;obtain ⟨hv1, hv2⟩ := hv;have h0 := hv2 0 _ rfl
 have hvs : vs = #[vs.getD 0 undef] := by
  apply Array.ext
  ·simpa using hv1
  ·intro i h2 h3
   have : i = 0 := by simp at h3; omega
   subst this;simp [Array.getD, h2]
 rw [hvs];generalize vs.getD 0 undef = v0 at h0 ⊢;clear hvs hv1 hv2;have hol := (List.getElem?_eq_some_iff.1 hHo).1;generalize hL : l.length = n at h0 hlen
 by_cases hn : n = 0
 ·subst hn;have hl0 : l = [] := List.length_eq_zero_iff.1 hL;subst hl0
  have e1 : H.set o (.elems 1 ((([] : List Int).mergeSort fun x y => decide (x <= y)).map (PV.int .i64))) = H := by
   apply List.ext_getElem?;intro i;rw [List.getElem?_set]
   split
   ·rename_i hi; subst hi; rw [hHo]; simp
   ·rfl
  obtain ⟨ad, cap, rfl⟩ : ∃ ad cap, v0 = .slice ad 0 cap := by
   cases h0 with
   | slNil => exact ⟨_, _, rfl⟩
   | sl => exact ⟨_, _, rfl⟩
   | slD _ _ _ _ _ hd => rw [hHo] at hd; cases hd
   | slS _ _ _ _ _ S2 xs2 hd hne => rw [hHo] at hd; simp at hd; obtain ⟨_, rfl⟩ := hd; simp at hne
   | slC _ _ _ _ _ _ hd => rw [hHo] at hd; cases hd
  refine (Any.slices_Sort_int_none L ad cap w).mono ?_;rintro e w' ⟨rfl, rfl⟩;exact ⟨.tup [], _, ι, _, rfl, ⟨rfl, e1.symm⟩, Good.refl hr, .tup [] #[] (by simp) (by simp)⟩
 cases h0 with
 | slNil => omega
 | slD _ _ _ _ _ hd => rw [hHo] at hd; cases hd
 | slS _ _ _ _ _ S ys hd hlt => rw [hHo] at hd; simp at hd; obtain ⟨_, rfl⟩ := hd; simp at hlt; omega
 | slC _ _ _ _ _ _ hd => rw [hHo] at hd; cases hd
 | sl _ _ _ _ b S cap t ys c hι hH ht2 hw hcap hl hle hm =>
 rw [hHo] at hH;simp at hH;obtain ⟨rfl, rfl⟩ := hH;rcases hr.elm o 1 (l.map (PV.int .i64)) hHo with ⟨e1, _⟩ | ⟨b2, c2, t2, cap2, e1, e2, e3, e4, e5, e6, e7⟩
 ·rw [hι] at e1; cases e1
 rw [hι] at e1;simp at e1; subst e1;rw [hw] at e2;simp at e2;obtain ⟨rfl, rfl⟩ := e2;have hbs : b < w.heap.size := (hr.avo o b hι).2;simp only [List.length_map, Nat.mul_one] at e3 e4 hcap
 have cell : ∀ i (hi : i < n), c.getD i undef = .int .i64 (l[i]'(by omega)) := fun i hi => by
  have := e7 i (.int .i64 (l[i]'(by omega))) 0 (.int .i64 (l[i]'(by omega))) (by simp [hL, hi]) (by rfl);simp only [Nat.mul_one, Nat.add_zero] at this;exact this.int_inv
 have hHolds : Holds (Value.int .i64) w b (0 * 1) l.toArray := fun j hj => by
  have hj2 : j < n := by simpa [hL] using hj
  have hjc : j < c.size := by omega
  refine ⟨?_, by simp [World.frozen?, hw]⟩;have e9 := cell j hj2;simp only [Array.getD_eq_getD_getElem?, hjc, getElem?_pos, Option.getD_some] at e9;simp [World.cell?, hw, hjc, e9, hj2, hL]
 have main := Any.slices_Sort_int L b (0 * 1) cap l w hHolds hbs (by omega);rw [hL] at main;refine main.mono ?_;rintro e' w' ⟨rfl, m, os, rfl⟩;generalize hS : (l.mergeSort fun x y => decide (x <= y)) = s
 have hsl : s.length = n := by rw [<- hS, (List.mergeSort_perm l _).length_eq, hL]
 have hat : (grow (putRow (Value.int .i64) (Sort.ahead w m) b (0 * 1) s.toArray) os).heap[b]? = some (.cells (putCells (Value.int .i64) 0 s.toArray c) t (0, 0)) := by
  simp only [grow, putRow, mapBlock, Sort.ahead];rw [Array.getElem?_append_left (by simpa using hbs), Array.getElem?_modify, if_pos rfl, hw]
  rfl
 have hother : ∀ k, k < w.heap.size -> k ≠ b -> (grow (putRow (Value.int .i64) (Sort.ahead w m) b (0 * 1) s.toArray) os).heap[k]? = w.heap[k]? := fun k hk hne => by
  simp only [grow, putRow, mapBlock, Sort.ahead];rw [Array.getElem?_append_left (by simpa using hk), Array.getElem?_modify, if_neg (fun e => hne e.symm)]
 have hcs : (putCells (Value.int .i64) 0 s.toArray c).size = c.size := by simp [putCells]
 have g := Xb (xs' := s.map (PV.int .i64)) (w' := grow (putRow (Value.int .i64) (Sort.ahead w m) b (0 * 1) s.toArray) os) (cap := cap2) hr hHo rfl (Tp.of rfl (by simp [grow, putRow, mapBlock, Sort.ahead])) rfl
  (fun c0 t0 hc0 => by rw [hw] at hc0; simp at hc0; obtain ⟨rfl, rfl⟩ := hc0; exact ⟨rfl, hcs⟩) (by simp [grow, putRow, mapBlock, Sort.ahead]) hat hother
  (.inl ⟨hι, .inl ⟨by simp [hsl, hL], fun c0 t0 hc0 => by rw [hw] at hc0; simp at hc0; obtain ⟨rfl, rfl⟩ := hc0; exact ⟨rfl, hcs⟩⟩⟩)
  (by rw [hcs, e3, Nat.mul_one]) (by simp; omega) e5 (fun i x hi => by
   rw [List.getElem?_map] at hi;obtain ⟨y, _, rfl⟩ := Option.map_eq_some_iff.1 hi
   rfl) (fun i x j y hi hj => by
   rw [List.getElem?_map] at hi;obtain ⟨q, hq, rfl⟩ := Option.map_eq_some_iff.1 hi
   have hj0 : j = 0 := by have := (List.getElem?_eq_some_iff.1 hj).1; simpa [PV.cells] using this
   subst hj0;simp [PV.cells] at hj; subst hj;have hil := (List.getElem?_eq_some_iff.1 hq).1
   have hic : i < c.size := by omega
   have e9 : (putCells (Value.int .i64) 0 s.toArray c).getD (i * 1 + 0) undef = .int .i64 q := by
    have hg := (List.getElem?_eq_some_iff.1 hq).2;simp [putCells, Array.getD_eq_getD_getElem?, hic, hil, hg]
   rw [e9]
   exact .int _ _)
 have eι : ι.set o (some b) = ι := by
  apply List.ext_getElem?;intro i;rw [List.getElem?_set];have hιl := (List.getElem?_eq_some_iff.1 hι).1
  split
  ·rename_i hi; subst hi; rw [hι]
  ·rfl
 exact ⟨.tup [], _, _, _, rfl, ⟨rfl, rfl⟩, g, .tup [] #[] (by simp) (by simp)⟩
end Go.AM
set_option linter.unusedVariables false
set_option linter.unusedSimpArgs false
namespace Go.Proofs.YtcdoglogglbemaaGreatDoor.K
open Go Go.AM Go.Proofs
set_option maxRecDepth 8000
set_option maxHeartbeats 8000000
theorem Zxw : Qg Tryz.prog 73 = some (.agg [.int .i64 0, .bool false]) := by kernel_rfl
theorem Zxp : Qg Tryz.prog 3 = some (.int .i64 0) := by kernel_rfl
@[go_sem] theorem ZCe {H : List AM.Obj} {o off len tot : Nat} : Up Tryz.prog H 42 (.sl o off len tot) = ZnC 2 (.agg [.int .i64 0, .bool false]) H (oat H o) o off len tot := Jf Tryz.underlying42 Zxw rfl rfl
@[go_sem] theorem ZCb {H : List AM.Obj} {o off len tot : Nat} : Up Tryz.prog H 32 (.sl o off len tot) = ZnC 1 (.int .i64 0) H (oat H o) o off len tot := Jf Tryz.underlying32 Zxp rfl rfl
theorem Zxo (k : Nat) : List.replicate k (PV.agg [.int .i64 0, .bool false]) = (List.replicate k (⟨0, false⟩ : Vis)).map eVis := by rw [List.map_replicate]; rfl
theorem Zxi (k : Nat) : List.replicate k (PV.int .i64 0) = (List.replicate k (0 : Int)).map eI := by rw [List.map_replicate]; rfl
def slV (o k n : Nat) : V := if k = 0 /\ 0 < n then .p (.list false []) else .sl o 0 k n
def rmH (x : Inst) (p : Pln) (g : Nat) (R : List Rte) (r : Rte) (m : List Vis) : List AM.Obj :=
 [Zb x, Zx p, .cells [.p (.list true []), .p (.list true [])], .cells [.p (.int .i64 (g : Int))], .cells [.sl 5 0 R.length R.length, .p (.list true [])], .elems 4 (R.map YZ), Zw r, .elems 2 (m.map eVis)]
def goB (g : Nat) (v : Vis) : Bool := g.testBit v.order.toNat
theorem ZjZ (x : Inst) (p : Pln) (g : Nat) (R : List Rte) (r : Rte) (m : List Vis) (v : Vis) (hv : 0 <= v.order /\ v.order <= 62) :
  ACalls Tryz.prog 40 [.p (eVis v), .ptr 3 0] (rmH x p g R r m) fun y H' => y = .p (.bool (goB g v)) /\ H' = rmH x p g R r m := by
 refine Zc [] Tryz.func40 rfl Zwy ?_;simp (disch := omega) only [Tryz.f40, rmH, Zb, Zx, Zw, go_sem, seval];refine (Zlx (g : Int) v.order).use ?_;simp (disch := omega) only [go_sem, seval];obtain ⟨n, hn⟩ : ∃ n : Nat, v.order = n := ⟨v.order.toNat, by omega⟩
 have e : Ze8 (g : Int) v.order = goB g v := by rw [goB, hn, VL g n (by omega)]; rfl
 rw [e];exact we (by simp (disch := omega) only [rmH, Zb, Zx, Zw, go_sem, seval])
theorem ZmF (x : Inst) (p : Pln) (g : Nat) (R : List Rte) (r : Rte) (m : List Vis) (hl : m.length <= 1048576) (hm : ∀ v ∈ m, 0 <= v.order /\ v.order <= 62) :
  ACalls Tryz.prog 104 [.sl 7 0 m.length m.length, .fn (.func 40) [] [.ptr 3 0]] (rmH x p g R r m) fun y H' => y = .p (.int .i64 (fIx (goB g) m)) /\ H' = rmH x p g R r m := by
 refine Zc [] Tryz.func104 rfl Zjk ?_;simp (disch := omega) only [Tryz.f104, rmH, Zb, Zx, Zw, go_sem, seval];refine Zf [0, 1, 7] (fun k : Nat => [(8, .p (.int .i64 k))]) (fun _ => rmH x p g R r m) (fun k => k <= m.length /\ ∀ j, j < k -> goB g (nth m j) = false) (fun k => m.length - k) 0 (by simp) (Weak.mk ?_) ?_
 ·simp (disch := omega) only [rmH, Zb, Zx, Zw, go_sem, seval]
 ·rintro k ⟨hk, hno⟩;simp (disch := omega) only [rmH, Zb, Zx, Zw, go_sem, seval];refine cD ?_ ?_ <;> intro h <;> simp (disch := omega) only [Sh.out h, go_sem, seval]
  ·have hk2 : k < m.length := by omega
   simp (disch := first | omega | (simp only [List.length_cons, List.length_nil, List.length_append, List.length_map, List.length_take, List.length_drop] <;> omega)) only [Xi hk2, hk2, if_true, go_sem, seval];refine (ZjZ x p g R r m (nth m k) (hm _ (Zl hk2))).useH ?_;simp (disch := omega) only [go_sem, seval];refine cD ?_ ?_ <;> intro h2 <;> simp (disch := omega) only [Sh.out h2, go_sem, seval]
   ·rw [Zac hk2 h2 hno];exact we (by simp (disch := omega) only [rmH, Zb, Zx, Zw, go_sem, seval])
   ·exact ⟨k + 1, ⟨by omega, Zh.2 ⟨hno, by simpa using h2⟩⟩, by omega, Weak.mk (by simp (disch := omega) only [rmH, Zb, Zx, Zw, go_sem, seval])⟩
  ·have hkl : k = m.length := by omega
   subst hkl;rw [Zcj hno];exact we (by simp (disch := omega) only [rmH, Zb, Zx, Zw, go_sem, seval])
theorem Zmr {f : Vis -> Bool} {l : List Vis} (h : fIx f l = -1) : ∀ v ∈ l, f v = false := fun v hv => by
 have := Zce (f := f) (l := l);rw [h] at this
 have h2 : l.any f = false := by rw [<- this]; rfl
 simpa using List.any_eq_false.1 h2 v hv
theorem Zmv {f : Vis -> Bool} {l : List Vis} (h : ¬ fIx f l = -1) : ∃ i : Nat, fIx f l = (i : Int) /\ i < l.length /\ f (nth l i) = true /\ ∀ j, j < i -> f (nth l j) = false := by
 unfold fIx at h ⊢
 cases hi : l.findIdx? f with
 | none => rw [hi] at h; simp at h
 | some i =>
  rw [List.findIdx?_eq_some_iff_getElem] at hi;obtain ⟨h1, h2, h3⟩ := hi;exact ⟨i, rfl, h1, by rw [Ze h1]; exact h2, fun j hj => by rw [Ze (by omega)]; simpa using h3 j hj⟩
theorem Zdc {f : Vis -> Bool} {l : List Vis} (h : ∀ v ∈ l, f v = false) : l.filter (fun v => !f v) = l := by
 rw [List.filter_eq_self]; intro v hv; rw [h v hv]; rfl
theorem U2 {f : Vis -> Bool} {l : List Vis} {k : Nat} (h : k < l.length) : (l.take (k + 1)).filter (fun v => !f v) = (l.take k).filter (fun v => !f v) ++ if f (nth l k) = true then [] else [nth l k] := by
 rw [List.take_succ_eq_append_getElem h, List.filter_append, Ze h]
 congr 1
 cases c : f l[k] <;> simp [c]
theorem Zik (x : Inst) (p : Pln) (g : Nat) (R : List Rte) (r : Rte) (m : List Vis) (hl : m.length <= 1048576) (hm : ∀ v ∈ m, 0 <= v.order /\ v.order <= 62) :
  ACalls Tryz.prog 38 [.sl 7 0 m.length m.length, .fn (.func 40) [] [.ptr 3 0]] (rmH x p g R r m) fun y H' => ∃ (M : List Vis) (k : Nat), M.length = m.length /\ k <= m.length /\ M.take k = m.filter (fun v => !goB g v) /\ y = slV 7 k m.length /\ H' = rmH x p g R r M := by
 refine Zc [12] Tryz.func38 rfl ZwN ?_;simp (disch := omega) only [Tryz.f38, rmH, Zb, Zx, Zw, go_sem, seval];refine (ZmF x p g R r m hl hm).useH ?_;simp (disch := omega) only [go_sem, seval];refine cD ?_ ?_ <;> intro h <;> simp (disch := omega) only [Sh.out h, go_sem, seval]
 ·exact ⟨.sl 7 0 m.length m.length, rmH x p g R r m, Weak.mk (by simp (disch := omega) only [rmH, Zb, Zx, Zw, go_sem, seval]), m, m.length, rfl, Nat.le_refl _, by rw [List.take_length, Zdc (Zmr h)], by rw [slV, if_neg (by omega)], rfl⟩
 ·obtain ⟨i0, e0, h1, h2, h3⟩ := Zmv h;rw [e0];simp (disch := omega) only [go_sem, seval]
  refine ZY [12] [0, 1] (fun q : Nat × Nat × List Vis => [(5, .p (.int .i64 q.1)), (6, .p (.int .i64 q.2.1))]) (fun q => rmH x p g R r q.2.2)
   (fun q => q.1 < q.2.1 /\ q.2.1 <= m.length /\ q.2.2.length = m.length /\ q.2.2.take q.1 = (m.take q.2.1).filter (fun v => !goB g v) /\ ∀ j, q.2.1 <= j -> j < m.length -> nth q.2.2 j = nth m j) (fun q => m.length - q.2.1) (i0, i0 + 1, m) ⟨by simp, by simp only; omega, rfl, ?_, fun _ _ _ => rfl⟩ (Weak.mk ?_) ?_
  ·simp only;rw [U2 h1, if_pos h2, List.append_nil]
   symm
   rw [List.filter_eq_self];intro v hv;obtain ⟨j, hj, rfl⟩ := List.mem_iff_getElem.1 hv;simp at hj;have := h3 j (by omega);rw [Ze (by omega)] at this;rw [List.getElem_take, this]; rfl
  ·simp (disch := omega) only [rmH, Zb, Zx, Zw, go_sem, seval]
  ·clear h1 h2 h3 e0 h;rintro ⟨i, j, M⟩ ⟨q1, q2, q3, q4, q5⟩;simp only at q1 q2 q3 q4 q5;simp (disch := omega) only [rmH, Zb, Zx, Zw, q3, go_sem, seval];refine cD ?_ ?_ <;> intro h4 <;> simp (disch := omega) only [Sh.out h4, go_sem, seval]
   ·have hj : j < m.length := by omega
    have hjM : j < M.length := by omega
    have hi : i < M.length := by omega
    have hf := U2 (f := goB g) hj
    have e1 : elt (M.map eVis) j = eVis (nth m j) := by rw [Xi hjM, q5 j (Nat.le_refl _) hj]
    simp (disch := first | omega | (simp only [List.length_cons, List.length_nil, List.length_append, List.length_map, List.length_take, List.length_drop] <;> omega)) only [e1, q3, hj, if_true, go_sem, seval];refine ACalls.useP (L := [_]) (ZjZ x p g R r M (nth m j) (hm _ (Zl hj))) rfl ?_ (by rfl) ?_
    ·simp (disch := omega) only [go_sem, seval];generalize hgb : goB g (nth m j) = gb at hf ⊢
     cases gb with
     | true =>
      simp (disch := omega) only [go_sem, seval];rw [if_pos rfl, List.append_nil] at hf;exact ⟨(i, j + 1, M), ⟨by simp only; omega, by simp only; omega, q3, by simp only; rw [q4, hf], fun k hk h => q5 k (by simp only at hk; omega) h⟩, by simp only; omega, Weak.mk (by simp (disch := omega) only [rmH, Zb, Zx, Zw, go_sem, seval])⟩
     | false =>
      simp (disch := first | omega | (simp only [List.length_cons, List.length_nil, List.length_append, List.length_map, List.length_take, List.length_drop] <;> omega)) only [rmH, Zb, Zx, Zw, List.cons_append, List.nil_append, q3, hi, hj, if_true, go_sem, seval];rw [if_neg (by simp)] at hf
      have ZD : (M.map eVis).set i (.agg [.int .i64 (nth m j).order, .bool (nth m j).drp]) = (M.set i (nth m j)).map eVis := by rw [List.map_set]; rfl
      refine ⟨(i + 1, j + 1, M.set i (nth m j)), ⟨by simp only; omega, by simp only; omega, by simp only [List.length_set]; exact q3, ?_, fun k hk h => ?_⟩, by simp only; omega, Weak.mk (by simp (disch := omega) only [rmH, Zb, Zx, Zw, ZD, go_sem, seval])⟩
      ·simp only;rw [List.take_succ_eq_append_getElem (by simpa using hi), List.take_set_of_le (Nat.le_refl _), List.getElem_set_self, q4, hf]
      ·simp only at hk ⊢;rw [Ze (by simp; omega), List.getElem_set_ne (by omega), <- Ze (by omega)];exact q5 k (by omega) h
    ·simp [rmH, refH, Zb, Zx, Zw, refB, refBs]
   ·have hjl : j = m.length := by omega
    subst hjl;rw [List.take_length] at q4
    have hi : i < M.length := by omega
    obtain ⟨M', hM'⟩ : ∃ M' : List Vis, M' = M.take i ++ List.replicate (m.length - i) ⟨0, false⟩ ++ M.drop (i + (m.length - i)) := ⟨_, rfl⟩
    have hme : List.take i (M.map eVis) ++ (List.replicate (m.length - i) (⟨0, false⟩ : Vis)).map eVis ++ List.drop (i + (m.length - i)) (M.map eVis) = M'.map eVis := by rw [hM', List.map_append, List.map_append, List.map_take, List.map_drop]
    have hml : M'.length = m.length := by rw [hM']; simp; omega
    have hmt : M'.take i = m.filter fun v => !goB g v := by
     rw [hM', List.append_assoc, List.take_append_of_le_length (by simp; omega), List.take_take, Nat.min_self]; exact q4
    simp (disch := first | omega | (simp only [List.length_cons, List.length_nil, List.length_append, List.length_map, List.length_take, List.length_drop] <;> omega)) only [q3, if_true, Zxo, hme, go_sem, seval]
    by_cases hi0 : i = 0
    ·subst hi0;refine XQ (UU 2 rfl rfl ?_);refine ⟨_, Ky rfl Ztm rfl (by rfl) (by simpa using hml) rfl, ?_⟩;rintro _ rfl;simp (disch := omega) only [go_sem, seval];refine Zd [] _ _ _ _ ?_;simp (disch := omega) only [go_sem, seval];exact ⟨.p (.list false []), rmH x p g R r M', Weak.mk (by simp (disch := omega) only [rmH, Zb, Zx, Zw, go_sem, seval]), M', 0, hml, Nat.zero_le _, hmt, by rw [slV, if_pos (by omega)], rfl⟩
    ·refine Zd [] _ _ _ _ ?_;simp (disch := omega) only [hml, if_true, go_sem, seval];exact ⟨.sl 7 0 i m.length, rmH x p g R r M', Weak.mk (by simp (disch := omega) only [rmH, Zb, Zx, Zw, Nat.sub_zero, go_sem, seval]), M', i, hml, by omega, hmt, by rw [slV, if_neg (by omega)], rfl⟩
def Zps (l : List Int) : List Int := l.mergeSort fun x y => decide (x <= y)
theorem Zaz (l : List Int) : (Zps l).Perm l := List.mergeSort_perm l _
theorem Zi4 (l : List Int) : (Zps l).Pairwise (· <= ·) :=
 (List.pairwise_mergeSort (le := fun x y : Int => decide (x <= y)) (fun a b c h1 h2 => by simp only [decide_eq_true_eq] at *; omega) (fun a b => by simp; omega) l).imp fun h => by simpa using h
theorem Zir {H : List AM.Obj} {o : Nat} (l : List Int) (hl : l.length <= 1048576) (hH : H[o]? = some (.elems 1 (l.map eI))) :
  ACalls Tryz.prog 44 [.sl o 0 l.length l.length] H fun y H' => y = .tup [] /\ H' = H.set o (.elems 1 ((Zps l).map eI)) :=
 ACalls.sortInts Zmw Zwv l (by omega) hH
def cpH (x : Inst) (p : Pln) (g : Nat) (R : List Rte) (n : Nat) (m : List Int) : List AM.Obj :=
 [Zb x, Zx p, .cells [.p (.list true []), .p (.list true [])], .cells [.p (.int .i64 (g : Int))], .cells [.sl 5 0 R.length R.length, .sl 6 0 n n], .elems 4 (R.map YZ), .elems 1 (m.map eI)]
theorem V3 {l : List Int} {k : Nat} (hs : l.Pairwise (· <= ·)) (h : ∀ j, 0 < j -> j < k -> nth l j ≠ nth l (j - 1)) : (l.take k).Pairwise (· < ·) := by
 rw [List.pairwise_iff_getElem];intro a b ha hb hab;simp at ha hb;rw [List.getElem_take, List.getElem_take];have h1 := h b (by omega) (by omega);rw [Ze (by omega), Ze (by omega)] at h1;have h2 := List.pairwise_iff_getElem.1 hs (b - 1) b (by omega) (by omega) (by omega);rcases Nat.eq_or_lt_of_le (show a <= b - 1 by omega) with e | e
 ·subst e; omega
 ·have h3 := List.pairwise_iff_getElem.1 hs a (b - 1) (by omega) (by omega) e;omega
theorem ZeD (x : Inst) (p : Pln) (g : Nat) (R : List Rte) (m : List Int) (hl : m.length <= 1048576) (hs : m.Pairwise (· <= ·)) :
  ACalls Tryz.prog 45 [.sl 6 0 m.length m.length] (cpH x p g R m.length m) fun y H' => ∃ (M : List Int) (k : Nat), M.length = m.length /\ k <= m.length /\ (M.take k).Pairwise (· < ·) /\ (∀ z, z ∈ M.take k ↔ z ∈ m) /\ y = .sl 6 0 k m.length /\ H' = cpH x p g R m.length M := by
 have hs' : ∀ a b, a <= b -> b < m.length -> nth m a <= nth m b := fun a b h1 h2 => by
  rcases Nat.eq_or_lt_of_le h1 with e | e
  ·rw [e]; exact Int.le_refl _
  ·rw [Ze h2, Ze (by omega)]; exact List.pairwise_iff_getElem.1 hs a b (by omega) h2 e
 refine Zc [] Tryz.func45 rfl Zwb ?_;simp (disch := omega) only [Tryz.f45, cpH, Zb, Zx, go_sem, seval];refine cD ?_ ?_ <;> intro h <;> simp (disch := omega) only [Sh.out h, go_sem, seval]
 ·exact ⟨.sl 6 0 m.length m.length, cpH x p g R m.length m, Weak.mk (by simp (disch := omega) only [cpH, Zb, Zx, go_sem, seval]), m, m.length, rfl, Nat.le_refl _, by
   rw [List.take_length]
   have := V3 (l := m) (k := m.length) hs fun j h1 h2 => by omega
   rwa [List.take_length] at this, by simp, rfl, rfl⟩
 ·refine Zf [0] (fun k : Nat => [(3, .p (.int .i64 k))]) (fun _ => cpH x p g R m.length m) (fun k => 1 <= k /\ k <= m.length /\ ∀ j, 0 < j -> j < k -> nth m j ≠ nth m (j - 1)) (fun k => m.length - k) 1 ⟨by omega, by omega, fun j h1 h2 => by omega⟩ (Weak.mk ?_) ?_
  ·simp (disch := omega) only [cpH, Zb, Zx, go_sem, seval]
  ·rintro k ⟨hk1, hk2, hadj⟩;simp (disch := omega) only [cpH, Zb, Zx, go_sem, seval];refine cD ?_ ?_ <;> intro h1 <;> simp (disch := omega) only [Sh.out h1, go_sem, seval]
   ·have hk3 : k < m.length := by omega
    have e1 : ((k : Int) - 1).toNat = k - 1 := by omega
    have he1 : elt (m.map eI) k = eI (nth m k) := Xi hk3;have he2 : elt (m.map eI) (k - 1) = eI (nth m (k - 1)) := Xi (by omega)
    have hk4 : k - 1 < m.length := by omega
    refine Zi mixed (by kernel_rfl) (by kernel_rfl) ?_;simp (disch := omega) only [go_sem, seval];simp (disch := first | omega | (simp only [List.length_cons, List.length_nil, List.length_append, List.length_map, List.length_take, List.length_drop] <;> omega)) only [e1, he1, he2, hk3, hk4, if_true, go_sem, seval];refine cD ?_ ?_ <;> intro h2 <;> simp (disch := omega) only [Sh.out h2, go_sem, seval]
    ·have h2' : nth m k = nth m (k - 1) := by simpa using h2
     have htk : ∀ i, i < m.length -> m.take (i + 1) = m.take i ++ [nth m i] := fun i hi => by rw [List.take_succ_eq_append_getElem hi, Ze hi]
     refine Zf [0, 4] (fun q : Nat × Nat × List Int => [(3, .p (.int .i64 q.1)), (5, .p (.int .i64 q.2.1))]) (fun q => cpH x p g R m.length q.2.2)
      (fun q => q.1 + 1 <= k + q.2.1 /\ k <= q.1 /\ 1 <= q.2.1 /\ k + q.2.1 <= m.length /\ q.2.2.length = m.length /\ (∀ j, k + q.2.1 <= j + 1 -> j < m.length -> nth q.2.2 j = nth m j) /\ (q.2.2.take q.1).Pairwise (· < ·) /\ (∀ z, z ∈ q.2.2.take q.1 ↔ z ∈ m.take (k + q.2.1)) /\ ∀ z ∈ q.2.2.take q.1, z <= nth m (k + q.2.1 - 1)) (fun q => m.length - q.2.1) (k, 1, m)
      ⟨Nat.le_refl _, Nat.le_refl _, Nat.le_refl _, by simp only; omega, rfl, fun _ _ _ => rfl, V3 hs hadj, fun z => ?_, fun z hz => ?_⟩ (Weak.mk ?_) ?_
     ·simp only;rw [htk k hk3, List.mem_append, List.mem_singleton, h2']
      constructor
      ·exact .inl
      ·rintro (h3 | h3)
       ·exact h3
       ·rw [h3]; exact List.mem_iff_getElem.2 ⟨k - 1, by simp; omega, by rw [List.getElem_take, Ze hk4]⟩
     ·simp only at hz;obtain ⟨j, hj, rfl⟩ := List.mem_iff_getElem.1 hz;rw [List.length_take] at hj;rw [List.getElem_take, <- Ze (by omega)];exact hs' j _ (by simp only; omega) (by simp only; omega)
     ·simp (disch := omega) only [cpH, Zb, Zx, go_sem, seval]
     ·rintro ⟨i, b, M⟩ ⟨q1, q2, q3, q4, q5, q6, q7, q8, q9⟩;simp only at q1 q2 q3 q4 q5 q6 q7 q8 q9;simp (disch := omega) only [cpH, Zb, Zx, q5, if_true, go_sem, seval];refine cD ?_ ?_ <;> intro h3 <;> simp (disch := omega) only [Sh.out h3, go_sem, seval]
      ·have hb1 : k + b < M.length := by omega
       have hb2 : k + (b - 1) < M.length := by omega
       have f0 : ((b : Int) - 1).toNat = b - 1 := by omega
       have f1 : elt (M.map eI) (k + b) = eI (nth m (k + b)) := by rw [Xi hb1, q6 (k + b) (by omega) (by omega)]
       have f2 : elt (M.map eI) (k + (b - 1)) = eI (nth m (k + b - 1)) := by rw [Xi hb2, show k + (b - 1) = k + b - 1 by omega, q6 (k + b - 1) (by omega) (by omega)]
       have hb3 : k + b < m.length := by omega
       have hb4 : k + (b - 1) < m.length := by omega
       refine Zi mixed (by kernel_rfl) (by kernel_rfl) ?_;simp (disch := omega) only [go_sem, seval];simp (disch := first | omega | (simp only [List.length_cons, List.length_nil, List.length_append, List.length_map, List.length_take, List.length_drop] <;> omega)) only [f0, f1, f2, q5, hb3, hb4, if_true, go_sem, seval];have hz : nth m (k + b - 1) <= nth m (k + b) := hs' _ _ (by omega) hb3
       have hi : i < M.length := by omega
       have hi2 : i < m.length := by omega
       refine cD ?_ ?_ <;> intro h4 <;> simp (disch := omega) only [Sh.out h4, go_sem, seval]
       ·have ZD : (M.map eI).set i (.int .i64 (nth m (k + b))) = (M.set i (nth m (k + b))).map eI := by rw [List.map_set]; rfl
        simp (disch := first | omega | (simp only [List.length_cons, List.length_nil, List.length_append, List.length_map, List.length_take, List.length_drop] <;> omega)) only [f1, q5, hi2, hb3, if_true, go_sem, seval]
        have e9 : (M.set i (nth m (k + b))).take (i + 1) = M.take i ++ [nth m (k + b)] := by
         rw [List.take_succ_eq_append_getElem (by simpa using hi), List.take_set_of_le (Nat.le_refl _), List.getElem_set_self]
        refine ⟨(i + 1, b + 1, M.set i (nth m (k + b))), ⟨by simp only; omega, by simp only; omega, by simp only; omega, by simp only; omega, by simp only [List.length_set]; exact q5, fun j h5 h6 => ?_, ?_, fun z => ?_, fun z hz => ?_⟩, by simp only; omega, Weak.mk (by simp (disch := omega) only [cpH, Zb, Zx, ZD, go_sem, seval])⟩
        ·simp only at h5 ⊢;rw [Ze (by simp; omega), List.getElem_set_ne (by omega), <- Ze (by omega)];exact q6 j (by omega) h6
        ·simp only;rw [e9, List.pairwise_append];refine ⟨q7, by simp, fun a h5 c h6 => ?_⟩;have := q9 a h5;simp at h6;omega
        ·simp only;rw [e9, show k + (b + 1) = k + b + 1 by omega, htk _ hb3, List.mem_append, List.mem_append, q8]
        ·simp only at hz ⊢;rw [e9, List.mem_append, List.mem_singleton] at hz;rw [show k + (b + 1) - 1 = k + b by omega];rcases hz with h5 | h5
         ·have := q9 z h5; omega
         ·omega
       ·have h4' : nth m (k + b) = nth m (k + b - 1) := by simpa using h4
        refine ⟨(i, b + 1, M), ⟨by simp only; omega, q2, by simp only; omega, by simp only; omega, q5, fun j h5 h6 => q6 j (by simp only at h5; omega) h6, q7, fun z => ?_, fun z hz => ?_⟩, by simp only; omega, Weak.mk (by simp (disch := omega) only [cpH, Zb, Zx, go_sem, seval])⟩
        ·simp only;rw [q8, show k + (b + 1) = k + b + 1 by omega, htk _ hb3, List.mem_append, List.mem_singleton, h4']
         constructor
         ·exact .inl
         ·rintro (h5 | h5)
          ·exact h5
          ·rw [h5]; exact List.mem_iff_getElem.2 ⟨k + b - 1, by simp; omega, by rw [List.getElem_take, Ze (by omega)]⟩
        ·simp only at hz ⊢;rw [show k + (b + 1) - 1 = k + b by omega, h4'];exact q9 z hz
      ·have hkb : k + b = m.length := by omega
       rw [hkb, List.take_length] at q8
       have hi : i < M.length := by omega
       obtain ⟨M', hM'⟩ : ∃ M' : List Int, M' = M.take i ++ List.replicate (m.length - i) 0 ++ M.drop (i + (m.length - i)) := ⟨_, rfl⟩
       have hme : List.take i (M.map eI) ++ (List.replicate (m.length - i) (0 : Int)).map eI ++ List.drop (i + (m.length - i)) (M.map eI) = M'.map eI := by rw [hM', List.map_append, List.map_append, List.map_take, List.map_drop]
       have hml : M'.length = m.length := by rw [hM']; simp; omega
       have hmt : M'.take i = M.take i := by
        rw [hM', List.append_assoc, List.take_append_of_le_length (by simp; omega), List.take_take, Nat.min_self]
       simp (disch := first | omega | (simp only [List.length_cons, List.length_nil, List.length_append, List.length_map, List.length_take, List.length_drop] <;> omega)) only [q5, if_true, Zxi, hme, hml, go_sem, seval];exact ⟨.sl 6 0 i m.length, cpH x p g R m.length M', Weak.mk (by simp (disch := omega) only [cpH, Zb, Zx, Nat.sub_zero, go_sem, seval]), M', i, hml, by omega, by rw [hmt]; exact q7, fun z => by rw [hmt]; exact q8 z, rfl, rfl⟩
    ·exact ⟨k + 1, ⟨by omega, by omega, fun j h3 h4 => by
      rcases Nat.eq_or_lt_of_le (show j <= k by omega) with e | e
      ·subst e; simpa using h2
      ·exact hadj j h3 e⟩, by omega, Weak.mk (by simp (disch := omega) only [cpH, Zb, Zx, go_sem, seval])⟩
   ·have hkl : k = m.length := by omega
    subst hkl;exact ⟨.sl 6 0 m.length m.length, cpH x p g R m.length m, Weak.mk (by simp (disch := omega) only [cpH, Zb, Zx, go_sem, seval]), m, m.length, rfl, Nat.le_refl _, V3 hs hadj, by simp, rfl, rfl⟩
set_option maxRecDepth 60000
theorem ZqI {l : List Int} {g : Nat} {m : List Int} (h0 : ∀ u ∈ l, 0 <= u /\ u <= 60) (hg : g < pw 61) (ha : m.Pairwise (· < ·)) (hm : ∀ z, z ∈ m ↔ z ∈ l \/ z ∈ Z6 (g : Int) 63) : m = Zog g l := by
 refine Zow ha (Yw _ _) fun z => ?_;rw [hm, Zog, Xl, Xl]
 constructor
 ·rintro (h | ⟨j, rfl, h1, h2⟩)
  ·have := h0 z h;refine ⟨z.toNat, by omega, by omega, ?_⟩;rw [Nat.testBit_or, XA.2 ⟨z, h, rfl⟩]; rfl
  ·exact ⟨j, rfl, h1, by rw [Nat.testBit_or, h2, Bool.or_true]⟩
 ·rintro ⟨j, rfl, h1, h2⟩;rw [Nat.testBit_or, Bool.or_eq_true, XA] at h2;rcases h2 with ⟨i, h3, h4⟩ | h2
  ·have := h0 i h3
   left
   rw [<- h4, Int.toNat_of_nonneg this.1]; exact h3
  ·exact .inr ⟨j, rfl, h1, h2⟩
structure Rm (x : Inst) (p : Pln) : Prop where
 n : x.orders.length <= 60
 bl : x.before.length <= 1048576
 val : Val x.orders.length x.before
 rl : p.routes.length <= 1048576
 ul : p.unserved.length <= 1000
 b : ∀ r ∈ p.routes, rteB r
theorem V6 (x : Inst) (p : Pln) (set : Int) (h : Rm x p) (hs : I64 set) :
  PT 13 [.p (ZG x), .p (ZaI p), .p (.int .i64 set)] [.p (ZaI (rmF x p set).1), .p (.int .i64 ((rmF x p set).2.1 : Nat)), .p (.int .i64 (rmF x p set).2.2)] := by
 obtain ⟨hn, hbl, hv, hr, hu, hb⟩ := h;have h60 : pw x.orders.length <= pw 60 := Z3 hn;have e60 : pw 60 = 1152921504606846976 := rfl;refine Zc [6] Tryz.func13 rfl Zwr ?_;simp (disch := omega) only [Tryz.f13, go_sem, seval];refine US (Kx x p hn hr (by omega) hb) ?_
 cases hask : Zbn x p with
 | false =>
  have e : rmF x p set = (Zd8, 0, 2) := by rw [rmF, hask]; rfl
  rw [e];simp (disch := omega) only [go_sem, seval];exact we (by simp (disch := omega) only [Zd8, List.map_nil, go_sem, seval])
 | true =>
  have hk : kno x.orders.length p.routes = true := by rw [Zbn, Bool.and_eq_true] at hask; exact hask.1
  have huI : Zxa x.orders.length p.unserved = true := by rw [Zbn, Bool.and_eq_true] at hask; exact hask.2
  rw [hk, if_pos rfl];have ha := YD hk;simp (disch := omega) only [go_sem, seval];refine gF ?_ ?_ <;> intro h1 <;> simp (disch := omega) only [Sh.out h1, go_sem, seval]
  ·have e : rmF x p set = (Zd8, 0, 2) := by
    rw [rmF, Za9]
    have : ¬ 0 <= set := by omega
    simp [this]
   rw [e];exact we (by simp (disch := omega) only [Zd8, List.map_nil, go_sem, seval])
  ·obtain ⟨S, rfl⟩ : ∃ S : Nat, set = S := ⟨set.toNat, by omega⟩
   have hS : S < 9223372036854775808 := by have := hs.2; omega
   have hd : S / pw x.orders.length = 0 ↔ S < pw x.orders.length := Nat.div_eq_zero_iff_lt (Um _)
   have hfd : (S : Int).fdiv (2 ^ min x.orders.length 64) = ((S / pw x.orders.length : Nat) : Int) := by
    have e1 : min x.orders.length 64 = x.orders.length := by omega
    have e2 : (2 : Int) ^ x.orders.length = ((pw x.orders.length : Nat) : Int) := by simp [pw]
    rw [e1, e2, Int.fdiv_eq_ediv_of_nonneg _ (by omega)];exact (Int.natCast_ediv _ _).symm
   rw [hfd];refine cD ?_ ?_ <;> intro h2 <;> simp (disch := omega) only [Sh.out h2, go_sem, seval]
   ·have e : rmF x p (S : Int) = (Zd8, 0, 2) := by
     rw [rmF, Za9]
     have : ¬ (S : Int) < ((pw x.orders.length : Nat) : Int) := by omega
     simp [this]
    rw [e];exact we (by simp (disch := omega) only [Zd8, List.map_nil, go_sem, seval])
   ·have hS2 : S < pw x.orders.length := hd.1 (by omega)
    have e : rmF x p (S : Int) = (rmP p (Z4 x p S), Z4 x p S, 0) := by
     rw [rmF, Za9, hask]
     have q1 : (0 : Int) <= (S : Int) := by omega
     have q2 : (S : Int) < ((pw x.orders.length : Nat) : Int) := by omega
     simp [q1, q2]
    rw [e]
    have eg : Z4 x p (S : Int) = lvS x.orders.length x.before (Xe p.routes) S := by rw [Z4, Int.toNat_natCast]
    rw [eg];have hg := ZjO x.orders.length x.before (Xe p.routes) S;refine (Zbf x (Xe p.routes) S hn hbl hv ha hS).use ?_;simp (disch := omega) only [go_sem, seval]
    generalize lvS x.orders.length x.before (Xe p.routes) S = g at *
    refine Zn (Weak.nilC (o := 4) (j := 0) 4 (by rfl) (by rfl) (by simp)) ?_;refine XQ ?_;refine Zd [10, 16] _ _ _ _ ?_;simp (disch := omega) only [List.set_cons_succ, List.set_cons_zero, List.cons_append, List.nil_append, List.length_cons, List.length_nil, go_sem, seval];have hki := VX.1 hk;refine ZY [10] [4, 6, 11, 12, 41, 42] (fun k : Nat => [(43, .p (.int .i64 k))]) (fun k => [Zb x, Zx p, .cells [.p (.list true []), .p (.list true [])], .cells [.p (.int .i64 (g : Int))], .cells [.sl 5 0 (Xo g (p.routes.take k)).length (Xo g (p.routes.take k)).length, .p (.list true [])], .elems 4 ((Xo g (p.routes.take k)).map YZ)]) (fun k => k <= p.routes.length) (fun k => p.routes.length - k) 0 (by simp) (Weak.mk ?_) ?_
    ·simp (disch := omega) only [Zb, Zx, Xo, List.take_zero, List.map_nil, List.filter_nil, List.length_nil, go_sem, seval]
    ·intro k hk1;have hll : (Xo g (p.routes.take k)).length <= 1048576 := Nat.le_trans Vu (by simp; omega);simp (disch := omega) only [Zb, Zx, go_sem, seval];refine cD ?_ ?_ <;> intro h3 <;> simp (disch := omega) only [Sh.out h3, go_sem, seval]
     ·have hk2 : k < p.routes.length := by omega
      have hlt := Zdh (g := g) hk2;have hbk := hb _ (Zl hk2)
      have hvr : ∀ v ∈ (nth p.routes k).visits, 0 <= v.order /\ v.order <= 62 := fun v hv => by have := hki _ (Zl hk2) v hv; omega
      generalize Xo g (p.routes.take k) = R at *
      refine (Zhx (nth p.routes k).visits _ hbk.1).useF ?_;simp (disch := omega) only [go_sem, seval];refine (Zik x p g R (nth p.routes k) (nth p.routes k).visits hbk.1 hvr).mono ?_;rintro y H' ⟨M, q, d1, d2, d3, rfl, rfl⟩;have hfe : (ZiS g (nth p.routes k)).visits = (nth p.routes k).visits.filter fun v => !goB g v := rfl
      by_cases hq : q = 0 /\ 0 < (nth p.routes k).visits.length
      ·rw [slV, if_pos hq];rw [hq.1, List.take_zero] at d3;rw [hfe, <- d3, if_neg (by simp), List.append_nil] at hlt;simp (disch := omega) only [rmH, Zb, Zx, Zw, go_sem, seval];refine Zd [] _ _ _ _ ?_;simp (disch := omega) only [List.length_nil, go_sem, seval];exact ⟨k + 1, by omega, by omega, Weak.mk (by simp (disch := omega) only [Zb, Zx, hlt, go_sem, seval])⟩
      ·rw [slV, if_neg hq];simp (disch := omega) only [rmH, Zb, Zx, Zw, d1, decide_true, if_true, go_sem, seval]
       have hq2 : q <= M.length := by omega
       have hfz : fzV 7 (M.map eVis) (.sl 7 0 q (nth p.routes k).visits.length) = .p (.list false ((ZiS g (nth p.routes k)).visits.map eVis)) := by
        rw [fzV, if_pos ⟨rfl, by simpa using d1, by omega⟩, hfe, <- d3, List.map_take]; simp
       have hW : (ZiS g (nth p.routes k)).visits.length <= 1048576 := by
        have := hbk.1;rw [hfe];exact Nat.le_trans (List.length_filter_le _ _) this
       refine Zn (Weak.fz (o := 7) (by rfl)) ?_;refine Zd [] _ _ _ _ ?_;simp (disch := omega) only [List.map_cons, List.map_nil, List.set_cons_succ, List.set_cons_zero, hfz, go_sem, seval];refine cD ?_ ?_ <;> intro h4 <;> simp (disch := omega) only [Sh.out h4, go_sem, seval]
       ·rw [if_pos (by omega)] at hlt;refine ⟨k + 1, by omega, by omega, Weak.mk ?_⟩;simp (disch := omega) only [Zb, Zx, hlt, List.map_append, List.map_cons, List.map_nil, List.length_append, List.length_cons, List.length_nil, go_sem, seval]
        rfl
       ·rw [if_neg (by omega), List.append_nil] at hlt;exact ⟨k + 1, by omega, by omega, Weak.mk (by simp (disch := omega) only [Zb, Zx, hlt, go_sem, seval])⟩
     ·have hkl : k = p.routes.length := by omega
      subst hkl;rw [List.take_length] at hll ⊢;obtain ⟨R, hR⟩ : ∃ R, R = Xo g p.routes := ⟨_, rfl⟩;rw [<- hR] at hll ⊢;refine Zd [16] _ _ _ _ ?_;simp (disch := omega) only [Zb, Zx, go_sem, seval];refine Xq [2] 4 mixed (by kernel_rfl) (by kernel_rfl) (by kernel_rfl) (by simp) ?_;simp (disch := omega) only [Zb, Zx, go_sem, seval]
      refine ZX (.sl 6 0 p.unserved.length p.unserved.length) [.elems 1 (p.unserved.map eI)] (by
       simp (disch := omega) only [go_sem, seval];refine (Zcp p.unserved _ (by omega)).useF ?_
       exact ⟨rfl, rfl⟩) ?_
      simp (disch := omega) only [QG, go_sem, seval];have hmg := Wu (g : Int) 63;refine ((YG (g : Int)).frozen (by simp)).use ?_
      have hmi : ∀ z ∈ p.unserved ++ Z6 (g : Int) 63, 0 <= z /\ z <= 60 := fun z hz => by
       rcases List.mem_append.1 hz with h5 | h5
       ·have := List.all_eq_true.1 huI z h5;simp only [Bool.and_eq_true, decide_eq_true_eq] at this;omega
       ·obtain ⟨j, rfl, _, h6⟩ := Xl.1 h5;have := Yc hg h6;omega
      have hlen : (p.unserved ++ Z6 (g : Int) 63).length <= 1063 := by simp; omega
      obtain ⟨L, hL⟩ : ∃ L, L = p.unserved ++ Z6 (g : Int) 63 := ⟨_, rfl⟩
      have hL1 : p.unserved.map eI ++ (Z6 (g : Int) 63).map eI = L.map eI := by rw [hL, List.map_append]
      have hL2 : p.unserved.length + (Z6 (g : Int) 63).length = L.length := by rw [hL, List.length_append]
      rw [<- hL] at hmi hlen;simp (disch := omega) only [hL1, hL2, go_sem, seval];refine (Zir L (by omega) rfl).useH ?_;have hsl : (Zps L).length = L.length := (Zaz L).length_eq;simp (disch := omega) only [List.set_cons_succ, List.set_cons_zero, go_sem, seval];rw [<- hsl];obtain ⟨m, hm⟩ : ∃ m, m = Zps L := ⟨_, rfl⟩
      have hms : m.Pairwise (· <= ·) := by rw [hm]; exact Zi4 L
      have hmm : ∀ z, z ∈ m ↔ z ∈ L := fun z => by rw [hm]; exact (Zaz L).mem_iff
      rw [<- hm] at hsl ⊢;refine (ZeD x p g R m (by omega) hms).mono ?_;rintro y H' ⟨M, k, d1, d2, d3, d4, rfl, rfl⟩
      have hMu : M.take k = Zog g p.unserved := ZqI (g := g) (fun u hu => hmi u (by rw [hL]; exact List.mem_append_left _ hu)) (Nat.lt_of_lt_of_le hg (Z3 (by omega))) d3 fun z => by rw [d4, hmm, hL, List.mem_append]
      simp (disch := omega) only [cpH, Zb, Zx, d1, decide_true, if_true, go_sem, seval]
      have hfz : fzV 6 (M.map eI) (.sl 6 0 k m.length) = .p (.list false ((Zog g p.unserved).map eI)) := by
       rw [fzV, if_pos ⟨rfl, by simpa using d1, by omega⟩, <- hMu, List.map_take]; simp
      have hfz5 : fzV 5 (R.map YZ) (.sl 6 0 k m.length) = .sl 6 0 k m.length := by rw [fzV, if_neg (by simp)]
      refine Zn (Weak.fz (o := 5) (by rfl)) ?_;refine Zn (Weak.fz (o := 6) (by rfl)) ?_;refine Zd [] _ _ _ _ ?_;simp (disch := omega) only [List.map_cons, List.map_nil, List.set_cons_succ, List.set_cons_zero, hfz5, hfz, go_sem, seval];refine Zdt [2] [1] [3] 3 mixed (by kernel_rfl) (by kernel_rfl) (by kernel_rfl) (by kernel_rfl) (by simp) ?_;simp (disch := omega) only [go_sem, seval];refine ⟨fun q hq p' hp => ?_, ?_⟩
      ·simp only [List.mem_cons, List.not_mem_nil, or_false] at hq;subst hq;obtain rfl : 11 = p' := Option.some.inj hp;exact Zed (by decide)
      ·refine ZgJ 2 (fun y H' => y = .junk /\ H' = [Zb x, Zx p, Zx (rmP p g), .cells [.p (.int .i64 (g : Int))], Zx (rmP p g), .dead, .dead]) (by kernel_rfl) (by simp (disch := omega) only [Zb, Zx, rmP, hR, go_sem, seval]) ?_;rintro y H' ⟨rfl, rfl⟩;refine ⟨fun k hk => by simp at hk; subst hk; rfl, ZkJ ?_⟩;simp (disch := omega) only [Zb, Zx, rmP, go_sem, seval];exact we (by simp (disch := omega) only [rmP, hR, go_sem, seval])
def JC (x : Inst) (r : Rte) : Int × Int := if Z2 x r = 0 then J8 (QD x r) else (0, Z2 x r)
theorem Zjf (s : Sco) : 0 <= (J8 s).1 /\ (J8 s).1 <= 36028797018963968 := by
 unfold J8
 split
 ·simp
 ·split
  ·simp
  ·simp only; omega
theorem ZcX (x : Inst) (r : Rte) : 0 <= (JC x r).1 /\ (JC x r).1 <= 36028797018963968 := by
 unfold JC
 split
 ·exact Zjf _
 ·simp
theorem ZfM (x : Inst) (r : Rte) (hx : InstOk x) (hb : rteB r) : PT 107 [.p (ZG x), .p (YZ r)] [.p (.int .i64 (JC x r).1), .p (.int .i64 (JC x r).2)] := by
 have ce := Zdk x r hx hb.1 hb.2;refine Zc [] Tryz.func107 rfl Zo1 ?_;simp (disch := omega) only [Tryz.f107, go_sem, seval];unfold K6 at ce;refine Ku ce ?_;simp (disch := omega) only [go_sem, seval];refine cD ?_ ?_ <;> intro h1 <;> simp (disch := omega) only [Sh.out h1, go_sem, seval]
 ·rw [JC, if_neg h1];exact we
 ·have h0 : Z2 x r = 0 := by omega
  rw [JC, if_pos h0];refine US (Zgw (QD x r) (Zfw (by omega) (Zfj hx hb.1 h0))) ?_;simp (disch := omega) only [go_sem, seval];exact we
def Zg4 (x : Inst) (l : List Rte) : Int := l.foldl (fun a r => a + (JC x r).1) 0
theorem Zak {x : Inst} {l : List Rte} {k : Nat} (h : k < l.length) : Zg4 x (l.take (k + 1)) = Zg4 x (l.take k) + (JC x (nth l k)).1 := by
 rw [List.take_succ_eq_append_getElem h, Zg4, List.foldl_append, Ze h]; rfl
theorem JJ {x : Inst} {l : List Rte} : ∀ k, k <= l.length -> 0 <= Zg4 x (l.take k) /\ Zg4 x (l.take k) <= k * 36028797018963968
 | 0, _ => by simp [Zg4]
 | k + 1, h => by
  have := JJ (x := x) (l := l) k (by omega);have := ZcX x (nth l k);rw [Zak (by omega)];omega
def UX (x : Inst) (l : List Rte) : Int × Int := match l.find? (fun r => decide ((JC x r).2 ≠ 0)) with | some r => (0, (JC x r).2) | none => (Zg4 x l, 0)
theorem Zfo {α : Type} [Inhabited α] {p : α -> Bool} : ∀ {l : List α} {k : Nat}, k < l.length -> (∀ j, j < k -> p (nth l j) = false) -> p (nth l k) = true -> l.find? p = some (nth l k)
 | [], _, h, _, _ => by simp at h
 | a :: l, 0, _, _, h => List.find?_cons_of_pos (show p a = true from h)
 | a :: l, k + 1, hk, h0, h => by
  rw [List.find?_cons_of_neg (by rw [show p a = false from h0 0 (by omega)]; simp)];exact Zfo (l := l) (k := k) (by simpa using hk) (fun j hj => h0 (j + 1) (by omega)) h
theorem Zes {α : Type} [Inhabited α] {p : α -> Bool} {l : List α} (h : ∀ j, j < l.length -> p (nth l j) = false) : l.find? p = none := by
 rw [List.find?_eq_none];intro a ha;obtain ⟨j, hj, rfl⟩ := List.mem_iff_getElem.1 ha;rw [<- Ze hj, h j hj]; simp
theorem ZmB {x : Inst} {l : List Rte} {k : Nat} (hk : k < l.length) (h0 : ∀ j, j < k -> (JC x (nth l j)).2 = 0) (h : ¬ (JC x (nth l k)).2 = 0) : UX x l = (0, (JC x (nth l k)).2) := by
 rw [UX, Zfo hk (fun j hj => by simp [h0 j hj]) (by simpa using h)]
theorem Zf1 {x : Inst} {l : List Rte} (h0 : ∀ j, j < l.length -> (JC x (nth l j)).2 = 0) : UX x l = (Zg4 x l, 0) := by
 rw [UX, Zes (fun j hj => by simp [h0 j hj])]
theorem UD {x : Inst} {l : List Rte} (hl : l.length <= 100) : 0 <= (UX x l).1 /\ (UX x l).1 <= 3602879701896396800 := by
 unfold UX
 split
 ·simp
 ·have := JJ (x := x) (l := l) l.length (Nat.le_refl _);rw [List.take_length] at this;simp only;omega
theorem Zey (x : Inst) (l : List Rte) (c : Bool) (hx : InstOk x) (hl : l.length <= 100) (hb : ∀ r ∈ l, rteB r) : PT 51 [.p (ZG x), .p (.list c (l.map YZ))] [.p (.int .i64 (UX x l).1), .p (.int .i64 (UX x l).2)] := by
 refine Zc [] Tryz.func51 rfl Zxn ?_;simp (disch := omega) only [Tryz.f51, go_sem, seval];refine Zf [2, 11, 12] (fun k : Nat => [(6, .p (.int .i64 (Zg4 x (l.take k)))), (13, .p (.int .i64 k))]) (fun _ => [Zb x]) (fun k => k <= l.length /\ ∀ j, j < k -> (JC x (nth l j)).2 = 0) (fun k => l.length - k) 0 (by simp) (Weak.mk ?_) ?_
 ·simp (disch := omega) only [Zb, Zg4, List.take_zero, List.foldl_nil, go_sem, seval]
 ·rintro k ⟨hk, h0⟩;have hr := JJ (x := x) k hk;simp (disch := omega) only [Zb, go_sem, seval];refine cD ?_ ?_ <;> intro h1 <;> simp (disch := omega) only [Sh.out h1, go_sem, seval]
  ·have hk2 : k < l.length := by omega
   have hp := ZcX x (nth l k);have hs := Zak (x := x) hk2;refine US (ZfM x (nth l k) hx (hb _ (Zl hk2))) ?_;simp (disch := omega) only [go_sem, seval];refine cD ?_ ?_ <;> intro h2 <;> simp (disch := omega) only [Sh.out h2, go_sem, seval]
   ·rw [ZmB hk2 h0 h2];exact we
   ·exact ⟨k + 1, ⟨by omega, Zh.2 ⟨h0, by omega⟩⟩, by omega, Weak.mk (by simp (disch := omega) only [Zb, hs, go_sem, seval])⟩
  ·have hkl : k = l.length := by omega
   subst hkl;rw [Zf1 h0, List.take_length];exact we
noncomputable def Uj (x : Inst) (p : Pln) (o : Int) : Int × Int :=
 if Zbn x p = false \/ o < 0 \/ (x.orders.length : Int) <= o then (0, 2)
 else if (Xe p.routes).testBit o.toNat = false then (0, 7)
 else if ¬ (UX x p.routes).2 = 0 then (0, (UX x p.routes).2)
 else if ¬ (UX x (Xo (Z4 x p (pw o.toNat : Nat)) p.routes)).2 = 0 then (0, (UX x (Xo (Z4 x p (pw o.toNat : Nat)) p.routes)).2)
 else ((UX x p.routes).1 - (UX x (Xo (Z4 x p (pw o.toNat : Nat)) p.routes)).1, 0)
theorem Zjw {g : Nat} {l : List Rte} (hb : ∀ r ∈ l, rteB r) : ∀ r ∈ Xo g l, rteB r := fun r hr => by
 obtain ⟨h3, _⟩ := List.mem_filter.1 hr;obtain ⟨r0, h4, rfl⟩ := List.mem_map.1 h3;have := hb r0 h4;exact ⟨Nat.le_trans (List.length_filter_le _ _) this.1, this.2⟩
theorem Zij {x : Inst} {p : Pln} {o : Int} (hl : p.routes.length <= 100) : -3602879701896396800 <= (Uj x p o).1 /\ (Uj x p o).1 <= 3602879701896396800 := by
 have h1 := UD (x := x) hl;have h2 := UD (x := x) (l := Xo (Z4 x p (pw o.toNat : Nat)) p.routes) (Nat.le_trans Vu hl);unfold Uj
 split
 ·simp
 ·split
  ·simp
  ·split
   ·simp
   ·split
    ·simp
    ·simp only; omega
theorem ZkY {x : Inst} {p : Pln} {o : Nat} (ha : Zbn x p = true) (ho : o < x.orders.length) : rmF x p ((pw o : Nat) : Int) = (rmP p (Z4 x p (pw o : Nat)), Z4 x p (pw o : Nat), 0) := by
 have h1 : pw o < pw x.orders.length := Nat.pow_lt_pow_right (by omega) ho
 have q1 : (0 : Int) <= ((pw o : Nat) : Int) := by omega
 have q2 : ((pw o : Nat) : Int) < ((pw x.orders.length : Nat) : Int) := by omega
 rw [rmF, Za9, ha];simp [q1, q2]
theorem Zf2 (x : Inst) (p : Pln) (o : Int) (hx : InstOk x) (h : Rm x p) (hl : p.routes.length <= 100) (ho : I64 o) :
  PT 16 [.p (ZG x), .p (ZaI p), .p (.int .i64 o)] [.p (.int .i64 (Uj x p o).1), .p (.int .i64 (Uj x p o).2)] := by
 refine Zc [] Tryz.func16 rfl Zwh ?_;simp (disch := omega) only [Tryz.f16, go_sem, seval];refine US (Kx x p h.n (by have := h.rl; omega) (by have := h.ul; omega) h.b) ?_
 cases hask : Zbn x p with
 | false =>
  have e : Uj x p o = (0, 2) := by rw [Uj, if_pos (.inl hask)]
  rw [e];simp (disch := omega) only [go_sem, seval];exact we
 | true =>
  have hk : kno x.orders.length p.routes = true := by rw [Zbn, Bool.and_eq_true] at hask; exact hask.1
  rw [hk, if_pos rfl];simp (disch := omega) only [go_sem, seval];refine gF ?_ ?_ <;> intro h1 <;> simp (disch := omega) only [Sh.out h1, go_sem, seval]
  ·have e : Uj x p o = (0, 2) := by rw [Uj, if_pos (.inr (.inl h1))]
   rw [e];exact we
  ·refine cD ?_ ?_ <;> intro h2 <;> simp (disch := omega) only [Sh.out h2, go_sem, seval]
   ·have e : Uj x p o = (0, 2) := by rw [Uj, if_pos (.inr (.inr h2))]
    rw [e];exact we
   ·have hc : ¬ (Zbn x p = false \/ o < 0 \/ (x.orders.length : Int) <= o) := by rw [hask]; rintro (h5 | h5 | h5) <;> simp_all
    obtain ⟨n, rfl⟩ : ∃ n : Nat, o = n := ⟨o.toNat, by omega⟩;have hn := h.n;refine (Zlx (Xe p.routes : Int) (n : Int)).use ?_;simp (disch := omega) only [go_sem, seval];rw [VL _ _ (by omega)]
    cases hb : (Xe p.routes).testBit n with
    | false =>
     have e : Uj x p (n : Int) = (0, 7) := by rw [Uj, if_neg hc, if_pos (by rw [Int.toNat_natCast]; exact hb)]
     rw [e];simp (disch := omega) only [go_sem, seval];exact we
    | true =>
     have hb' : ¬ (Xe p.routes).testBit (n : Int).toNat = false := by rw [Int.toNat_natCast, hb]; simp
     have hp : pw n <= pw 60 := Z3 (by omega);have h60 : pw 60 = 1152921504606846976 := rfl;have cr := V6 x p ((pw n : Nat) : Int) h ⟨by omega, by omega⟩;rw [ZkY hask (by omega)] at cr;dsimp only at cr
     have hgg : Z4 x p ((pw (n : Int).toNat : Nat) : Int) = Z4 x p ((pw n : Nat) : Int) := by rw [Int.toNat_natCast]
     have sv : Uj x p (n : Int) = if ¬ (UX x p.routes).2 = 0 then (0, (UX x p.routes).2) else if ¬ (UX x (Xo (Z4 x p ((pw n : Nat) : Int)) p.routes)).2 = 0 then (0, (UX x (Xo (Z4 x p ((pw n : Nat) : Int)) p.routes)).2)
       else ((UX x p.routes).1 - (UX x (Xo (Z4 x p ((pw n : Nat) : Int)) p.routes)).1, 0) := by rw [Uj, if_neg hc, if_neg hb', hgg]
     rw [sv];have hrl := Vu (g := Z4 x p ((pw n : Nat) : Int)) (l := p.routes);have hrb := Zjw (g := Z4 x p ((pw n : Nat) : Int)) h.b
     generalize Z4 x p ((pw n : Nat) : Int) = g at *
     have t1 := UD (x := x) hl;have t2 := UD (x := x) (l := Xo g p.routes) (by omega);simp (disch := omega) only [go_sem, seval];refine Xq [9, 10] 12 mixed (by kernel_rfl) (by kernel_rfl) (by kernel_rfl) (by simp) ?_;simp (disch := omega) only [go_sem, seval];refine Jh cr ?_;simp (disch := omega) only [go_sem, seval];refine ZX _ _ (by simp (disch := omega) only [go_sem, seval]; exact ⟨rfl, rfl⟩) ?_;simp (disch := omega) only [go_sem, seval];refine ZX _ _ (by simp (disch := omega) only [go_sem, seval]; exact ⟨rfl, rfl⟩) ?_;simp (disch := omega) only [QG, rmP, go_sem, seval]
     refine US (Zey x p.routes _ hx hl h.b) ?_;simp (disch := omega) only [go_sem, seval];refine cD ?_ ?_ <;> intro h5 <;> simp (disch := omega) only [Sh.out h5, go_sem, seval]
     ·exact we
     ·refine US (Zey x (Xo g p.routes) _ hx (by omega) hrb) ?_;simp (disch := omega) only [go_sem, seval];refine cD ?_ ?_ <;> intro h6 <;> simp (disch := omega) only [Sh.out h6, go_sem, seval]
      ·exact we (by simp (disch := omega) only [if_neg h5, go_sem, seval])
      ·exact we (by simp (disch := omega) only [if_neg h5, go_sem, seval])
theorem Zf7 {S i : Nat} (h : S.testBit i = false) : S ||| pw i = S + pw i := Nat.eq_of_testBit_eq fun j => by rw [ZcE h, Nat.testBit_or, Z5]
theorem Zgi {l : List Vis} {k : Nat} (h : k < l.length) : XJ (l.take (k + 1)) = XJ (l.take k) ||| pw (nth l k).order.toNat := VD h
def Zd4 (x : Inst) (i : Nat) : List Int := (X5 x.orders i).map fun v => (XL x v).place
theorem Zb4 (x : Inst) (i : Nat) : (Zd4 x i).length <= 2 := by rw [Zd4, List.length_map]; exact UK _ _
theorem ZmM {x : Inst} {i : Nat} {v : Vis} (hi : i < x.orders.length) (h : v ∈ X5 x.orders i) : inB x v = true /\ 0 <= (XL x v).place := by
 have ho := ZdU h;refine ⟨by simp [inB, ho]; omega, ?_⟩;unfold X5 at h;rcases List.mem_append.1 h with h | h
 ·split at h
  ·simp at h; subst h; simpa [XL] using by assumption
  ·simp at h
 ·split at h
  ·simp at h; subst h; simpa [XL] using by assumption
  ·simp at h
theorem Q4 (x : Inst) (i : Nat) (hi : i < x.orders.length) (ho : x.orders.length <= 1048576) :
  ACalls Tryz.prog 166 [.p (ZG x), .p (.int .i64 (i : Int))] [] fun y H' => y = .sl 0 0 (Zd4 x i).length (Zd4 x i).length /\ H' = [.elems 1 ((Zd4 x i).map eI)] := by
 refine Yo (fn := Tryz.f166) (by simp) Tryz.func166 rfl ZoP ?_;simp (disch := omega) only [Tryz.f166, go_sem, seval];have hvl := UK x.orders i;have hv := fun v (h : v ∈ X5 x.orders i) => ZmM hi h;refine (visits_c x.orders x.orders_c i hi ho).use ?_;simp (disch := omega) only [go_sem, seval];obtain ⟨V, hV⟩ : ∃ V, V = X5 x.orders i := ⟨_, rfl⟩
 have hP : Zd4 x i = V.map fun v => (XL x v).place := by rw [hV]; rfl
 rw [hP];rw [<- hV] at hvl hv ⊢;refine Zf [2, 13, 14] (fun k : Nat => [(5, .sl 1 0 k k), (15, .p (.int .i64 k))]) (fun k => [Zb x, .elems 1 (((V.take k).map fun v => (XL x v).place).map eI)]) (fun k => k <= V.length) (fun k => V.length - k) 0 (by simp) (Weak.ofNil 5 1 (by simp (disch := omega) only [go_sem, seval]) (by simp) (Weak.mk ?_)) ?_
 ·simp (disch := omega) only [Zb, List.take_zero, List.map_nil, go_sem, seval]
 ·intro k hk;simp (disch := omega) only [Zb, go_sem, seval];refine cD ?_ ?_ <;> intro h1 <;> simp (disch := omega) only [Sh.out h1, go_sem, seval]
  ·have hk2 : k < V.length := by omega
   have hvk := hv _ (Zl hk2);refine US (Zfe x (nth V k) ho hvk.1 hvk.2) ?_;simp (disch := omega) only [go_sem, seval];rw [if_pos ⟨by rw [List.length_take]; omega, by omega, by omega⟩];simp (disch := omega) only [go_sem, seval]
   have ht : (V.take (k + 1)).map (fun v => (XL x v).place) = (V.take k).map (fun v => (XL x v).place) ++ [(XL x (nth V k)).place] := by
    rw [List.take_succ_eq_append_getElem hk2, List.map_append, Ze hk2]; rfl
   exact ⟨k + 1, by omega, by omega, Weak.mk (by simp (disch := omega) only [Zb, ht, List.map_append, List.map_cons, List.map_nil, go_sem, seval])⟩
  ·have hkl : k = V.length := by omega
   subst hkl;rw [List.take_length];exact ⟨1, by simp (disch := omega) only [go_sem, seval]⟩
def Zyf (P Q : List Int) (a : Arc) : Bool := (P.any (fun w => decide (a.src = w)) && Q.any fun w => decide (a.dst = w)) || (Q.any (fun w => decide (a.src = w)) && P.any fun w => decide (a.dst = w))
def WM (P Q : List Int) (l : List Arc) : Int := l.foldl (fun m a => if Zyf P Q a = true then min m a.miles else m) 10001
theorem Zba {P Q : List Int} {l : List Arc} {k : Nat} (h : k < l.length) : WM P Q (l.take (k + 1)) = if Zyf P Q (nth l k) = true then min (WM P Q (l.take k)) (nth l k).miles else WM P Q (l.take k) := by
 rw [List.take_succ_eq_append_getElem h, WM, List.foldl_append, Ze h]; rfl
def Znw (x : Inst) (i j : Nat) : Int := if (Zd4 x i).any (fun a => (Zd4 x j).any fun b => decide (a = b)) = true then 0 else WM (Zd4 x i) (Zd4 x j) x.net.arcs
theorem ZaL (x : Inst) (Q : List Int) (a : Int) (hQ : Q.length <= 1048576) : ACalls Tryz.prog 167 [.p (eI a), .ptr 1 0] [Zb x, .cells [.p (.list false (Q.map eI))]] fun y H' => y = .p (.bool (Q.any fun b => decide (a = b))) /\ H' = [Zb x, .cells [.p (.list false (Q.map eI))]] := by
 refine Zc [] Tryz.func167 rfl ZpZ ?_;simp (disch := omega) only [Tryz.f167, Zb, go_sem, seval];refine (Yf Q false a hQ).use ?_;simp (disch := omega) only [go_sem, seval];exact we (by simp (disch := omega) only [Zb, go_sem, seval])
theorem Zdf (x : Inst) (i j : Nat) (hi : i < x.orders.length) (hj : j < x.orders.length) (ho : x.orders.length <= 1048576) (ha : x.net.arcs.length <= 1048576) :
  PC 114 [.p (ZG x), .p (.int .i64 (i : Int)), .p (.int .i64 (j : Int))] (.int .i64 (Znw x i j)) := by
 have hPl := Zb4 x i;have hQl := Zb4 x j;refine Zc [] Tryz.func114 rfl Zs6 ?_;simp (disch := omega) only [Tryz.f114, go_sem, seval];refine Xq [6] 7 mixed (by kernel_rfl) (by kernel_rfl) (by kernel_rfl) (by simp) ?_;simp (disch := omega) only [go_sem, seval];refine Zm ((Q4 x i hi ho).frozen (by simp)) ?_;simp (disch := omega) only [go_sem, seval];refine Zm ((Q4 x j hj ho).frozen (by simp)) ?_;simp (disch := omega) only [go_sem, seval];refine ZX _ _ (by simp (disch := omega) only [go_sem, seval]; exact ⟨rfl, rfl⟩) ?_;unfold Znw
 generalize Zd4 x i = P at *
 generalize Zd4 x j = Q at *
 simp (disch := omega) only [QG, go_sem, seval];refine (Wg P false 167 [.ptr 1 0] [Zb x, .cells [.p (.list false (Q.map eI))]] (fun a => Q.any fun b => decide (a = b)) (by omega) (by simp (disch := omega) only [Zb, go_sem, seval]) (by simp (disch := omega) only [go_sem, seval]) fun a _ => ZaL x Q a (by omega)).useH ?_;simp (disch := omega) only [Zb, go_sem, seval];refine cD ?_ ?_ <;> intro h1 <;> simp (disch := omega) only [Sh.out h1, go_sem, seval]
 ·exact we
 ·refine Zf [7, 8, 25, 26] (fun k : Nat => [(9, .p (.int .i64 (WM P Q (x.net.arcs.take k)))), (27, .p (.int .i64 k))]) (fun _ => [Zb x, .cells [.p (.list false (Q.map eI))]]) (fun k => k <= x.net.arcs.length) (fun k => x.net.arcs.length - k) 0 (by simp) (Weak.mk ?_) ?_
  ·simp (disch := omega) only [Zb, WM, List.take_zero, List.foldl_nil, go_sem, seval]
  ·intro k hk;simp (disch := omega) only [Zb, go_sem, seval];refine cD ?_ ?_ <;> intro h2 <;> simp (disch := omega) only [Sh.out h2, go_sem, seval]
   ·have hk2 : k < x.net.arcs.length := by omega
    have hs := Zba (P := P) (Q := Q) hk2;have c1 := Yf P false (nth x.net.arcs k).src (by omega);have c2 := Yf Q false (nth x.net.arcs k).dst (by omega);have c3 := Yf Q false (nth x.net.arcs k).src (by omega);have c4 := Yf P false (nth x.net.arcs k).dst (by omega);rw [Zyf] at hs
    generalize P.any (fun w => decide ((nth x.net.arcs k).src = w)) = b1 at *
    generalize Q.any (fun w => decide ((nth x.net.arcs k).dst = w)) = b2 at *
    generalize Q.any (fun w => decide ((nth x.net.arcs k).src = w)) = b3 at *
    generalize P.any (fun w => decide ((nth x.net.arcs k).dst = w)) = b4 at *
    have hmin : J9 true [.p (.int .i64 (WM P Q (x.net.arcs.take k))), .p (.int .i64 (nth x.net.arcs k).miles)] = some (.int .i64 (min (WM P Q (x.net.arcs.take k)) (nth x.net.arcs k).miles)) := by
     by_cases h : WM P Q (x.net.arcs.take k) <= (nth x.net.arcs k).miles
     ·rw [Zgt h, Int.min_eq_left h]
     ·rw [Ze1 (by omega), Int.min_eq_right (by omega)]
    refine (c1).use ?_;simp (disch := omega) only [go_sem, seval]
    cases b1 with
    | true =>
     simp (disch := omega) only [go_sem, seval];refine (c2).use ?_;simp (disch := omega) only [go_sem, seval];refine (c3).use ?_;simp (disch := omega) only [go_sem, seval]
     cases b3 with
     | true =>
      simp (disch := omega) only [go_sem, seval];refine (c4).use ?_;simp (disch := omega) only [go_sem, seval]
      cases b2 with
      | true =>
       simp (disch := omega) only [hmin, go_sem, seval];simp only [Bool.true_and, Bool.false_and, Bool.or_true, Bool.true_or, Bool.or_false, Bool.false_or, if_true, Bool.false_eq_true, if_false] at hs;exact ⟨k + 1, by omega, by omega, Weak.mk (by simp (disch := omega) only [Zb, hs, go_sem, seval])⟩
      | false =>
       simp (disch := omega) only [go_sem, seval]
       cases b4 with
       | true =>
        simp (disch := omega) only [hmin, go_sem, seval];simp only [Bool.true_and, Bool.false_and, Bool.or_true, Bool.true_or, Bool.or_false, Bool.false_or, if_true, Bool.false_eq_true, if_false] at hs;exact ⟨k + 1, by omega, by omega, Weak.mk (by simp (disch := omega) only [Zb, hs, go_sem, seval])⟩
       | false =>
        simp (disch := omega) only [hmin, go_sem, seval];simp only [Bool.true_and, Bool.false_and, Bool.or_true, Bool.true_or, Bool.or_false, Bool.false_or, if_true, Bool.false_eq_true, if_false] at hs;exact ⟨k + 1, by omega, by omega, Weak.mk (by simp (disch := omega) only [Zb, hs, go_sem, seval])⟩
     | false =>
      simp (disch := omega) only [go_sem, seval]
      cases b2 with
      | true =>
       simp (disch := omega) only [hmin, go_sem, seval];simp only [Bool.true_and, Bool.false_and, Bool.or_true, Bool.true_or, Bool.or_false, Bool.false_or, if_true, Bool.false_eq_true, if_false] at hs;exact ⟨k + 1, by omega, by omega, Weak.mk (by simp (disch := omega) only [Zb, hs, go_sem, seval])⟩
      | false =>
       simp (disch := omega) only [hmin, go_sem, seval];simp only [Bool.true_and, Bool.false_and, Bool.or_true, Bool.true_or, Bool.or_false, Bool.false_or, if_true, Bool.false_eq_true, if_false] at hs;exact ⟨k + 1, by omega, by omega, Weak.mk (by simp (disch := omega) only [Zb, hs, go_sem, seval])⟩
    | false =>
     simp (disch := omega) only [go_sem, seval];refine (c3).use ?_;simp (disch := omega) only [go_sem, seval]
     cases b3 with
     | true =>
      simp (disch := omega) only [go_sem, seval];refine (c4).use ?_;simp (disch := omega) only [go_sem, seval]
      cases b4 with
      | true =>
       simp (disch := omega) only [hmin, go_sem, seval];simp only [Bool.true_and, Bool.false_and, Bool.or_true, Bool.true_or, Bool.or_false, Bool.false_or, if_true, Bool.false_eq_true, if_false] at hs;exact ⟨k + 1, by omega, by omega, Weak.mk (by simp (disch := omega) only [Zb, hs, go_sem, seval])⟩
      | false =>
       simp (disch := omega) only [hmin, go_sem, seval];simp only [Bool.true_and, Bool.false_and, Bool.or_true, Bool.true_or, Bool.or_false, Bool.false_or, if_true, Bool.false_eq_true, if_false] at hs;exact ⟨k + 1, by omega, by omega, Weak.mk (by simp (disch := omega) only [Zb, hs, go_sem, seval])⟩
     | false =>
      simp (disch := omega) only [go_sem, seval];simp only [Bool.true_and, Bool.false_and, Bool.or_true, Bool.true_or, Bool.or_false, Bool.false_or, if_true, Bool.false_eq_true, if_false] at hs;exact ⟨k + 1, by omega, by omega, Weak.mk (by simp (disch := omega) only [Zb, hs, go_sem, seval])⟩
   ·have hkl : k = x.net.arcs.length := by omega
    subst hkl;rw [List.take_length];exact we (by simp (disch := omega) only [h1, Bool.false_eq_true, if_false, go_sem, seval])
def VY (a b : Nat) : Nat := a ^^^ (a &&& b)
theorem Wz (a b j : Nat) : (VY a b).testBit j = (a.testBit j && !b.testBit j) := by
 rw [VY, Nat.testBit_xor, Nat.testBit_and]; cases a.testBit j <;> cases b.testBit j <;> rfl
theorem UR {a b n : Nat} (h : a < pw n) : VY a b < pw n := Zh2 fun j hj => by
 rw [Wz, Bool.and_eq_true] at hj; exact Yc h hj.1
theorem ZwX {a b : Nat} (ha : a < 9223372036854775808) (hb : b < 9223372036854775808) : IntKind.i64.wrap ((BitVec.ofInt 64 (a : Int) &&& ~~~(BitVec.ofInt 64 (b : Int))).toNat : Int) = ((VY a b : Nat) : Int) := by
 have e : (BitVec.ofInt 64 (a : Int) &&& ~~~(BitVec.ofInt 64 (b : Int))).toNat = VY a b := by
  apply Nat.eq_of_testBit_eq;intro j;rw [BitVec.testBit_toNat, BitVec.getLsbD_and, BitVec.getLsbD_not, BitVec.ofInt_natCast, BitVec.ofInt_natCast, BitVec.getLsbD_ofNat, BitVec.getLsbD_ofNat, Wz]
  by_cases hj : j < 64
  ·simp [hj]
  ·have h1 : a.testBit j = false := by
    have : a < 2 ^ j := Nat.lt_of_lt_of_le ha (Nat.le_trans (by decide : 9223372036854775808 <= 2 ^ 63) (Nat.pow_le_pow_right (by omega) (by omega)));exact Nat.testBit_lt_two_pow this
   simp [hj, h1]
 have h2 : VY a b < pw 63 := UR (by simpa [pw] using ha);have h3 : pw 63 = 9223372036854775808 := rfl;rw [e]
 generalize VY a b = d at *
 exact IntWalk.i64_in _ (by omega)
@[go_sem high] theorem Zot {P : Program} {t : TypeId} {a b : Nat} (ha : a < 9223372036854775808) (hb : b < 9223372036854775808) : Yb P .andNot t (.p (.int .i64 (a : Int))) (.p (.int .i64 (b : Int))) = some (.int .i64 ((VY a b : Nat) : Int)) := by
 rw [Za5]; exact congrArg (fun q => some (PV.int .i64 q)) (ZwX ha hb)
theorem Zcb : Zns Tryz.prog 143 = some (.int .i64, some (.int .i64 0)) := by kernel_rfl
def ZcB : Nat -> Nat -> Nat -> Int -> Nat × Int
 | 0, _, s, st => (s, st)
 | n + 1, all, s, st => if VY all s = 0 then (s, st) else ZcB n all (s ||| pw (Kk st (VY all s)).toNat) (Wf st)
theorem ZiW (all : Nat) (st : Int) (n : Nat) (ha : all < pw 61) (hn : n <= 1048576) : PT 55 [.p (.int .i64 (all : Int)), .p (.int .i64 st), .p (.int .i64 (n : Int))] [.p (.int .i64 ((ZcB n all 0 st).1 : Nat)), .p (.int .i64 (ZcB n all 0 st).2)] := by
 have e61 : pw 61 = 2305843009213693952 := rfl;obtain ⟨R, hR⟩ : ∃ R, R = ZcB n all 0 st := ⟨_, rfl⟩;rw [<- hR];refine Zc [] Tryz.func55 rfl ZwR ?_;simp (disch := omega) only [Tryz.f55, go_sem, seval];refine Zf [0, 10] (fun q : Nat × Nat × Int => [(1, .p (.int .i64 q.2.2)), (8, .p (.int .i64 (q.2.1 : Int))), (11, .p (.int .i64 (q.1 : Int)))]) (fun _ => []) (fun q => q.1 <= n /\ q.2.1 < pw 61 /\ R = ZcB (n - q.1) all q.2.1 q.2.2) (fun q => n - q.1) (0, 0, st) ⟨by simp, by simp [e61], by simpa using hR⟩ (Weak.mk ?_) ?_
 ·simp (disch := omega) only [go_sem, seval]
 ·rintro ⟨k, s, t⟩ ⟨h1, h2, h3⟩;simp only at h1 h2 h3;have hdl := UR (b := s) ha;simp (disch := omega) only [go_sem, seval];refine cD ?_ ?_ <;> intro h4 <;> simp (disch := omega) only [Sh.out h4, go_sem, seval]
  ·obtain ⟨m, hm⟩ : ∃ m, n - k = m + 1 := ⟨n - k - 1, by omega⟩;rw [hm, ZcB] at h3;refine cD ?_ ?_ <;> intro h5 <;> simp (disch := omega) only [Sh.out h5, go_sem, seval]
   ·rw [if_pos (by omega)] at h3;rw [h3];exact we
   ·rw [if_neg (by omega)] at h3;obtain ⟨j, hj, _, hj2⟩ := VH (s := t) (S := VY all s) (by omega) (Nat.lt_of_lt_of_le hdl (Z3 (by omega)));have hj3 := Yc hdl hj2;have hp : pw j <= pw 60 := Z3 (by omega);have e60 : pw 60 = 1152921504606846976 := rfl;refine US (ZcT t (VY all s) (by omega) (by omega)) ?_;rw [hj] at h3 ⊢;rw [Int.toNat_natCast] at h3;simp (disch := omega) only [go_sem, seval];refine ⟨(k + 1, s ||| pw j, Wf t), ⟨by simp only; omega, Nat.or_lt_two_pow h2 (Nat.lt_of_le_of_lt hp (by omega)), by simp only; rw [h3]; congr 1; omega⟩, by simp only; omega, wk⟩
  ·have hk : n - k = 0 := by omega
   rw [hk, ZcB] at h3;rw [h3];exact we
theorem Zmf (x : Inst) (f i : Nat) (hf : f < x.orders.length) (hi : i < x.orders.length) (ho : x.orders.length <= 1048576) (ha : x.net.arcs.length <= 1048576) :
  ACalls Tryz.prog 113 [.p (eI (i : Int)), .ptr 0 0, .ptr 1 0] [Zb x, .cells [.p (.int .i64 (f : Int))]] fun y H' => y = .p (eI (Znw x f i)) /\ H' = [Zb x, .cells [.p (.int .i64 (f : Int))]] := by
 refine Zc [] Tryz.func113 rfl Zrr ?_;simp (disch := omega) only [Tryz.f113, Zb, go_sem, seval];refine (Zdf x f i hf hi ho ha).use ?_;simp (disch := omega) only [go_sem, seval];exact we (by simp (disch := omega) only [Zb, go_sem, seval])
def Zbj (x : Inst) (all : Nat) (st : Int) (n : Nat) : Nat :=
 pw (Kk st all).toNat ||| JQ (fun _ => false) (fun i => Znw x (Kk st all).toNat i.toNat) (Z6 (VY all (pw (Kk st all).toNat) : Int) 63) (n - 1)
theorem Zqs (x : Inst) (all : Nat) (st : Int) (n : Nat) (hx : x.orders.length <= 19) (h0 : 0 < all) (ha : all < pw x.orders.length) (hn : 1 <= n) (hn2 : n <= 1048576) (har : x.net.arcs.length <= 1048576) :
  PT 57 [.p (ZG x), .p (.int .i64 (all : Int)), .p (.int .i64 st), .p (.int .i64 (n : Int))] [.p (.int .i64 (Zbj x all st n : Nat)), .p (.int .i64 (Wf st))] := by
 have h19 : pw x.orders.length <= pw 19 := Z3 hx;have e19 : pw 19 = 524288 := rfl;obtain ⟨f, hf, _, hf2⟩ := VH (s := st) (S := all) h0 (Nat.lt_of_lt_of_le ha (Z3 (by omega)));have hf3 := Yc ha hf2;have hp : pw f <= pw 19 := Z3 (by omega);have hdl := UR (b := pw f) ha;refine Zc [] Tryz.func57 rfl Zxv ?_;simp (disch := omega) only [Tryz.f57, go_sem, seval];refine US (ZcT st all h0 (by omega)) ?_;unfold Zbj;rw [hf, Int.toNat_natCast];simp (disch := omega) only [go_sem, seval];refine ((YG (VY all (pw f) : Int)).frozen (by simp)).use ?_
 have hin : ∀ i ∈ Z6 (VY all (pw f) : Int) 63, 0 <= i /\ i < x.orders.length := fun i hi => by
  obtain ⟨j, rfl, _, h3⟩ := Xl.1 hi;have := Yc hdl h3;omega
 have hasc := Yw (VY all (pw f) : Int) 63
 have hlen : (Z6 (VY all (pw f) : Int) 63).length <= 19 := by
  have : Z6 (VY all (pw f) : Int) 63 ⊆ (List.range 19).map (fun i : Nat => (i : Int)) := fun i hi => by
   have := hin i hi;exact List.mem_map.2 ⟨i.toNat, by simp; omega, by simp; omega⟩
  have h2 := (Wo hasc).length_le_of_subset this;simpa using h2
 have htl : JQ (fun _ => false) (fun i => Znw x f i.toNat) (Z6 (VY all (pw f) : Int) 63) (n - 1) < pw 19 := YU fun i hi => by
  have := hin i (X9.1 (List.mem_of_mem_take hi));omega
 generalize Z6 (VY all (pw f) : Int) 63 = l at *
 have w : Two (Zb x) (.cells [.p (.int .i64 (f : Int))]) [.ptr 0 0, .ptr 1 0] := ⟨fun H n h => by simp [Zb, wkO, wkF, wkV, refB], fun H n h => by simp [wkO, wkF, wkV, refB], fun n h => by simp [refBs, refB]; omega, by simp [refH, Zb, refBs, refB]⟩
 have ct := Zgx (g := 113) (v := fun i => Znw x f i.toNat) w l false (n - 1) hlen hasc (fun i hi => by have := hin i hi; omega) fun i hi => by
  have := hin i hi;obtain ⟨k, rfl⟩ : ∃ k : Nat, i = k := ⟨i.toNat, by omega⟩;exact Zmf x f k hf3 (by omega) (by omega) har
 rw [show ((n - 1 : Nat) : Int) = (n : Int) - 1 by omega] at ct;simp (disch := omega) only [go_sem, seval];refine Zi mixed (by kernel_rfl) (by kernel_rfl) ?_;simp (disch := omega) only [go_sem, seval];refine KT ct ?_;simp (disch := omega) only [go_sem, seval];exact we
theorem Zk3 (es : List (Int × Int)) (i : Int) (v : Int) (hv : QA es i = v) (hr : -3602879701896396800 <= v /\ v <= 3602879701896396800) : ACalls Tryz.prog 111 [.p (eI i), .ptr 1 0] [.map (es.map eII), .cells [.mp 0]] fun y H' => y = .p (eI (-v)) /\ H' = [.map (es.map eII), .cells [.mp 0]] := by
 refine Zc [] Tryz.func111 rfl Zth ?_;simp (disch := omega) only [Tryz.f111, go_sem, seval];refine Jr Zcb rfl ?_;rw [hv];simp (disch := omega) only [go_sem, seval];exact we (by simp (disch := omega) only [Int.zero_sub, go_sem, seval])
theorem ZlN (a b : AM.Obj) (i : Int) (w : Two a b []) : ACalls Tryz.prog 112 [.p (eI i)] [a, b] fun y H' => y = .p (eI 0) /\ H' = [a, b] := by
 obtain ⟨wa, wb, wc, wf⟩ := w;refine Zc [] Tryz.func112 rfl Zra ?_;simp (disch := omega) only [Tryz.f112, go_sem, seval];exact we (by simp (disch := omega) only [wa, wb, go_sem, seval])
noncomputable def VM (x : Inst) (p : Pln) (i : Int) : Bool := decide (¬ (Uj x p i).2 = 0)
noncomputable def Zbv (x : Inst) (p : Pln) (all n : Nat) : Nat := JQ (VM x p) (fun i => -(Uj x p i).1) (Z6 (all : Int) 63) n
theorem ZiU {x : Inst} {p : Pln} {o : Int} (h : ¬ (Uj x p o).2 = 0) : (Uj x p o).1 = 0 := by
 unfold Uj at h ⊢
 split
 ·rfl
 ·split
  ·rfl
  ·split
   ·rfl
   ·split
    ·rfl
    ·rename_i c1 c2 c3 c4;rw [if_neg c1, if_neg c2, if_neg c3, if_neg c4] at h;exact absurd rfl h
theorem Jl {S n : Nat} (h : S < pw n) (hn : n <= 19) : (Z6 (S : Int) 63).length <= 19 /\ ∀ i ∈ Z6 (S : Int) 63, 0 <= i /\ i < (n : Int) := by
 have hin : ∀ i ∈ Z6 (S : Int) 63, 0 <= i /\ i < (n : Int) := fun i hi => by
  obtain ⟨j, rfl, _, h3⟩ := Xl.1 hi;have := Yc h h3;omega
 refine ⟨?_, hin⟩
 have : Z6 (S : Int) 63 ⊆ (List.range 19).map (fun i : Nat => (i : Int)) := fun i hi => by
  have := hin i hi;exact List.mem_map.2 ⟨i.toNat, by simp; omega, by simp; omega⟩
 have h2 := (Wo (Yw _ _)).length_le_of_subset this;simpa using h2
theorem Zp5 (x : Inst) (p : Pln) (all n : Nat) (hx : InstOk x) (hR : Rm x p) (hx19 : x.orders.length <= 19) (hl : p.routes.length <= 100) (ha : all < pw x.orders.length) (hn : n <= 1048576) :
  PC 56 [.p (ZG x), .p (ZaI p), .p (.int .i64 (all : Int)), .p (.int .i64 (n : Int))] (.int .i64 (Zbv x p all n : Nat)) := by
 obtain ⟨hml, hmi⟩ := Jl ha hx19;have hasc := Yw (all : Int) 63
 rw [Zbv, Zdq hasc fun i _ h => by
  simp only [VM, decide_eq_true_eq] at h
  rw [ZiU h]; rfl]
 refine Zc [12] Tryz.func56 rfl ZxG ?_;simp (disch := omega) only [Tryz.f56, go_sem, seval];refine ((YG (all : Int)).frozen (by simp)).use ?_;simp (disch := omega) only [go_sem, seval]
 generalize Z6 (all : Int) 63 = l at *
 refine ZY [12] [3, 4, 5, 11, 19, 20] (fun q : Nat × List (Int × Int) => [(9, .sl 4 0 ((l.take q.1).filter fun i => !VM x p i).length ((l.take q.1).filter fun i => !VM x p i).length), (10, .sl 5 0 ((l.take q.1).filter (VM x p)).length ((l.take q.1).filter (VM x p)).length), (21, .p (.int .i64 (q.1 : Int)))])
  (fun q => [Zb x, Zx p, .map (q.2.map eII), .cells [.mp 2], .elems 1 (((l.take q.1).filter fun i => !VM x p i).map eI), .elems 1 (((l.take q.1).filter (VM x p)).map eI)])
  (fun q => q.1 <= l.length /\ ∀ i ∈ (l.take q.1).filter (fun i => !VM x p i), QA q.2 i = (Uj x p i).1) (fun q => l.length - q.1) (0, []) ⟨by simp, by simp⟩ (Weak.ofNil 9 1 (by simp (disch := omega) only [go_sem, seval]) (by simp) (Weak.ofNil 10 1 (by simp (disch := omega) only [go_sem, seval]) (by simp) (Weak.mk ?_))) ?_
 ·simp (disch := omega) only [Zb, Zx, List.take_zero, List.filter_nil, List.map_nil, List.length_nil, go_sem, seval]
 ·rintro ⟨k, es⟩ ⟨h1, h2⟩;simp only at h1 h2;have hk1 := List.length_filter_le (fun i => !VM x p i) (l.take k);have hk2 := List.length_filter_le (VM x p) (l.take k);rw [List.length_take] at hk1 hk2;simp (disch := omega) only [Zb, Zx, go_sem, seval];refine cD ?_ ?_ <;> intro h3 <;> simp (disch := omega) only [Sh.out h3, go_sem, seval]
  ·have hk : k < l.length := by omega
   have hmk := hmi _ (Zl hk)
   have ht : l.take (k + 1) = l.take k ++ [nth l k] := by rw [List.take_succ_eq_append_getElem hk, Ze hk]
   refine US (Zf2 x p (nth l k) hx hR hl ⟨by omega, by omega⟩) ?_;simp (disch := omega) only [go_sem, seval];refine cD ?_ ?_ <;> intro h4 <;> simp (disch := omega) only [Sh.out h4, go_sem, seval]
   ·have hu : VM x p (nth l k) = true := by simpa [VM] using h4
    have e1 : (l.take (k + 1)).filter (fun i => !VM x p i) = (l.take k).filter fun i => !VM x p i := by rw [ht, List.filter_append]; simp [hu]
    have e2 : (l.take (k + 1)).filter (VM x p) = (l.take k).filter (VM x p) ++ [nth l k] := by rw [ht, List.filter_append]; simp [hu]
    refine ⟨(k + 1, es), ⟨by simp only; omega, by simp only [e1]; exact h2⟩, by simp only; omega, Weak.mk ?_⟩;simp (disch := omega) only [Zb, Zx, e1, e2, List.map_append, List.map_cons, List.map_nil, List.length_append, List.length_cons, List.length_nil, go_sem, seval]
   ·have hu : VM x p (nth l k) = false := by simpa [VM] using h4
    have e1 : (l.take (k + 1)).filter (fun i => !VM x p i) = (l.take k).filter (fun i => !VM x p i) ++ [nth l k] := by rw [ht, List.filter_append]; simp [hu]
    have e2 : (l.take (k + 1)).filter (VM x p) = (l.take k).filter (VM x p) := by rw [ht, List.filter_append]; simp [hu]
    refine ZbP Zcb rfl fun m' hm' => ?_;simp (disch := omega) only [List.set_cons_succ, List.set_cons_zero, go_sem, seval];refine ⟨(k + 1, m'), ⟨by simp only; omega, fun i hi => ?_⟩, by simp only; omega, Weak.mk ?_⟩
    ·simp only at hi ⊢;rw [hm']
     split
     ·rename_i c; rw [c]
     ·rename_i c;rw [e1, List.mem_append, List.mem_singleton] at hi;rcases hi with hi | hi
      ·exact h2 i hi
      ·exact absurd hi c
    ·simp (disch := omega) only [Zb, Zx, e1, e2, List.map_append, List.map_cons, List.map_nil, List.length_append, List.length_cons, List.length_nil, go_sem, seval]
  ·have hkl : k = l.length := by omega
   subst hkl
   rw [List.take_length] at *
   have hk3 : ∀ i ∈ l.filter (fun i => !VM x p i), i ∈ l := fun i hi => (List.mem_filter.1 hi).1;have hu3 : ∀ i ∈ l.filter (VM x p), i ∈ l := fun i hi => (List.mem_filter.1 hi).1;have ak := hasc.filter (fun i => !VM x p i);have au := hasc.filter (VM x p)
   generalize l.filter (fun i => !VM x p i) = K at *
   generalize l.filter (VM x p) = U at *
   refine Zn (Weak.fz (o := 4) (by rfl)) ?_;refine Zn (Weak.fz (o := 5) (by rfl)) ?_;refine Zd [] _ _ _ _ ?_;simp (disch := omega) only [List.map_cons, List.map_nil, List.set_cons_succ, List.set_cons_zero, go_sem, seval];have w : Two (.map (es.map eII)) (.cells [.mp 0]) [.ptr 1 0] := ⟨fun H n h => by simp [wkO], fun H n h => by simp [wkO, wkF, wkV, refB]; omega, fun n h => by simp [refBs, refB]; omega, by simp [refH, refBs, refB]⟩;have c1 := (Zgx (g := 111) (v := fun i => -(Uj x p i).1) w K false n (by omega) ak (fun i hi => by have := hmi i (hk3 i hi); omega) fun i hi => Zk3 es i _ (h2 i hi) (Zij hl)).back [Zb x, Zx p] (by rfl)
   have c2 : ACalls Tryz.prog 110 [.p (.list false (K.map eI)), .p (.int .i64 (n : Int)), .fn (.func 111) [] [.ptr 3 0]] [Zb x, Zx p, .map (es.map eII), .cells [.mp 2]] fun y H' => y = .p (.int .i64 (JQ (fun _ => false) (fun i => -(Uj x p i).1) K n : Nat)) /\ H' = [Zb x, Zx p, .map (es.map eII), .cells [.mp 2]] :=
    c1.mono (by rintro _ _ ⟨y, H1, ⟨rfl, rfl⟩, rfl, rfl⟩; exact ⟨rfl, rfl⟩)
   refine c2.useP (L := [.dead, .dead]) rfl ?_ (by simp [refBs, refB]) (by simp [refH, Zb, Zx, refBs, refB]);simp (disch := omega) only [go_sem, seval];have w2 : Two (Zb x) (Zx p) [] := ⟨fun H n h => by simp [Zb, wkO, wkF, wkV, refB], fun H n h => by simp [Zx, wkO, wkF, wkV, refB], fun n h => by simp [refBs], by simp [refH, Zb, Zx, refBs, refB]⟩;have c4 := Zgx (g := 112) (v := fun _ => 0) w2 U false (n - K.length) (by omega) au (fun i hi => by have := hmi i (hu3 i hi); omega) fun i hi => ZlN (Zb x) (Zx p) i w2;rw [show ((n - K.length : Nat) : Int) = max 0 ((n : Int) - (K.length : Int)) by omega] at c4
   refine c4.useP (L := [.map (es.map eII), .cells [.mp 2], .dead, .dead]) rfl ?_ (by simp [refBs, refB]) (by simp [refH, Zb, Zx, refBs, refB])
   have b1 : JQ (fun _ => false) (fun i => -(Uj x p i).1) K n < pw 19 := YU fun i hi => by
    have := hmi i (hk3 i (X9.1 (List.mem_of_mem_take hi)));omega
   have b2 : JQ (fun _ => false) (fun _ => 0) U (n - K.length) < pw 19 := YU fun i hi => by
    have := hmi i (hu3 i (X9.1 (List.mem_of_mem_take hi)));omega
   have e19 : pw 19 = 524288 := rfl;simp (disch := omega) only [go_sem, seval];exact we
noncomputable def VR (x : Inst) (p : Pln) (kind st n : Int) : Nat × Int × Int :=
 if kno x.orders.length p.routes = false then (0, 0, 2)
 else if kind < 1 \/ 4 < kind then (0, 0, 8)
 else if n < 1 \/ 10 < n then (0, 0, 2)
 else if Xe p.routes = 0 then (0, st, 0)
 else if kind = 1 then ((ZcB n.toNat (Xe p.routes) 0 st).1, (ZcB n.toNat (Xe p.routes) 0 st).2, 0)
 else if kind = 2 then (Zbv x p (Xe p.routes) n.toNat, st, 0)
 else if kind = 3 then (Zbj x (Xe p.routes) st n.toNat, Wf st, 0)
 else (XJ (nth p.routes (YI st p.routes.length).toNat).visits, Wf st, 0)
theorem ZbJ (x : Inst) (p : Pln) (kind st n : Int) (hx : InstOk x) (hR : Rm x p) (hx19 : x.orders.length <= 19) (hl : p.routes.length <= 100) (har : x.net.arcs.length <= 1048576) (hn : I64 n) :
  PT 18 [.p (ZG x), .p (ZaI p), .p (.int .i64 kind), .p (.int .i64 st), .p (.int .i64 n)] [.p (.int .i64 ((VR x p kind st n).1 : Nat)), .p (.int .i64 (VR x p kind st n).2.1), .p (.int .i64 (VR x p kind st n).2.2)] := by
 have e61 : pw 61 = 2305843009213693952 := rfl;refine Zc [] Tryz.func18 rfl ZwA ?_;simp (disch := omega) only [Tryz.f18, go_sem, seval];refine US (Jm x p hR.n (by have := hR.rl; omega) hR.b) ?_
 cases hk : kno x.orders.length p.routes with
 | false =>
  have e : VR x p kind st n = (0, 0, 2) := by rw [VR, if_pos hk]
  rw [e];simp (disch := omega) only [go_sem, seval];exact we
 | true =>
  have hk' : ¬ kno x.orders.length p.routes = false := by rw [hk]; simp
  rw [if_pos rfl];have ha := YD hk;have ha61 : Xe p.routes < pw 61 := Nat.lt_of_lt_of_le ha (Z3 (by omega));simp (disch := omega) only [go_sem, seval];refine gF ?_ ?_ <;> intro h1 <;> simp (disch := omega) only [Sh.out h1, go_sem, seval]
  ·have e : VR x p kind st n = (0, 0, 8) := by rw [VR, if_neg hk', if_pos (.inl h1)]
   rw [e];exact we
  ·refine cD ?_ ?_ <;> intro h2 <;> simp (disch := omega) only [Sh.out h2, go_sem, seval]
   ·have e : VR x p kind st n = (0, 0, 8) := by rw [VR, if_neg hk', if_pos (.inr h2)]
    rw [e];exact we
   ·have c1 : ¬ (kind < 1 \/ 4 < kind) := by omega
    refine gF ?_ ?_ <;> intro h3 <;> simp (disch := omega) only [Sh.out h3, go_sem, seval]
    ·have e : VR x p kind st n = (0, 0, 2) := by rw [VR, if_neg hk', if_neg c1, if_pos (.inl h3)]
     rw [e];exact we
    ·refine cD ?_ ?_ <;> intro h4 <;> simp (disch := omega) only [Sh.out h4, go_sem, seval]
     ·have e : VR x p kind st n = (0, 0, 2) := by rw [VR, if_neg hk', if_neg c1, if_pos (.inr h4)]
      rw [e];exact we
     ·have c2 : ¬ (n < 1 \/ 10 < n) := by omega
      refine cD ?_ ?_ <;> intro h5 <;> simp (disch := omega) only [Sh.out h5, go_sem, seval]
      ·have c3 : Xe p.routes = 0 := by omega
       have e : VR x p kind st n = (0, st, 0) := by rw [VR, if_neg hk', if_neg c1, if_neg c2, if_pos c3]
       rw [e];exact we
      ·have c3 : ¬ Xe p.routes = 0 := by omega
       obtain ⟨m, rfl⟩ : ∃ m : Nat, n = m := ⟨n.toNat, by omega⟩
       have e : VR x p kind st (m : Int) = if kind = 1 then ((ZcB m (Xe p.routes) 0 st).1, (ZcB m (Xe p.routes) 0 st).2, 0)
         else if kind = 2 then (Zbv x p (Xe p.routes) m, st, 0)
         else if kind = 3 then (Zbj x (Xe p.routes) st m, Wf st, 0)
         else (XJ (nth p.routes (YI st p.routes.length).toNat).visits, Wf st, 0) := by rw [VR, if_neg hk', if_neg c1, if_neg c2, if_neg c3, Int.toNat_natCast]
       rw [e];refine cD ?_ ?_ <;> intro h6 <;> simp (disch := omega) only [Sh.out h6, go_sem, seval]
       ·rw [if_pos h6];refine US (ZiW (Xe p.routes) st m ha61 (by omega)) ?_;simp (disch := omega) only [go_sem, seval];exact we
       ·rw [if_neg h6];refine cD ?_ ?_ <;> intro h7 <;> simp (disch := omega) only [Sh.out h7, go_sem, seval]
        ·rw [if_pos h7];refine (Zp5 x p (Xe p.routes) m hx hR hx19 hl ha (by omega)).use ?_;simp (disch := omega) only [go_sem, seval];exact we
        ·rw [if_neg h7];refine cD ?_ ?_ <;> intro h8 <;> simp (disch := omega) only [Sh.out h8, go_sem, seval]
         ·rw [if_pos h8];refine US (Zqs x (Xe p.routes) st m hx19 (by omega) ha (by omega) (by omega) har) ?_;simp (disch := omega) only [go_sem, seval];exact we
         ·rw [if_neg h8]
          have h9 : kind = 4 := by omega
          have hne : 0 < p.routes.length := by
           rcases Nat.eq_zero_or_pos p.routes.length with h | h
           ·rw [List.length_eq_zero_iff.1 h] at c3; exact absurd rfl c3
           ·exact h
          have hb := WG (s := st) (n := (p.routes.length : Int)) (by omega);obtain ⟨j, hj⟩ : ∃ j : Nat, YI st p.routes.length = j := ⟨_, (Int.toNat_of_nonneg hb.1).symm⟩
          have hjl : j < p.routes.length := by omega
          have cb := Zae st p.routes.length;rw [hj] at cb ⊢;rw [Int.toNat_natCast];simp (disch := omega) only [h9, go_sem, seval];refine US cb ?_;simp (disch := omega) only [go_sem, seval];have hkr : Zf9 x.orders.length (nth p.routes j) = true := List.all_eq_true.1 hk _ (Zl hjl);have co := WX (nth p.routes j) (hR.b _ (Zl hjl)).1;rw [show Qy (nth p.routes j).visits = (((XJ (nth p.routes j).visits : Nat) : Int), 0) by simp [Qy, ZcG hR.n hkr]] at co;refine US co ?_;simp (disch := omega) only [go_sem, seval];exact we
theorem ZgU (x : Inst) (hw : x.wf 1048576) (p : Pln) (hp : p.wf 1048576) : ACalls Tryz.prog 11 [.p (ZG x), .p (ZaI p)] [] fun y H' => ∃ b : Bool, (b = true -> InstOk x /\ x.orders.length <= 4 /\ p.routes.length <= 5 /\ p.unserved.length <= 12) /\ y = .p (.bool b) /\ H' = [] := by
 have hpw := hp;obtain ⟨q1, q2, q3, q4⟩ := hp;refine ACalls.pureE (Xf Tryz.func11 rfl ZxI (Zd [] _ _ _ _ ?_));simp (disch := omega) only [Tryz.f11, go_sem, seval];refine gF ?_ ?_ <;> intro h1 <;> simp (disch := omega) only [Sh.out h1, go_sem, seval]
 ·exact ⟨false, by simp, rfl⟩
 ·refine gF ?_ ?_ <;> intro h2 <;> simp (disch := omega) only [Sh.out h2, go_sem, seval]
  ·exact ⟨false, by simp, rfl⟩
  ·refine gF ?_ ?_ <;> intro h3 <;> simp (disch := omega) only [Sh.out h3, go_sem, seval]
   ·exact ⟨false, by simp, rfl⟩
   ·refine ((Zpp x hw).frozenE).useV fun m hm => ?_;simp (disch := omega) only [go_sem, seval];have hem := hm.emp;refine cD ?_ ?_ <;> intro h4 <;> simp (disch := omega) only [Sh.out h4, go_sem, seval]
    ·exact ⟨false, by simp, rfl⟩
    ·have hx : InstOk x := hem.1 (List.length_eq_zero_iff.1 (by omega));refine Zf [3] (fun k : Nat => [(5, .p (.int .i64 (k : Int)))]) (fun _ => [Zb x, Zx p]) (fun k => k <= p.routes.length) (fun k => p.routes.length - k) 0 (by simp) (Weak.mk ?_) ?_
     ·simp (disch := omega) only [Zb, Zx, go_sem, seval]
     ·intro k hk;simp (disch := omega) only [Zb, Zx, go_sem, seval];refine cD ?_ ?_ <;> intro h5 <;> simp (disch := omega) only [Sh.out h5, go_sem, seval]
      ·have hk2 : k < p.routes.length := by omega
       obtain ⟨_, _, _, _, w1, _⟩ := q2 _ (Zl hk2);refine cD ?_ ?_ <;> intro h6 <;> simp (disch := omega) only [Sh.out h6, go_sem, seval]
       ·exact ⟨false, by simp, rfl⟩
       ·exact ⟨k + 1, by omega, by omega, Weak.mk (by simp (disch := omega) only [Zb, Zx, go_sem, seval])⟩
      ·exact ⟨true, fun _ => ⟨hx, by omega, by omega, by omega⟩, rfl⟩
def Zwj (name : List UInt8) : Ord := { name := name, load_c := false, load := [1], pick := ⟨-1, 0, 0, 0⟩, drp := ⟨1, 0, 50, 0⟩, skills := 0, penalty := 0, split := 1, last := -1, now := -1, off := false }
def simI : Inst := { net := { places_c := false, places := [[104, 117, 98], [97, 115, 104]], arcs_c := false, arcs := [⟨0, 1, 0, 10, false, [⟨0, 20⟩], true, []⟩, ⟨1, 0, 0, 10, false, [⟨0, 20⟩], true, []⟩] }, types_c := false, types := [{ name := [118, 97, 110], count := 1, src := 0, dst := 0, cap_c := false, cap := [5], cls := 1000, drive := 1000, opn := 0, rest := 0, skills := 0, fixed := 5, perMile := 1, perTick := 0, prof := 0 }], orders_c := false, orders := [Zwj [111, 97], Zwj [111, 98]], apart_c := true, apart := [], before_c := true, before := [] }
def simP : Pln := ⟨false, [⟨0, 0, true, [], false, [⟨0, true⟩, ⟨1, true⟩]⟩], true, []⟩
theorem ZoC : InstOk simI := by
 refine ⟨?_, ?_, ?_, ?_⟩
 ·refine ⟨⟨⟨by decide, fun i hi => ?_⟩, by decide⟩, fun i hi => ?_⟩
  ·have : i = 0 \/ i = 1 := by simp [simI] at hi; omega
   rcases this with rfl | rfl <;> (unfold ZjA; decide)
  ·have : i = 0 \/ i = 1 := by simp [simI] at hi; omega
   rcases this with rfl | rfl <;> (unfold ZcZ YB ZmQ Vm; decide)
 ·refine ⟨by decide, fun i hi => ?_⟩
  have : i = 0 := by simp [simI] at hi; omega
  subst this;unfold QF
  decide
 ·refine ⟨by decide, fun i hi => ?_⟩
  have : i = 0 \/ i = 1 := by simp [simI] at hi; omega
  rcases this with rfl | rfl <;> exact ⟨by decide, by decide, by decide, by decide, by decide, by decide, by decide, by decide, by decide, by decide⟩
 ·rfl
theorem Zf3 {n all set : Nat} (ha : all < pw n) : lvS n [] all set = all &&& set := Nat.eq_of_testBit_eq fun i => by
 have hv : Val n ([] : List (Int × Int)) := fun p hp => by simp at hp
 rw [Bool.eq_iff_iff, VU hv ha, Nat.testBit_and, Bool.and_eq_true]
 constructor
 ·rintro ⟨h1, j, h2, h3, h4⟩;rcases h2 with rfl | h2
  ·exact ⟨h1, h3⟩
  ·exfalso
   induction h2 with
   | one h => obtain ⟨p, hp, _⟩ := h; simp at hp
   | more _ h => obtain ⟨p, hp, _⟩ := h; simp at hp
 ·rintro ⟨h1, h2⟩;exact ⟨h1, i, .inl rfl, h2, h1⟩
theorem ZhD : Z4 simI simP 1 = 1 := by rw [Z4]; exact Zf3 (n := 2) (all := 3) (set := 1) (by decide)
theorem Zr8 : rmF simI simP 1 = (⟨false, [⟨0, 0, true, [], false, [⟨1, true⟩]⟩], false, [0]⟩, 1, 0) := by
 rw [rmF, ZhD]
 rfl
def simQ : Pln := ⟨false, [⟨0, 0, true, [], false, [⟨1, true⟩]⟩], false, [0]⟩
theorem Zln {p : Pln} (h : p = simP \/ p = simQ) : Rm simI p := by
 refine ⟨by decide, by decide, fun q hq => by simp [simI] at hq, ?_, ?_, ?_⟩
 ·rcases h with rfl | rfl <;> decide
 ·rcases h with rfl | rfl <;> decide
 ·rcases h with rfl | rfl
  ·intro r hr;simp only [simP, List.mem_cons, List.not_mem_nil, or_false] at hr;subst hr;exact ⟨by decide, by decide⟩
  ·intro r hr;simp only [simQ, List.mem_cons, List.not_mem_nil, or_false] at hr;subst hr;exact ⟨by decide, by decide⟩
theorem Zla : rmF simI simP 1 = (simQ, 1, 0) := Zr8
theorem ZgI : Z4 simI simQ ((pw 1 : Nat) : Int) = 2 := by rw [Z4]; exact Zf3 (n := 2) (all := 2) (set := 2) (by decide)
theorem ZfL : JC simI ⟨0, 0, true, [], false, [⟨1, true⟩]⟩ = (419430400, 0) := by kernel_rfl
theorem ZlL : UX simI simQ.routes = (419430400, 0) := by
 rw [Zf1 (x := simI) (l := simQ.routes)]
 ·show (0 + (JC simI ⟨0, 0, true, [], false, [⟨1, true⟩]⟩).1, (0 : Int)) = _
  rw [ZfL]
  rfl
 ·intro j hj
  have : j = 0 := by simp [simQ] at hj; omega
  subst this
  show (JC simI ⟨0, 0, true, [], false, [⟨1, true⟩]⟩).2 = 0
  rw [ZfL]
theorem Zk9 : Uj simI simQ 1 = (419430400, 0) := by
 have h1 : ¬ (Zbn simI simQ = false \/ (1 : Int) < 0 \/ (simI.orders.length : Int) <= 1) := by decide
 have h2 : ¬ (Xe simQ.routes).testBit (1 : Int).toNat = false := by decide
 have h3 : Z4 simI simQ ((pw (1 : Int).toNat : Nat) : Int) = 2 := ZgI;have h4 : UX simI (Xo 2 simQ.routes) = (0, 0) := rfl;rw [Uj, if_neg h1, if_neg h2, ZlL, h3, h4]
 rfl
theorem Zks : VR simI simP 4 1 1 = (3, 48271, 0) := by
 have h1 : ¬ kno simI.orders.length simP.routes = false := by decide
 have h2 : ¬ Xe simP.routes = 0 := by decide
 rw [VR, if_neg h1, if_neg (by decide), if_neg (by decide), if_neg h2, if_neg (by decide), if_neg (by decide), if_neg (by decide)]
 rfl
theorem ZdS : PT 35 [] [.p (ZG simI), .p (ZaI simP)] := by
 refine Zc [2, 7, 8] Tryz.func35 rfl ZyD ?_;simp (disch := omega) only [Tryz.f35, go_sem, seval];refine Zn (Weak.fz (o := 2) (by rfl)) ?_;refine Zd [7, 8] _ _ _ _ ?_;simp (disch := omega) only [List.map_cons, List.map_nil, List.set_cons_succ, List.set_cons_zero, go_sem, seval];refine Zn (Weak.fz (o := 3) (by rfl)) ?_;refine Zn (Weak.fz (o := 4) (by rfl)) ?_;refine Zn (Weak.fz (o := 6) (by rfl)) ?_;refine Zn (Weak.fz (o := 9) (by rfl)) ?_;refine Zd [8] _ _ _ _ ?_;simp (disch := omega) only [List.map_cons, List.map_nil, List.set_cons_succ, List.set_cons_zero, go_sem, seval]
 refine Zn ((Weak.fz (o := 11) (by rfl)).trans (Weak.fz (o := 12) (by rfl))) ?_;refine XQ (Zg7 4 2 ?_);simp (disch := omega) only [List.map_cons, List.map_nil, List.set_cons_succ, List.set_cons_zero, List.cons_append, List.nil_append, go_sem, seval];refine ⟨_, _, Weak.fz (o := 14) (by rfl), ?_⟩;simp (disch := omega) only [List.map_cons, List.map_nil, List.set_cons_succ, List.set_cons_zero, List.cons_append, List.nil_append, go_sem, seval];refine ⟨_, _, Weak.fz (o := 15) (by rfl), ?_⟩;simp (disch := omega) only [List.map_cons, List.map_nil, List.set_cons_succ, List.set_cons_zero, List.cons_append, List.nil_append, go_sem, seval]
 refine Zd [] _ _ _ _ ?_;simp (disch := omega) only [go_sem, seval];exact we (by simp (disch := omega) only [simI, simP, Zwj, List.map_cons, List.map_nil, go_sem, seval])
theorem Xn : PC 12 [] (.bool true) := by
 have har : simI.net.arcs.length <= 1048576 := by decide
 have c1 := V6 simI simP 1 (Zln (.inl rfl)) ⟨by decide, by decide⟩;rw [Zla] at c1;dsimp only at c1;have c2 := Zf2 simI simQ 1 ZoC (Zln (.inr rfl)) (by decide) ⟨by decide, by decide⟩;rw [Zk9] at c2;dsimp only at c2;have c3 := ZbJ simI simP 4 1 1 ZoC (Zln (.inl rfl)) (by decide) (by decide) har ⟨by decide, by decide⟩;rw [Zks] at c3;dsimp only at c3;refine Za Tryz.func12 rfl ZxR ?_;simp (disch := omega) only [Tryz.f12, go_sem, seval];refine US ZdS ?_;simp (disch := omega) only [go_sem, seval];have e1 : simQ.routes.length = 1 := rfl;have e2 : (nth simQ.routes 0).visits.length = 1 := rfl
 have e3 : simQ.unserved.length = 1 := rfl;refine Ku c1 ?_;simp (disch := omega) only [go_sem, seval];refine US c2 ?_;simp (disch := omega) only [go_sem, seval];refine Ku c3 ?_;simp (disch := omega) only [e1, e2, e3, go_sem, seval]
 done
theorem Zp2 {x : Inst} {p : Pln} (hx : InstOk x) (hw : x.wf 1048576) (hp : p.wf 1048576) (h1 : p.routes.length <= 5) (h2 : p.unserved.length <= 12) : Rm x p :=
 ⟨by have := Zph hx; omega, by obtain ⟨_, _, _, _, _, _, _, w8, _⟩ := hw; exact w8, (VC hx).val, by omega, by omega, Zmg hp⟩
theorem Zy0 {x : Inst} {p : Pln} {s : Int} (h : Rm x p) : (rmF x p s).1.routes.length <= 1048576 /\ (rmF x p s).1.unserved.length <= 63 /\ ∀ r ∈ (rmF x p s).1.routes, rteB r := by
 unfold rmF
 split
 ·exact ⟨Nat.le_trans Vu h.rl, Wu _ _, Zjw h.b⟩
 ·exact ⟨by simp [Zd8], by simp [Zd8], by simp [Zd8]⟩
theorem ZB4 {α : Type} {l : List α} (h : l.length = 3) : ∃ a b c, l = [a, b, c] := by match l, h with | [a, b, c], _ => exact ⟨a, b, c, rfl⟩
structure Ask where
 kind : Int
 state : Int
 n : Int
 deriving Inhabited
def ZBd (x : Ask) : List PV := [.int .i64 x.kind, .int .i64 x.state, .int .i64 x.n]
def Zw4 (x : Ask) : PV := .agg [.int .i64 x.kind, .int .i64 x.state, .int .i64 x.n]
@[go_sem] theorem ZxE (x : Ask) : Zw4 x = .agg [.int .i64 x.kind, .int .i64 x.state, .int .i64 x.n] := Eq.trans rfl rfl
def Ask.wf (B : Nat) (x : Ask) : Prop := I64 x.kind /\ I64 x.state /\ I64 x.n
theorem Zhu {B m cs} (h : YS Tryz.prog B m 49 cs) : ∃ x : Ask, cs = ZBd x /\ x.wf B := by
 obtain ⟨h1, m', h2⟩ := Xz ZsC ZwV h;obtain ⟨a0, a1, a2, rfl⟩ := ZB4 h1;obtain ⟨n0, e0, w0⟩ := Zs Tryz.underlying3 (h2 (0, 3) (by simp));obtain ⟨n1, e1, w1⟩ := Zs Tryz.underlying3 (h2 (1, 3) (by simp));obtain ⟨n2, e2, w2⟩ := Zs Tryz.underlying3 (h2 (2, 3) (by simp));simp [Zi0] at e0 e1 e2;subst e0; subst e1; subst e2;exact ⟨⟨n0, n1, n2⟩, rfl, ZJ w0, ZJ w1, ZJ w2⟩
theorem ZkD {B v} (h : FitV Tryz.prog B 49 v) : ∃ x : Ask, v = Zw4 x /\ x.wf B := by
 obtain ⟨k, cs, h, e⟩ := h.out;obtain ⟨x, rfl, hw⟩ := Zhu h;exact ⟨x, e.trans (by rw [Qj, if_pos (XB ZsC)]; rfl), hw⟩
theorem ZeW : ∀ (l : List Int) {n : Nat}, l.Nodup -> (∀ i ∈ l, 0 <= i /\ i < (n : Int)) -> pc (XH l) n = l.length := by
 intro l n hn hl
 have : ∀ k, k <= l.length -> pc (XH (l.take k)) n = k := by
  intro k
  induction k with
  | zero => intro _; simp only [XH, List.take_zero, List.foldl_nil]; clear hl; induction n with
   | zero => rfl
   | succ n ih => simp [pc, ih]
  | succ k ih =>
   intro hk
   have hk2 : k < l.length := by omega
   have hb : (XH (l.take k)).testBit (nth l k).toNat = false := by
    cases hc : (XH (l.take k)).testBit (nth l k).toNat with
    | false => rfl
    | true =>
     have h1 := (Zhc (l := l.take k) (fun i hi => (hl i (List.mem_of_mem_take hi)).1) (hl _ (Zl hk2)).1).1 hc;obtain ⟨j, hj, e⟩ := List.mem_iff_getElem.1 h1;rw [List.length_take] at hj;rw [List.getElem_take, Ze hk2] at e;have := (List.getElem_inj hn).1 e;omega
   rw [UZ hk2, Zf7 hb, Q7 hb, ih (by omega), if_pos];have := hl _ (Zl hk2);omega
 have h := this l.length (Nat.le_refl _);rwa [List.take_length] at h
theorem Zcw {a b : Nat} (h : ∀ j, b.testBit j = true -> a.testBit j = true) : ∀ n, pc (VY a b) n + pc b n = pc a n
 | 0 => rfl
 | n + 1 => by
  have ih := Zcw h n;have hn := h n;simp only [pc, Wz]
  by_cases hb : b.testBit n = true
  ·have ha := hn hb;simp only [ha, hb, Bool.not_true, Bool.and_false, Bool.false_eq_true, ↓reduceIte]; omega
  ·by_cases ha : a.testBit n = true
   ·simp only [ha, hb, Bool.true_and]; rw [if_pos (by simp [hb])]; simp only [Bool.false_eq_true, ↓reduceIte]; omega
   ·simp only [ha, hb, Bool.false_and, Bool.false_eq_true, ↓reduceIte]; omega
theorem ZeZ {S n : Nat} (h : S < pw n) (hn : n <= 63) : pc S 63 = (Z6 (S : Int) 63).length := by
 have h63 : S < pw 63 := Nat.lt_of_lt_of_le h (Z3 hn)
 have := ZeW (n := 63) (Z6 (S : Int) 63) (Wo (Yw _ _)) fun i hi => by
  obtain ⟨j, rfl, h1, _⟩ := Xl.1 hi;omega
 rwa [Zav h63] at this
theorem ZcO {q v} {l : List Int} {n j : Nat} (h : (JQ q v l n).testBit j = true) : ∃ i ∈ l, i.toNat = j := by
 obtain ⟨i, h1, h2⟩ := XA.1 h;exact ⟨i, X9.1 (List.mem_of_mem_take h1), h2⟩
theorem Ze5 {q v} {l : List Int} {n : Nat} (hn : l.Nodup) (hl : ∀ i ∈ l, 0 <= i /\ i < (63 : Int)) : pc (JQ q v l n) 63 = min n l.length := by
 rw [JQ, ZeW _ ((ZdA hn).sublist (List.take_sublist _ _)) fun i hi => hl i (X9.1 (List.mem_of_mem_take hi)), List.length_take, Jz]
theorem ZfN {S j : Nat} {i : Int} (h : i ∈ Z6 (S : Int) 63) (e : i.toNat = j) : S.testBit j = true := by
 obtain ⟨k, rfl, _, h3⟩ := Xl.1 h;rw [Int.toNat_natCast] at e;rw [<- e]; exact h3
theorem Zfv {S : Nat} : ∀ i ∈ Z6 (S : Int) 63, 0 <= i /\ i < (63 : Int) := fun i hi => by
 obtain ⟨j, rfl, h1, _⟩ := Xl.1 hi;omega
theorem ZbD {a b : Nat} (h : ∀ j, a.testBit j = true -> b.testBit j = true) : a ||| b = b := Nat.eq_of_testBit_eq fun j => by
 rw [Nat.testBit_or]
 cases ha : a.testBit j with
 | false => rfl
 | true => rw [h j ha]; rfl
theorem Zdj {x : Inst} {p : Pln} {on m n : Nat} (ha : on < pw n) (hn : n <= 60) : (∀ j, (Zbv x p on m).testBit j = true -> on.testBit j = true) /\ pc (Zbv x p on m) 63 = min m (pc on 63) := by
 refine ⟨fun j hj => ?_, ?_⟩
 ·obtain ⟨i, h1, h2⟩ := ZcO hj;exact ZfN h1 h2
 ·rw [Zbv, Ze5 (Wo (Yw _ _)) Zfv, ZeZ ha (by omega)]
theorem Zdr {x : Inst} {st : Int} {on m n : Nat} (ha : on < pw n) (hn : n <= 60) (h0 : 0 < on) (hm : 1 <= m) : (∀ j, (Zbj x on st m).testBit j = true -> on.testBit j = true) /\ pc (Zbj x on st m) 63 = min m (pc on 63) := by
 obtain ⟨f, hf, hf63, hf2⟩ := VH (s := st) (S := on) h0 (Nat.lt_of_lt_of_le ha (Z3 (by omega)));unfold Zbj;rw [hf, Int.toNat_natCast]
 have hs : ∀ j, (pw f).testBit j = true -> on.testBit j = true := fun j hj => by
  rw [Z5, decide_eq_true_eq] at hj;rw [<- hj]; exact hf2
 have hd := Zcw hs 63
 have hp : pc (pw f) 63 = 1 := by
  have := Q7 (s := 0) (b := f) (Nat.zero_testBit f) 63;rw [Nat.zero_add, if_pos hf63] at this
  have z : ∀ n, pc 0 n = 0 := fun n => by induction n with | zero => rfl | succ n ih => simp [pc, ih]
  rw [this, z]
 have hm2 := ZeZ (UR (b := pw f) ha) (by omega)
 have hk : ∀ q v j, (JQ q v (Z6 (VY on (pw f) : Int) 63) (m - 1)).testBit j = true -> (VY on (pw f)).testBit j = true := fun q v j hj => by
  obtain ⟨i, h1, h2⟩ := ZcO hj;exact ZfN h1 h2
 have hpc := fun q v => Ze5 (q := q) (v := v) (l := Z6 (VY on (pw f) : Int) 63) (n := m - 1) (Wo (Yw _ _)) Zfv;refine ⟨fun j hj => ?_, ?_⟩
 ·rw [Nat.testBit_or, Bool.or_eq_true] at hj;rcases hj with hj | hj
  ·exact hs j hj
  ·have := hk _ _ j hj;rw [Wz, Bool.and_eq_true] at this;exact this.1
 ·have hnf : ∀ q v, (JQ q v (Z6 (VY on (pw f) : Int) 63) (m - 1)).testBit f = false := fun q v => by
   cases hc : (JQ q v (Z6 (VY on (pw f) : Int) 63) (m - 1)).testBit f with
   | false => rfl
   | true => have := hk _ _ f hc; rw [Wz, Z5] at this; simp at this
  rw [Nat.or_comm, Zf7 (hnf _ _), Q7 (hnf _ _), if_pos hf63, hpc];omega
theorem Zov {d j n : Nat} (h : d.testBit j = true) (hj : j < n) : 0 < pc d n := by
 induction n with
 | zero => omega
 | succ n ih =>
  rw [pc];rcases Nat.eq_or_lt_of_le (Nat.le_of_lt_succ hj) with e | e
  ·subst e; rw [if_pos h]; omega
  ·have := ih e; omega
theorem KM {on n : Nat} (ha : on < pw n) (hn : n <= 60) : ∀ (m s : Nat) (t : Int), (∀ j, s.testBit j = true -> on.testBit j = true) -> (∀ j, (ZcB m on s t).1.testBit j = true -> on.testBit j = true) /\ pc (ZcB m on s t).1 63 = min (pc s 63 + m) (pc on 63)
 | 0, s, t, h => by
  have := Zcw h 63;exact ⟨h, by show pc s 63 = _; omega⟩
 | m + 1, s, t, h => by
  have hd := Zcw h 63;rw [ZcB]
  split
  ·rename_i c;rw [c] at hd
   have z : ∀ n, pc 0 n = 0 := fun n => by induction n with | zero => rfl | succ n ih => simp [pc, ih]
   rw [z] at hd;exact ⟨h, by show pc s 63 = _; omega⟩
  ·rename_i c;have hdl := UR (b := s) ha;obtain ⟨j, hj, hj63, hj2⟩ := VH (s := t) (S := VY on s) (by omega) (Nat.lt_of_lt_of_le hdl (Z3 (by omega)))
   have hj4 : on.testBit j = true /\ s.testBit j = false := by rw [Wz] at hj2; simpa using hj2
   rw [hj, Int.toNat_natCast];have hp := Q7 hj4.2 63;rw [if_pos hj63, <- Zf7 hj4.2] at hp;have h0 := Zov hj2 hj63
   obtain ⟨h1, h2⟩ := KM ha hn m (s ||| pw j) (Wf t) fun i hi => by
    rw [Nat.testBit_or, Z5, Bool.or_eq_true, decide_eq_true_eq] at hi;rcases hi with hi | rfl
    ·exact h i hi
    ·exact hj4.1
   exact ⟨h1, by rw [h2, hp]; omega⟩
structure ChsOk (on : Nat) (kind st n : Int) (r : Nat × Int × Int) : Prop where
 sub : r.1 ||| on = on
 dear : kind = 2 -> r.2.1 = st
 many : ¬ kind = 4 -> (pc r.1 63 : Int) = min n (pc on 63 : Int)
theorem Zde {x : Inst} {p : Pln} {kind st n : Int} (hn : x.orders.length <= 60) :
  (¬ (VR x p kind st n).2.2 = 0 -> (VR x p kind st n).1 = 0 /\ (VR x p kind st n).2.1 = 0) /\
  ((VR x p kind st n).2.2 = 0 -> kno x.orders.length p.routes = true /\ (Xe p.routes = 0 -> (VR x p kind st n).1 = 0 /\ (VR x p kind st n).2.1 = st) /\ (¬ Xe p.routes = 0 -> ChsOk (Xe p.routes) kind st n (VR x p kind st n))) := by
 unfold VR
 split
 ·simp
 ·rename_i hk
  have hk : kno x.orders.length p.routes = true := by simpa using hk
  have ha := YD hk
  split
  ·simp
  ·rename_i c1
   split
   ·simp
   ·rename_i c2
    split
    ·rename_i c3;exact ⟨fun h => absurd rfl h, fun _ => ⟨hk, fun _ => ⟨rfl, rfl⟩, fun h => absurd c3 h⟩⟩
    ·rename_i c3;have hnn : (n.toNat : Int) = n := Int.toNat_of_nonneg (by omega)
     split
     ·rename_i c4;obtain ⟨h1, h2⟩ := KM ha hn n.toNat 0 st (by simp)
      have z : ∀ n, pc 0 n = 0 := fun n => by induction n with | zero => rfl | succ n ih => simp [pc, ih]
      rw [z] at h2;exact ⟨fun h => absurd rfl h, fun _ => ⟨hk, fun h => absurd h c3, fun _ => ⟨ZbD h1, fun h => by omega, fun _ => by simp only; omega⟩⟩⟩
     ·rename_i c4
      split
      ·rename_i c5;obtain ⟨h1, h2⟩ := Zdj (x := x) (p := p) (m := n.toNat) ha hn;exact ⟨fun h => absurd rfl h, fun _ => ⟨hk, fun h => absurd h c3, fun _ => ⟨ZbD h1, fun h => rfl, fun _ => by simp only; omega⟩⟩⟩
      ·rename_i c5
       split
       ·rename_i c6;obtain ⟨h1, h2⟩ := Zdr (x := x) (st := st) (m := n.toNat) ha hn (by omega) (by omega);exact ⟨fun h => absurd rfl h, fun _ => ⟨hk, fun h => absurd h c3, fun _ => ⟨ZbD h1, fun h => by omega, fun _ => by simp only; omega⟩⟩⟩
       ·rename_i c6;refine ⟨fun h => absurd rfl h, fun _ => ⟨hk, fun h => absurd h c3, fun _ => ⟨ZbD fun j hj => ?_, fun h => by omega, fun h => by omega⟩⟩⟩;simp only at hj
        have hne : 0 < p.routes.length := by
         rcases Nat.eq_zero_or_pos p.routes.length with h | h
         ·rw [List.length_eq_zero_iff.1 h] at c3; exact absurd rfl c3
         ·exact h
        have hb := WG (s := st) (n := (p.routes.length : Int)) (by omega);rw [Vy, XA] at hj;obtain ⟨i, h1, h2⟩ := hj;obtain ⟨v, h3, rfl⟩ := List.mem_map.1 h1;exact Wr.2 ⟨_, Zl (by omega), v, h3, h2⟩
theorem ZcI (S k : Nat) : ((S / pw k : Nat) : Int).tmod 2 = ((S / pw k % 2 : Nat) : Int) := by
 rw [Int.tmod_eq_emod_of_nonneg (Int.natCast_nonneg _)]; rfl
theorem Vj (S : Nat) (hS : S < 9223372036854775808) : PC 24 [.p (.int .i64 (S : Int))] (.int .i64 (pc S 63 : Nat)) := by
 refine Za Tryz.func24 rfl Zxh ?_;simp (disch := omega) only [Tryz.f24, go_sem, seval];refine Zf [0] (fun k : Nat => [(3, .p (.int .i64 (pc S k : Nat))), (4, .p (.int .i64 (k : Int)))]) (fun _ => []) (fun k => k <= 63) (fun k => 63 - k) 0 (by simp) (Weak.mk ?_) ?_
 ·simp (disch := omega) only [pc, go_sem, seval]
 ·intro k hk;have hp := ZgZ S k;simp (disch := omega) only [go_sem, seval];refine cD ?_ ?_ <;> intro h1 <;> simp (disch := omega) only [Sh.out h1, go_sem, seval]
  ·have hb : S.testBit k = decide (S / pw k % 2 = 1) := ZbZ S k;simp (disch := omega) only [ZcI, go_sem, seval];refine cD ?_ ?_ <;> intro h2 <;> simp (disch := omega) only [Sh.out h2, go_sem, seval]
   ·have e : pc S (k + 1) = pc S k + 1 := by rw [pc, if_pos (by rw [hb]; simp; omega)]
    exact ⟨k + 1, by omega, by omega, Weak.mk (by simp (disch := omega) only [e, go_sem, seval])⟩
   ·have e : pc S (k + 1) = pc S k := by rw [pc, if_neg (by rw [hb]; simp; omega)]; rfl
    exact ⟨k + 1, by omega, by omega, Weak.mk (by simp (disch := omega) only [e, go_sem, seval])⟩
  ·have : k = 63 := by omega
   rw [this]
theorem W7 (n : Nat) (p : Pln) (hn : n <= 60) (hk : kno n p.routes = true) (hr : p.routes.length <= 1048576) (hb : ∀ r ∈ p.routes, rteB r) :
  PC 20 [.p (ZaI p)] (.int .i64 (Xe p.routes : Nat)) := by
 have h60 : pw n <= pw 60 := Z3 hn;have e60 : pw 60 = 1152921504606846976 := rfl;have hki := VX.1 hk;refine Za Tryz.func20 rfl Zyk ?_;simp (disch := omega) only [Tryz.f20, go_sem, seval];refine Zf [1] (fun i : Nat => [(3, .p (.int .i64 (Xe (p.routes.take i) : Nat))), (4, .p (.int .i64 (i : Int)))]) (fun _ => [Zx p]) (fun i => i <= p.routes.length) (fun i => p.routes.length - i) 0 (by simp) (Weak.mk ?_) ?_
 ·simp (disch := omega) only [Xe, List.take_zero, List.foldl_nil, Zx, go_sem, seval]
 ·intro i hi;have hls : Xe (p.routes.take i) < pw n := YD (VX.2 fun r hr => hki r (List.mem_of_mem_take hr));simp (disch := omega) only [Zx, go_sem, seval];refine cD ?_ ?_ <;> intro h1 <;> simp (disch := omega) only [Sh.out h1, go_sem, seval]
  ·have hi2 : i < p.routes.length := by omega
   have hbi := hb _ (Zl hi2);have hvl := hbi.1;have hvi := hki _ (Zl hi2);have hs := ZaE hi2
   generalize Xe (p.routes.take i) = S at *
   have hlo : ∀ k, S ||| XJ ((nth p.routes i).visits.take k) < pw n := fun k => Nat.or_lt_two_pow hls (by
    rw [Vy];refine YU fun o ho => ?_;obtain ⟨v, hv, rfl⟩ := List.mem_map.1 ho;have := hvi v (List.mem_of_mem_take hv)
    omega)
   refine Zf [1, 4] (fun k : Nat => [(3, .p (.int .i64 (S ||| XJ ((nth p.routes i).visits.take k) : Nat))), (5, .p (.int .i64 (k : Int)))]) (fun _ => [Zx p]) (fun k => k <= (nth p.routes i).visits.length) (fun k => (nth p.routes i).visits.length - k) 0 (by simp) (Weak.mk ?_) ?_
   ·simp (disch := omega) only [XJ, List.take_zero, List.foldl_nil, Nat.or_zero, Zx, go_sem, seval]
   ·intro k hk;have hlk := hlo k;simp (disch := omega) only [Zx, go_sem, seval];refine cD ?_ ?_ <;> intro h2 <;> simp (disch := omega) only [Sh.out h2, go_sem, seval]
    ·have hk2 : k < (nth p.routes i).visits.length := by omega
     have hv := hvi _ (Zl hk2);have ht := Zgi hk2;obtain ⟨o, ho⟩ : ∃ o : Nat, (nth (nth p.routes i).visits k).order = o := ⟨_, (Int.toNat_of_nonneg hv.1).symm⟩;rw [ho] at hv ht;rw [Int.toNat_natCast] at ht;have hpo : pw o <= pw 60 := Z3 (by omega)
     have q0 : (0 : Int) <= (o : Int) := by omega
     have q2 : (o : Int) <= 62 := by omega
     simp (disch := omega) only [ho, q0, q2, go_sem, seval];exact ⟨k + 1, by omega, by omega, Weak.mk (by simp (disch := omega) only [ht, Nat.or_assoc, Zx, go_sem, seval])⟩
    ·have hkl : k = (nth p.routes i).visits.length := by omega
     subst hkl;rw [List.take_length];exact ⟨i + 1, by omega, by omega, Weak.mk (by simp (disch := omega) only [hs, Zx, go_sem, seval])⟩
  ·have hil : i = p.routes.length := by omega
   subst hil;rw [List.take_length]
theorem Zme (x : Inst) (hn : x.orders.length <= 60) : PC 23 [.p (ZG x)] (.int .i64 (Zyu x : Nat)) := by
 refine Za Tryz.func23 rfl ZxY ?_;simp (disch := omega) only [Tryz.f23, go_sem, seval];refine Zf [1] (fun k : Nat => [(3, .p (.int .i64 (XW (fun i => !(nth x.orders i).off) k : Nat))), (4, .p (.int .i64 (pw k : Nat))), (5, .p (.int .i64 (k : Int)))]) (fun _ => [Zb x]) (fun k => k <= x.orders.length) (fun k => x.orders.length - k) 0 (by simp) (Weak.mk ?_) ?_
 ·simp (disch := omega) only [XW, Zb, show pw 0 = 1 from rfl, go_sem, seval]
 ·intro k hk;have hsl := Yv (fun i => !(nth x.orders i).off) k;have hsi : pw k <= pw 60 := Z3 (by omega);have e60 : pw 60 = 1152921504606846976 := rfl
  have hps : ((pw (k + 1) : Nat) : Int) = (pw k : Int) * 2 := by have := WV k; omega
  simp (disch := omega) only [Zb, go_sem, seval];refine gT ?_ ?_ <;> intro h1 <;> simp (disch := omega) only [Sh.out h1, go_sem, seval]
  ·have hk2 : k < x.orders.length := by omega
   have q2 : (k : Int) < 63 := by omega
   simp (disch := omega) only [q2, go_sem, seval]
   cases ho : (nth x.orders k).off with
   | true =>
    have he : XW (fun i => !(nth x.orders i).off) (k + 1) = XW (fun i => !(nth x.orders i).off) k := by simp [XW, ho]
    simp (disch := omega) only [go_sem, seval];exact ⟨k + 1, by omega, by omega, Weak.mk (by simp (disch := omega) only [Zb, he, hps, go_sem, seval])⟩
   | false =>
    have he : ((XW (fun i => !(nth x.orders i).off) (k + 1) : Nat) : Int) = (XW (fun i => !(nth x.orders i).off) k : Int) + (pw k : Int) := by simp [XW, ho]
    simp (disch := omega) only [go_sem, seval];exact ⟨k + 1, by omega, by omega, Weak.mk (by simp (disch := omega) only [Zb, he, hps, go_sem, seval])⟩
  ·have : k = x.orders.length := by omega
   subst this
   rfl
theorem Zao (x : Inst) (hw : x.wf 1048576) (p : Pln) (hp : p.wf 1048576) (a : Ask) (hs : a.wf 1048576) : PC 7 [.p (ZG x), .p (ZaI p), .p (Zw4 a)] (.bool true) := by
 refine Za Tryz.func7 rfl ZBZ ?_;simp (disch := omega) only [Tryz.f7, go_sem, seval];refine (ZgU x hw p hp).useV fun b hb => ?_;simp (disch := omega) only [go_sem, seval];refine cD ?_ ?_ <;> intro h1 <;> simp (disch := omega) only [Sh.out h1, go_sem, seval]
 ·refine (Xn).use ?_;simp (disch := omega) only [go_sem, seval]
 ·obtain ⟨hx, g1, g2, g3⟩ := hb (by simpa using h1);have hR := Zp2 hx hw hp g2 g3
  have har : x.net.arcs.length <= 1048576 := by
   obtain ⟨⟨_, _, h, _⟩, _⟩ := hw;exact h
  refine Ku (ZbJ x p a.kind a.state a.n hx hR (by omega) (by omega) har hs.2.2) ?_;obtain ⟨f1, f2⟩ := Zde (x := x) (p := p) (kind := a.kind) (st := a.state) (n := a.n) hR.n
  generalize VR x p a.kind a.state a.n = r at *
  obtain ⟨S, T, E⟩ := r;simp only at f1 f2;simp (disch := omega) only [go_sem, seval];refine cD ?_ ?_ <;> intro h2 <;> simp (disch := omega) only [Sh.out h2, go_sem, seval]
  ·obtain ⟨e1, e2⟩ := f1 h2;rw [e1, e2];simp (disch := omega) only [go_sem, seval];refine (Xn).use ?_;simp (disch := omega) only [go_sem, seval]
  ·obtain ⟨hk, z1, z2⟩ := f2 (by omega);have ha := YD hk;have h60 : pw x.orders.length <= pw 4 := Z3 g1;have e60 : pw 4 = 16 := rfl;refine (W7 x.orders.length p hR.n hk hR.rl hR.b).use ?_;simp (disch := omega) only [go_sem, seval];refine cD ?_ ?_ <;> intro h3 <;> simp (disch := omega) only [Sh.out h3, go_sem, seval]
   ·obtain ⟨e1, e2⟩ := z1 (by omega);rw [e1, e2];simp (disch := omega) only [go_sem, seval];refine (Xn).use ?_;simp (disch := omega) only [go_sem, seval]
   ·obtain ⟨k1, k2, k3⟩ := z2 (by omega);simp only at k1 k2 k3;have hS : S < pw x.orders.length := Zh2 fun j hj => Yc ha (by rw [<- k1, Nat.testBit_or, hj]; rfl)
    have q0 : ¬ (S : Int) < 0 := by omega
    have hl1 := ZgZ S 63;have hl2 := ZgZ (Xe p.routes) 63
    generalize Xe p.routes = on at *
    simp (disch := omega) only [q0, k1, go_sem, seval];refine gT ?_ ?_ <;> intro h4 <;> simp (disch := omega) only [Sh.out h4, go_sem, seval]
    ·have hT := k2 h4;subst hT;simp (disch := omega) only [go_sem, seval];refine cD ?_ ?_ <;> intro h5 <;> simp (disch := omega) only [Sh.out h5, go_sem, seval]
     ·refine (Xn).use ?_;simp (disch := omega) only [go_sem, seval]
     ·have hm := k3 h5;refine Zi mixed (by kernel_rfl) (by kernel_rfl) ?_;simp (disch := omega) only [go_sem, seval];refine Zm (Vj S (by omega)) ?_;simp (disch := omega) only [go_sem, seval];refine Zm (Vj on (by omega)) ?_;simp (disch := omega) only [go_sem, seval];simp (disch := omega) only [hm, go_sem, seval];refine Zm (Xn) ?_;simp (disch := omega) only [go_sem, seval];rw [decide_eq_true hm]
      rfl
    ·refine cD ?_ ?_ <;> intro h5 <;> simp (disch := omega) only [Sh.out h5, go_sem, seval]
     ·refine (Xn).use ?_;simp (disch := omega) only [go_sem, seval]
     ·have hm := k3 h5;refine Zi mixed (by kernel_rfl) (by kernel_rfl) ?_;simp (disch := omega) only [go_sem, seval];refine Zm (Vj S (by omega)) ?_;simp (disch := omega) only [go_sem, seval];refine Zm (Vj on (by omega)) ?_;simp (disch := omega) only [go_sem, seval];simp (disch := omega) only [hm, go_sem, seval];refine Zm (Xn) ?_;simp (disch := omega) only [go_sem, seval];rw [decide_eq_true hm]
      rfl
theorem Ztl {a b : Nat} : (a ||| b) &&& b = b := Nat.eq_of_testBit_eq fun j => by
 rw [Nat.testBit_and, Nat.testBit_or]; cases a.testBit j <;> cases b.testBit j <;> rfl
theorem KK (x : Inst) (hw : x.wf 1048576) (p : Pln) (hp : p.wf 1048576) (s : Int) (hs : I64 s) : PC 6 [.p (ZG x), .p (ZaI p), .p (.int .i64 s)] (.bool true) := by
 refine Za Tryz.func6 rfl ZBT ?_;simp (disch := omega) only [Tryz.f6, go_sem, seval];refine (ZgU x hw p hp).useV fun b hb => ?_;simp (disch := omega) only [go_sem, seval];refine cD ?_ ?_ <;> intro h1 <;> simp (disch := omega) only [Sh.out h1, go_sem, seval]
 ·refine (Xn).use ?_;simp (disch := omega) only [go_sem, seval]
 ·obtain ⟨hx, g1, g2, g3⟩ := hb (by simpa using h1);have hR := Zp2 hx hw hp g2 g3;obtain ⟨v1, v2, v3⟩ := Zy0 (s := s) hR;refine Ku (V6 x p s hR hs) ?_
  by_cases hok : (Zbn x p && Za9 x.orders.length s) = true
  ·have e : rmF x p s = (rmP p (Z4 x p s), Z4 x p s, 0) := by rw [rmF, if_pos hok]
   rw [e] at v1 v2 v3 ⊢;simp only at v1 v2 v3;rw [Bool.and_eq_true] at hok;have hask := hok.1
   have ZD : 0 <= s /\ s < (pw x.orders.length : Nat) := by have := hok.2; simpa [Za9] using this
   rw [Zbn, Bool.and_eq_true] at hask;obtain ⟨hk, hu⟩ := hask;have ha := YD hk;have h16 : pw x.orders.length <= pw 4 := Z3 g1;have e4 : pw 4 = 16 := rfl;have hv := hR.val;obtain ⟨k1, k2, k3, k4⟩ := Zd0 hv hk (set := s.toNat);have k5 := fun hc => ZfI hx hk hc (set := s.toNat);obtain ⟨S, rfl⟩ : ∃ S : Nat, s = S := ⟨s.toNat, by omega⟩;have hgl : Z4 x p (S : Int) < pw x.orders.length := ZjO _ _ _ _;have hkl := Zje (g := Z4 x p (S : Int)) hk;have hur : XH p.unserved ||| Z4 x p (S : Int) < pw x.orders.length := Zlf (by omega) hu hgl;rw [show lvS x.orders.length x.before (Xe p.routes) (S : Int).toNat = Z4 x p (S : Int) from rfl] at k1 k2 k3 k4 k5
   rw [Int.toNat_natCast] at k3;have cp := W7 x.orders.length p hR.n hk hR.rl hR.b;have cq := W7 x.orders.length (rmP p (Z4 x p (S : Int))) hR.n hkl v1 v3;have haf : Xe (Xo (Z4 x p (S : Int)) p.routes) < pw x.orders.length := YD hkl;rw [show (rmP p (Z4 x p (S : Int))).routes = Xo (Z4 x p (S : Int)) p.routes from rfl] at cq;have hun : (rmP p (Z4 x p (S : Int))).unserved = Z6 ((XH p.unserved ||| Z4 x p (S : Int) : Nat) : Int) 63 := rfl;have hU := Zav (s := XH p.unserved ||| Z4 x p (S : Int)) (Nat.lt_of_lt_of_le hur (Z3 (by omega)))
   obtain ⟨um1, um2⟩ := Jl hur (by omega);have uasc := Yw ((XH p.unserved ||| Z4 x p (S : Int) : Nat) : Int) 63;rw [<- hun] at hU um1 um2 uasc
   generalize rmP p (Z4 x p (S : Int)) = Q at *
   generalize Z4 x p (S : Int) = G at *
   generalize Xe (Xo G p.routes) = A at *
   generalize Xe p.routes = on at *
   have hSo : S &&& on <= on := Nat.and_le_right;simp (disch := omega) only [go_sem, seval];refine (cp).use ?_;simp (disch := omega) only [go_sem, seval];refine (cq).use ?_;simp (disch := omega) only [go_sem, seval];simp (disch := omega) only [k1, k2, k3, go_sem, seval];refine Zf [3, 4, 7, 8, 11] (fun k : Nat => [(12, .p (.int .i64 (k : Int)))]) (fun _ => [Zb x, Zx p, Zx Q]) (fun k => k <= x.orders.length) (fun k => x.orders.length - k) 0 (by simp) (Weak.mk ?_) ?_
   ·simp (disch := omega) only [Zb, Zx, go_sem, seval]
   ·intro k hk';simp (disch := omega) only [Zb, Zx, go_sem, seval];refine cD ?_ ?_ <;> intro h2 <;> simp (disch := omega) only [Sh.out h2, go_sem, seval]
    ·have hb : A.testBit k = decide (A / pw k % 2 = 1) := ZbZ A k;refine gT ?_ ?_ <;> intro h3 <;> simp (disch := omega) only [Sh.out h3, go_sem, seval]
     ·rw [ZcI] at h3
      have hnd : ZK x.orders.length x.before (k : Int) < pw x.orders.length := by
       rw [<- WZ hv (by omega)];exact Yv _ _
      have k6 := k4 k (by omega) (by rw [hb]; simp; omega);refine (Zhe x (k : Int) hR.n hR.bl hv).use ?_;simp (disch := omega) only [go_sem, seval];simp (disch := omega) only [k6, go_sem, seval];exact ⟨k + 1, by omega, by omega, Weak.mk (by simp (disch := omega) only [Zb, Zx, go_sem, seval])⟩
     ·exact ⟨k + 1, by omega, by omega, Weak.mk (by simp (disch := omega) only [Zb, Zx, go_sem, seval])⟩
    ·refine Zf [3, 4, 7, 8, 11] (fun k : Nat => [(13, .p (.int .i64 (XH (Q.unserved.take k) : Nat))), (14, .p (.int .i64 (k : Int)))]) (fun _ => [Zb x, Zx p, Zx Q]) (fun k => k <= Q.unserved.length) (fun k => Q.unserved.length - k) 0 (by simp) (Weak.mk ?_) ?_
     ·simp (disch := omega) only [Zb, Zx, List.take_zero, XH, List.foldl_nil, go_sem, seval]
     ·intro k hk2
      have hlt : XH (Q.unserved.take k) < pw x.orders.length := YU fun i hi => by
       have := um2 i (List.mem_of_mem_take hi);omega
      simp (disch := omega) only [Zb, Zx, go_sem, seval];refine cD ?_ ?_ <;> intro h3 <;> simp (disch := omega) only [Sh.out h3, go_sem, seval]
      ·have hk3 : k < Q.unserved.length := by omega
       have hm := um2 _ (Zl hk3);have ht := UZ hk3
       have hprev : 0 < k -> nth Q.unserved (k - 1) < nth Q.unserved k := fun h => by
        rw [Ze hk3, Ze (by omega)]; exact List.pairwise_iff_getElem.1 uasc (k - 1) k (by omega) hk3 (by omega)
       obtain ⟨o, ho⟩ : ∃ o : Nat, nth Q.unserved k = o := ⟨_, (Int.toNat_of_nonneg hm.1).symm⟩
       have q1 : ¬ (o : Int) < 0 := by omega
       have q2 : ¬ (x.orders.length : Int) <= (o : Int) := by omega
       have hpo : pw o <= pw 4 := Z3 (by omega);rw [ho, Int.toNat_natCast] at ht
       by_cases hk0 : (0 : Int) < (k : Int)
       ·have q3 : ¬ (o : Int) <= nth Q.unserved (k - 1) := by have := hprev (by omega); omega
        refine Zi mixed (by kernel_rfl) (by kernel_rfl) ?_;simp (disch := omega) only [ho, q1, q2, q3, hk0, go_sem, seval];exact ⟨k + 1, by omega, by omega, Weak.mk (by simp (disch := omega) only [Zb, Zx, ho, ht, go_sem, seval])⟩
       ·refine Zi mixed (by kernel_rfl) (by kernel_rfl) ?_;simp (disch := omega) only [ho, q1, q2, hk0, go_sem, seval];exact ⟨k + 1, by omega, by omega, Weak.mk (by simp (disch := omega) only [Zb, Zx, ho, ht, go_sem, seval])⟩
      ·have hkl2 : k = Q.unserved.length := by omega
       subst hkl2;have hUG : (XH p.unserved ||| G) &&& G = G := Ztl;rw [List.take_length, hU]
       generalize XH p.unserved ||| G = U at *
       simp (disch := omega) only [hUG, go_sem, seval];refine (ZlQ x p hx hR.rl (by have := hR.ul; omega) hR.b).use ?_;simp (disch := omega) only [go_sem, seval];refine gF ?_ ?_ <;> intro h4 <;> simp (disch := omega) only [Sh.out h4, go_sem, seval]
       ·refine (Xn).use ?_;simp (disch := omega) only [go_sem, seval]
       ·obtain ⟨c1, c2⟩ := k5 (by omega);simp (disch := omega) only [c1, c2, go_sem, seval];refine (Zme x hR.n).use ?_;simp (disch := omega) only [go_sem, seval];refine (Xn).use ?_;simp (disch := omega) only [go_sem, seval]
  ·have e : rmF x p s = (Zd8, 0, 2) := by rw [rmF, if_neg hok]
   rw [e];simp (disch := omega) only [Zd8, go_sem, seval];refine (Xn).use ?_;simp (disch := omega) only [go_sem, seval]
end Go.Proofs.YtcdoglogglbemaaGreatDoor.K
