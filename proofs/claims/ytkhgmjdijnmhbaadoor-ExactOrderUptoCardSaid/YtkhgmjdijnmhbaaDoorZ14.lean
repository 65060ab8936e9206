/- Declarations that the closing texts need, part 14: joined by tools/slim.py. -/
import Derived.Test.YtkhgmjdijnmhbaaDoorZ13
import Derived.Shelf.SlSortCmp.NoneTotal
set_option linter.unusedVariables false
set_option linter.unusedSimpArgs false
namespace Go.AM
open Go.RowKit Go.Shelf Go.Lib Go.Sort Go.Proofs
theorem ZaA {W w' : World} {H' : List AM.Obj} {ι' : List (Option Nat)} (g : Good Jx [] [] W H' ι' w') : ∃ q os', w' = grow (W.drewN q) os' := by
 refine ⟨w'.drawn - W.drawn, w'.heap.extract W.heap.size w'.heap.size, ?_⟩
 have h1 : w'.heap = W.heap ++ w'.heap.extract W.heap.size w'.heap.size := by
  apply Array.ext_getElem?;intro i
  by_cases hi : i < W.heap.size
  ·rw [Array.getElem?_append_left hi];exact g.keep i hi (by simp)
  ·rw [Array.getElem?_append_right (by omega)];have := g.size;rw [Array.getElem?_extract]
   split
   ·congr 1; omega
   ·rw [Array.getElem?_eq_none (by omega)]
 have h2 : W.drawn <= w'.drawn := g.tape.2.resolve_right fun h => h;have h3 := g.tape.1;have h4 := g.os;have h5 := g.output
 cases w'
 simp only [grow, World.drewN] at *
 congr 1
 omega
def Zdx (c : Array Value) (k i : Nat) : List Value := (List.range k).map fun j => c.getD (i * k + j) undef
theorem VN (c k i) : (Zdx c k i).length = k := by simp [Zdx]
theorem WD {c k i j} (h : j < k) : (Zdx c k i)[j]! = c.getD (i * k + j) undef := by
 rw [List.getElem!_eq_getElem?_getD, Zdx, List.getElem?_map, List.getElem?_range h]; rfl
theorem ACalls.sortFunc {P : Program} {ρ : Ren} (L : SlLaysF0.n6 P ρ) (hg : Zl P (ρ.f 6)) (k : Nat) (aE : ∀ w, (isAgg (ρ.t 24)).run P w = .ok true w) (zE : ∀ w, (Go.sizeOf (ρ.t 24)).run P w = .ok k w)
    {β : Type} [Inhabited β] (f : β -> PV) (hf : ∀ x, ∃ cs, f x = .agg cs /\ cs.length = k /\ cs.all (·.one) = true) (cf : β -> β -> Int) (hO : SWO (ltOf cf)) (g : FuncId)
    (hcmp : ∀ x y, ACalls P g [.p (f x), .p (f y)] [] fun r H' => r = .p (.int .i64 (cf x y)) /\ H' = []) (xs : List β) (hlen : xs.length < 4611686018427387904) {H : List AM.Obj} {o : Nat} (hHo : H[o]? = some (.elems k (xs.map f))) :
    ACalls P (ρ.f 6) [.sl o 0 xs.length xs.length, .fn (.func g) [] []] H fun y H' => y = .tup [] /\ ∃ ys : List β, ys.Perm xs /\ ys.Pairwise (fun a b => ¬ cf b a < 0) /\ H' = H.set o (.elems k (ys.map f)) := by
  refine ⟨hg, fun F ι w vs hr hv => ?_⟩;obtain ⟨hv1, hv2⟩ := hv;have h0 := hv2 0 _ rfl;have h1 := hv2 1 _ rfl
  have hvs : vs = #[vs.getD 0 undef, vs.getD 1 undef] := by
    apply Array.ext
    · simpa using hv1
    · intro i h2 h3
      have : i = 0 \/ i = 1 := by simp at hv1; omega
      rcases this with rfl | rfl <;> simp [Array.getD, h2]
  rw [hvs];generalize vs.getD 0 undef = v0 at h0 ⊢;generalize vs.getD 1 undef = v1 at h1 ⊢;clear hvs hv1 hv2
  cases h1 with | fn _ _ _ a e hs ht _ _ =>
  have ea : a = #[] := Array.eq_empty_of_size_eq_zero (by simpa using hs);have ee : e = #[] := Array.eq_empty_of_size_eq_zero (by simpa using ht);subst ea; subst ee;generalize hL : xs.length = n at h0 hlen
  by_cases hz : n = 0
  · subst hz
    obtain rfl : xs = [] := List.length_eq_zero_iff.1 hL
    have e1 : H.set o (.elems k (([] : List β).map f)) = H := by
      apply List.ext_getElem?;intro i;rw [List.getElem?_set]
      split
      · rename_i hi; subst hi; rw [hHo]; simp [(List.getElem?_eq_some_iff.1 hHo).1]
      · rfl
    obtain ⟨ad, cap, rfl⟩ : ∃ ad cap, v0 = .slice ad 0 cap := by
      cases h0 with
      | slNil => exact ⟨_, _, rfl⟩
      | sl => exact ⟨_, _, rfl⟩
      | slD _ _ _ _ _ hd => rw [hHo] at hd; cases hd
      | slS _ _ _ _ _ S2 xs2 hd hne => rw [hHo] at hd; simp at hd; obtain ⟨_, rfl⟩ := hd; simp at hne
      | slC _ _ _ _ _ _ hd => rw [hHo] at hd; cases hd
    refine (AnyF.slices_SortFunc_none L ad cap _ w).mono ?_;rintro e w' ⟨rfl, rfl⟩;exact ⟨.tup [], _, ι, _, rfl, ⟨rfl, [], .refl _, .nil, e1.symm⟩, Good.refl hr, .tup [] #[] (by simp) (by simp)⟩
  have hn : 0 < n := by omega
  cases h0 with
  | slNil => omega
  | slD _ _ _ _ _ hd => rw [hHo] at hd; cases hd
  | slS _ _ _ _ _ S ys hd hlt => rw [hHo] at hd; simp at hd; obtain ⟨_, rfl⟩ := hd; simp at hlt; omega
  | slC _ _ _ _ _ _ hd => rw [hHo] at hd; cases hd
  | sl _ _ _ _ b S cap t ys c hι hH ht2 hw hcap hl hle hm =>
  rw [hHo] at hH;simp at hH;obtain ⟨rfl, rfl⟩ := hH;rcases hr.elm o k (xs.map f) hHo with ⟨e1, _⟩ | ⟨b2, c2, t2, cap2, e1, e2, e3, e4, e5, e6, e7⟩
  · rw [hι] at e1; cases e1
  rw [hι] at e1;simp at e1; subst e1;rw [hw] at e2;simp at e2;obtain ⟨rfl, rfl⟩ := e2;have hbs : b < w.heap.size := (hr.avo o b hι).2;have hbF : ¬ F b := (hr.avo o b hι).1
  -- an index, made one that there is
  let ix : Nat -> Nat := fun i => if i < n then i else 0
  have hix : ∀ i, ix i < n := fun i => by simp only [ix]; split <;> omega
  have hixe : ∀ i, i < n -> ix i = i := fun i hi => by simp only [ix]; rw [if_pos hi]
  let enc : Nat -> List Value := fun i => Zdx c k (ix i)
  have hk : ∀ x, (enc x).length = k := fun x => VN _ _ _
  -- one cell of an element
  have cell : ∀ i, i < n -> ∃ cs, f (nth xs i) = .agg cs /\ cs.length = k /\ ∀ (j : Nat) (y : PV), cs[j]? = some y -> y.one = true /\ RP (Own F ι) w y (c.getD (i * k + j) undef) := fun i hi => by
    obtain ⟨cs, q1, q2, q3⟩ := hf (nth xs i);refine ⟨cs, q1, q2, fun j y hj => ⟨List.all_eq_true.1 q3 y (List.mem_of_getElem? hj), ?_⟩⟩;refine e7 i (f (nth xs i)) j y ?_ (by rw [q1]; exact hj);rw [List.getElem?_map, List.getElem?_eq_getElem (by omega), Zk (by omega)]; rfl
  have one : ∀ x, ∀ v ∈ enc x, v.oneCell' = true := fun x v hv => by
    obtain ⟨j, hj, rfl⟩ := List.mem_iff_getElem.1 hv
    have hjk : j < k := by rw [hk] at hj; exact hj
    obtain ⟨cs, q1, q2, q3⟩ := cell (ix x) (hix x);have hg := q3 j (cs[j]'(by omega)) (by simp)
    have e9 : (enc x)[j] = c.getD (ix x * k + j) undef := by
      have := WD (c := c) (i := ix x) hjk;rw [List.getElem!_eq_getElem?_getD, List.getElem?_eq_getElem (by rw [VN]; exact hjk)] at this;exact this
    rw [e9];exact hg.2.oneCell hg.1
  let d : Array Nat := Array.range n
  have hd : d.size = n := by simp [d]
  let cf' : Nat -> Nat -> Int := fun i j => cf (nth xs (ix i)) (nth xs (ix j))
  have hO' : SWO (ltOf cf') := ⟨fun x => hO.irrefl _, fun x y z h1 h2 => hO.trans _ _ _ h1 h2, fun x y z h1 h2 => hO.ntrans _ _ _ h1 h2⟩
  have hsz : n * k <= c.size := by
    rw [e3]; exact Nat.mul_le_mul_right k (by simpa [hL] using e4)
  have hcell : ∀ j, j < c.size -> w.cell? ⟨b, j, none⟩ = some (c.getD j undef) := fun j hj => by
    simp [World.cell?, hw, hj]
  have hHolds : HoldsK enc k w b (0 * k) d := fun j hj => by
    have hj2 : j < n * k := by simpa [hd] using hj
    have k0 : 0 < k := by rcases Nat.eq_zero_or_pos k with h | h; · subst h; simp at hj2
                          · exact h
    rw [get_flatK enc k d j (by rw [hd]; exact hj2)];have hdj : j / k < n := Nat.div_lt_of_lt_mul (by rw [Nat.mul_comm]; exact hj2)
    have hde : d[j / k]! = j / k := by simp [d, hdj]
    rw [hde]
    have e9 : (enc (j / k))[j % k]! = c.getD j undef := by
      show (Zdx c k (ix (j / k)))[j % k]! = _
      rw [hixe _ hdj, WD (Nat.mod_lt _ k0), Nat.div_add_mod']
    rw [e9, Nat.zero_mul, Nat.zero_add];exact ⟨hcell j (by omega), by simp [World.frozen?, hw]⟩
  have hcmp' : CmpLays P g #[] enc k cf' b (0 * k) d.size w := fun m os dk hdk x y => by
    generalize hW : sortWorldK enc k w b (0 * k) m dk os = W
    have hKeep : Keeps (Own F ι) w Jx W := fun b' hb' hs' => by
      have hne : b' ≠ b := fun e => hb' (.inr (e ▸ List.mem_of_getElem? hι));refine ⟨fun h => h, ?_, ?_⟩
      · rw [<- hW]; simp [sortWorldK, grow, putRowK, putRow, mapBlock, ahead]; omega
      · rw [<- hW]
        simp only [sortWorldK, grow, putRowK, putRow, mapBlock, ahead];rw [Array.getElem?_append_left (by simpa using hs'), Array.getElem?_modify, if_neg (fun e => hne e.symm)]
        rfl
    have heW : Env Jx [] W := (hr.env.of (w' := W) (ι' := ι) (by rw [<- hW]; simp [sortWorldK, grow, putRowK, putRow, mapBlock, ahead]) (fun b' hb' hni => by
      have hne : b' ≠ b := fun e => hni (e ▸ List.mem_of_getElem? hι);rw [<- hW];simp only [sortWorldK, grow, putRowK, putRow, mapBlock, ahead];rw [Array.getElem?_append_left (by simpa using hb'), Array.getElem?_modify, if_neg (fun e => hne e.symm)]
      rfl) (fun _ _ h => h)).noth
    have arg : ∀ i, RV Jx [] [] W (.p (f (nth xs (ix i)))) (.agg (enc i).toArray) := fun i => by
      obtain ⟨cs, q1, q2, q3⟩ := cell (ix i) (hix i);refine .p _ _ ?_;rw [q1]
      refine (RP.agg cs (enc i).toArray (by simp [hk, q2]) fun j y hj => ?_ : RP Jx W _ _).weaker fun b hb => by
        rcases hb with hb | hb
        · exact hb
        · simp at hb
      have hjk : j < k := by rw [<- q2]; exact (List.getElem?_eq_some_iff.1 hj).1
      have e9 : (enc i).toArray.getD j undef = c.getD (ix i * k + j) undef := by
        have := WD (c := c) (i := ix i) hjk;rw [List.getElem!_eq_getElem?_getD, List.getElem?_eq_getElem (by rw [VN]; exact hjk)] at this;simp only [Array.getD_eq_getD_getElem?, List.getElem?_toArray];rw [List.getElem?_eq_getElem (by rw [hk]; exact hjk), Option.getD_some];rw [Option.getD_some] at this;simpa only [Array.getD_eq_getD_getElem?] using this
      rw [e9];exact (q3 j y hj).2.ext hKeep
    refine ((hcmp (nth xs (ix x)) (nth xs (ix y))).2 Jx [] W _ (Q7 heW) ⟨rfl, fun j q hj => ?_⟩).mono ?_
    · cases j with
      | zero => simp at hj; subst hj; exact arg x
      | succ j => cases j with
        | zero => simp at hj; subst hj; exact arg y
        | succ j => simp at hj
    · rintro e' w' ⟨x', H', ι', v, rfl, ⟨rfl, rfl⟩, gd, rv⟩
      cases rv with | p _ _ rp =>
      rw [rp.int_inv];exact ⟨rfl, ZaA gd⟩
  have eg := (hcmp default default).1;have main := AnyQ.slices_SortFunc L k aE zE enc hk one cf' hO' g #[] b (0 * k) cap d w (fun args w => eg args w) hcmp' hHolds hbs (by rw [hd]; exact hlen);rw [hd] at main;refine main.mono ?_;rintro e' w' ⟨rfl, d', m, os, hp, hso, rfl⟩;obtain ⟨p1, _, p3⟩ := hp;rw [hd] at p1
  have hperm : d'.toList.Perm (List.range n) := by
    have e8 : (d'.extract 0 n).toList = d'.toList := by rw [<- p1]; simp
    have e9 : (d.extract 0 n).toList = List.range n := by
      have : d.extract 0 n = d := by rw [<- hd]; simp
      rw [this]; simp [d]
    rw [e8, e9] at p3; exact p3
  have hlt : ∀ i ∈ d'.toList, i < n := fun i hi => by simpa using hperm.mem_iff.1 hi
  have hlt2 : ∀ i, i < n -> d'.toList[i]?.isSome = true := fun i hi => by simp [p1, hi]
  have hget : ∀ i (hi : i < n), d'[i]! = d'.toList[i]'(by simp [p1, hi]) := fun i hi => by
    rw [getElem!_pos d' i (by omega)]; simp
  let ys : List β := d'.toList.map (nth xs)
  have hyl : ys.length = n := by simp [ys, p1]
  have hys : ∀ i (hi : i < n), ys[i]'(by omega) = nth xs d'[i]! := fun i hi => by
    simp only [ys, List.getElem_map]; rw [hget i hi]
  have hdl : ∀ i, i < n -> d'[i]! < n := fun i hi => by rw [hget i hi]; exact hlt _ (List.getElem_mem _)
  have yperm : ys.Perm xs := by
    have h9 : (List.range n).map (nth xs) = xs := by
      refine List.ext_getElem (by simp [hL]) fun i h1 h2 => ?_;simp only [List.getElem_map, List.getElem_range];rw [Zk h2]
    have := hperm.map (nth xs);rw [h9] at this; exact this
  have ysort : ys.Pairwise fun a b => ¬ cf b a < 0 := by
    rw [List.pairwise_iff_getElem];intro i j hi hj hij;rw [hys i (by omega), hys j (by omega)];have h9 := hso i j (Nat.zero_le _) hij (by omega);simp only [ltOf, cf', decide_eq_false_iff_not] at h9;rwa [hixe _ (hdl j (by omega)), hixe _ (hdl i (by omega))] at h9
  let c' : Array Value := putCells id (0 * k) (flatK enc k d') c
  have hcs : c'.size = c.size := by simp [c', putCells]
  have hat : (sortWorldK enc k w b (0 * k) m d' os).heap[b]? = some (.cells c' t (0, 0)) := by
    simp only [sortWorldK, grow, putRowK, putRow, mapBlock, ahead];rw [Array.getElem?_append_left (by simpa using hbs), Array.getElem?_modify, if_pos rfl]
    show Option.map _ w.heap[b]? = _
    rw [hw]; rfl
  have hoth : ∀ q, q < w.heap.size -> q ≠ b -> (sortWorldK enc k w b (0 * k) m d' os).heap[q]? = w.heap[q]? := fun q hq hne => by
    simp only [sortWorldK, grow, putRowK, putRow, mapBlock, ahead];rw [Array.getElem?_append_left (by simpa using hq), Array.getElem?_modify, if_neg (fun e => hne e.symm)]
    rfl
  have hc' : ∀ i j, i < n -> j < k -> c'.getD (i * k + j) undef = c.getD (d'[i]! * k + j) undef := fun i j hi hj => by
    have hb1 : i * k + j < n * k := by
      have := Nat.mul_le_mul_right k (show i + 1 <= n from hi);rw [Nat.add_mul, Nat.one_mul] at this; omega
    have e8 : (flatK enc k d')[i * k + j]! = c.getD (d'[i]! * k + j) undef := by
      rw [get_flatK enc k d' _ (by rw [p1]; exact hb1)]
      have q1 : (i * k + j) / k = i := by rw [Nat.mul_comm, Nat.mul_add_div (by omega), Nat.div_eq_of_lt hj]; omega
      have q2 : (i * k + j) % k = j := by rw [Nat.mul_comm, Nat.mul_add_mod, Nat.mod_eq_of_lt hj]
      rw [q1, q2]
      show (Zdx c k (ix d'[i]!))[j]! = _
      rw [WD hj, hixe _ (hdl i hi)]
    have e9 : c'[i * k + j]? = some ((flatK enc k d')[i * k + j]!) := by
      simp only [c', putCells, Array.getElem?_mapIdx];rw [Array.getElem?_eq_getElem (by omega)];simp only [Option.map_some, Nat.zero_mul, Nat.zero_le, true_and, Nat.zero_add, size_flatK, p1, hb1, if_true, Nat.sub_zero, id]
    rw [Array.getD_eq_getD_getElem?, e9, Option.getD_some, e8]
  have good := ZW (w' := sortWorldK enc k w b (0 * k) m d' os) (c := c') (t := t) (xs' := ys.map f) (cap := cap2) (b' := b) hr (o := o) (S := k) (xs := xs.map f) hHo rfl (Tp.of rfl (by simp [sortWorldK, grow, putRowK, putRow, mapBlock, ahead])) rfl
    (fun c0 t0 h => by rw [hw] at h; simp at h; obtain ⟨rfl, rfl⟩ := h; exact ⟨rfl, hcs⟩) (by simp [sortWorldK, grow, putRowK, putRow, mapBlock, ahead]) hat hoth (.inl ⟨hι, .inl ⟨by simp [hyl, hL], fun c0 t0 h => by rw [hw] at h; simp at h; obtain ⟨rfl, rfl⟩ := h; exact ⟨rfl, hcs⟩⟩⟩)
    (by rw [hcs]; exact e3) (by simp only [List.length_map, hyl]; simpa [hL] using e4) e5
    (fun i x hi => by
      rw [List.getElem?_map, Option.map_eq_some_iff] at hi;obtain ⟨y, _, rfl⟩ := hi;obtain ⟨cs, q1, q2, _⟩ := hf y
      rw [q1]; exact q2)
    (fun i x j y hi hj => by
      rw [List.getElem?_map, Option.map_eq_some_iff] at hi;obtain ⟨z, hz, rfl⟩ := hi
      have hin : i < n := by have := (List.getElem?_eq_some_iff.1 hz).1; omega
      have e8 : z = nth xs d'[i]! := by
        obtain ⟨h9, h10⟩ := List.getElem?_eq_some_iff.1 hz;rw [<- h10]; exact hys i hin
      obtain ⟨cs, q1, q2, q3⟩ := cell _ (hdl i hin);rw [e8, q1] at hj
      have hjk : j < k := by rw [<- q2]; exact (List.getElem?_eq_some_iff.1 hj).1
      rw [hc' i j hin hjk]
      exact (q3 j y hj).2)
  have ZH : ι.set o (some b) = ι := by
    refine List.ext_getElem? fun i => ?_;rw [List.getElem?_set]
    split
    · rename_i e; subst e
      have := (List.getElem?_eq_some_iff.1 hι).1;rw [if_pos this, hι]
    · rfl
  rw [ZH] at good;exact ⟨.tup [], _, ι, .tuple #[], rfl, ⟨rfl, ys, yperm, ysort, rfl⟩, good, .tup [] #[] rfl (fun j c hj => by simp at hj)⟩
end Go.AM
set_option linter.unusedVariables false
set_option linter.unusedSimpArgs false
namespace Go.Proofs.YtkhgmjdijnmhbaaDoor.K
open Go Go.AM Go.Proofs
set_option maxRecDepth 60000
set_option maxHeartbeats 8000000
theorem Kf {α : Type} [Inhabited α] {l : List α} {i j : Nat} {a : α} (h : i < l.length) : nth (l.set i a) j = if i = j then a else nth l j := by
 unfold nth
 by_cases e : i = j
 ·subst e; simp [h]
 ·simp [e, List.getD_eq_getElem?_getD, List.getElem?_set_ne e]
theorem U0 {α : Type} [Inhabited α] {l : List α} {j : Nat} {a : α} (h : j < l.length) : nth (l ++ [a]) j = nth l j := by
 unfold nth;simp [List.getD_eq_getElem?_getD, List.getElem?_append_left h]
theorem Qr {α : Type} [Inhabited α] {l : List α} {a : α} : nth (l ++ [a]) l.length = a := by
 unfold nth;simp [List.getD_eq_getElem?_getD]
def cfK (a b : Col) : Int := orI [UR a.typ b.typ, UR a.set b.set]
theorem QR {a b : Int} : UR a b < 0 ↔ a < b := by unfold UR; split <;> (try split) <;> omega
theorem QT {a b : Int} : UR a b = 0 ↔ a = b := by unfold UR; split <;> (try split) <;> omega
theorem YD {a b : Col} : cfK a b < 0 ↔ a.typ < b.typ \/ (a.typ = b.typ /\ a.set < b.set) := by
 unfold cfK;rw [Kp]
 split
 ·rename_i h; rw [QT] at h; rw [QR]; omega
 ·rename_i h; rw [QT] at h; rw [QR]; omega
theorem Zcv : Go.Sort.SWO (ltOf cfK) where
 irrefl x := by simp only [ltOf, decide_eq_false_iff_not, YD]; omega
 trans x y z h1 h2 := by simp only [ltOf, decide_eq_true_eq, YD] at *; omega
 ntrans x y z h1 h2 := by simp only [ltOf, decide_eq_false_iff_not, YD] at *; omega
theorem Qs (a b : Col) : PC 66 [.p (Xq a), .p (Xq b)] (.int .i64 (cfK a b)) := by
 refine Zb Tryd.func66 rfl Zj6 ?_;simp (disch := omega) only [Tryd.f66, go_sem, seval];refine Zo mixed (by kernel_rfl) (by kernel_rfl) ?_;simp (disch := omega) only [go_sem, seval];refine Zw (Zax a.typ b.typ) ?_;simp (disch := omega) only [go_sem, seval];refine Zw (Zax a.set b.set) ?_;simp (disch := omega) only [go_sem, seval];refine Zw (Zlo [UR a.typ b.typ, UR a.set b.set] false (by simp)) ?_;simp (disch := omega) only [go_sem, seval]
 rfl
theorem ZcJ (xs : List Col) (hl : xs.length <= 1048576) {H : List AM.Obj} {o : Nat} (hH : H[o]? = some (.elems 7 (xs.map Xq))) :
  ACalls Tryd.prog 24 [.sl o 0 xs.length xs.length, .fn (.func 66) [] []] H fun y H' => y = .tup [] /\ ∃ ys : List Col, ys.Perm xs /\ ys.Pairwise (fun a b => ¬ cfK b a < 0) /\ H' = H.set o (.elems 7 (ys.map Xq)) :=
 ACalls.sortFunc QB Zf1 7 Tryd.isAgg51 Tryd.sizeOf51 Xq (fun x => ⟨_, rfl, rfl, rfl⟩) cfK Zcv 66 Qs xs (by omega) hH
def kd (c : Col) : Kd := ⟨c.typ, c.set⟩
def Bst (l : List Col) (k : Nat) (d : Col) : Prop := ∃ j, j < k /\ nth l j = d /\ ∀ i, i < k -> kd (nth l i) = kd d -> d.price < (nth l i).price \/ (d.price = (nth l i).price /\ j <= i)
structure Chp (l : List Col) (k : Nat) (m : List (Kd × Int)) (out : List Col) : Prop where
 len : out.length <= k
 at1 : ∀ i, i < out.length -> mq m (kd (nth out i)) = some (i : Int)
 at2 : ∀ q v, mq m q = some v -> ∃ i, i < out.length /\ v = i /\ kd (nth out i) = q
 bst : ∀ i, i < out.length -> Bst l k (nth out i)
 all : ∀ j, j < k -> ∃ i, i < out.length /\ kd (nth out i) = kd (nth l j)
theorem Zaq (l : List Col) : Chp l 0 [] [] := ⟨by simp, fun i h => by simp at h, fun q v h => by simp [mq] at h, fun i h => by simp at h, fun j h => by simp at h⟩
theorem Zdt {l : List Col} {k : Nat} {m m' : List (Kd × Int)} {out : List Col} (h : Chp l k m out) (hn : mq m (kd (nth l k)) = none) (hm : ∀ q, mq m' q = if q = kd (nth l k) then some (out.length : Int) else mq m q) : Chp l (k + 1) m' (out ++ [nth l k]) := by
 have hno : ∀ i, i < out.length -> kd (nth out i) ≠ kd (nth l k) := fun i hi e => by
  have := h.at1 i hi;rw [e, hn] at this; cases this
 have split : ∀ i, i < (out ++ [nth l k]).length -> (i < out.length /\ nth (out ++ [nth l k]) i = nth out i) \/ (i = out.length /\ nth (out ++ [nth l k]) i = nth l k) := fun i hi => by
  simp only [List.length_append, List.length_cons, List.length_nil] at hi;rcases Nat.lt_or_ge i out.length with h1 | h1
  ·exact .inl ⟨h1, U0 h1⟩
  ·obtain rfl : i = out.length := by omega
   exact .inr ⟨rfl, Qr⟩
 refine ⟨by have := h.len; simp; omega, fun i hi => ?_, fun q v hq => ?_, fun i hi => ?_, fun j hj => ?_⟩
 ·rcases split i hi with ⟨h1, e⟩ | ⟨rfl, e⟩
  ·rw [e, hm, if_neg (hno i h1)]; exact h.at1 i h1
  ·rw [e, hm, if_pos rfl]
 ·rw [hm] at hq
  split at hq
  ·rename_i e;simp only [Option.some.injEq] at hq;exact ⟨out.length, by simp, hq.symm, by rw [Qr, e]⟩
  ·obtain ⟨i, h1, h2, h3⟩ := h.at2 q v hq;exact ⟨i, by simp; omega, h2, by rw [U0 h1]; exact h3⟩
 ·rcases split i hi with ⟨h1, e⟩ | ⟨rfl, e⟩
  ·rw [e];obtain ⟨j, h2, h3, h4⟩ := h.bst i h1;refine ⟨j, by omega, h3, fun p hp he => ?_⟩;rcases Nat.lt_succ_iff_lt_or_eq.1 hp with h5 | rfl
   ·exact h4 p h5 he
   ·exact absurd he.symm (hno i h1)
  ·rw [e];refine ⟨k, by omega, rfl, fun p hp he => ?_⟩;rcases Nat.lt_succ_iff_lt_or_eq.1 hp with h5 | rfl
   ·obtain ⟨i, h6, h7⟩ := h.all p h5;exact absurd (h7.trans he) (hno i h6)
   ·exact .inr ⟨rfl, Nat.le_refl _⟩
 ·rcases Nat.lt_succ_iff_lt_or_eq.1 hj with h5 | rfl
  ·obtain ⟨i, h6, h7⟩ := h.all j h5;exact ⟨i, by simp; omega, by rw [U0 h6]; exact h7⟩
  ·exact ⟨out.length, by simp, by rw [Qr]⟩
theorem Zdf {l : List Col} {k : Nat} {m : List (Kd × Int)} {out : List Col} {i : Nat} (h : Chp l k m out) (hi : i < out.length) (hk : kd (nth out i) = kd (nth l k)) : Chp l (k + 1) m (if (nth l k).price < (nth out i).price then out.set i (nth l k) else out) := by
 have hun : ∀ j, j < out.length -> kd (nth out j) = kd (nth l k) -> j = i := fun j hj e => by
  have h1 := h.at1 j hj;have h2 := h.at1 i hi;rw [e] at h1;rw [hk, h1] at h2
  have h3 : (j : Int) = i := by simpa using h2
  omega
 split
 ·rename_i hp
  have key : ∀ j, kd (nth (out.set i (nth l k)) j) = kd (nth out j) := fun j => by
   rw [Kf hi]
   split
   ·rename_i e; subst e; exact hk.symm
   ·rfl
  refine ⟨by have := h.len; simp; omega, fun j hj => ?_, fun q v hq => ?_, fun j hj => ?_, fun j hj => ?_⟩
  ·rw [key]; exact h.at1 j (by simpa using hj)
  ·obtain ⟨j, h1, h2, h3⟩ := h.at2 q v hq;exact ⟨j, by simpa using h1, h2, by rw [key]; exact h3⟩
  ·simp only [List.length_set] at hj;rw [Kf hi]
   split
   ·rename_i e; subst e;refine ⟨k, by omega, rfl, fun p hp2 he => ?_⟩;rcases Nat.lt_succ_iff_lt_or_eq.1 hp2 with h5 | rfl
    ·obtain ⟨j, h6, h7, h8⟩ := h.bst i hi;have := h8 p h5 (he.trans hk.symm)
     left; omega
    ·exact .inr ⟨rfl, Nat.le_refl _⟩
   ·rename_i e;obtain ⟨p, h2, h3, h4⟩ := h.bst j hj;refine ⟨p, by omega, h3, fun p' hp' he => ?_⟩;rcases Nat.lt_succ_iff_lt_or_eq.1 hp' with h5 | rfl
    ·exact h4 p' h5 he
    ·exact absurd (hun j hj he.symm).symm e
  ·rcases Nat.lt_succ_iff_lt_or_eq.1 hj with h5 | rfl
   ·obtain ⟨p, h6, h7⟩ := h.all j h5;exact ⟨p, by simpa using h6, by rw [key]; exact h7⟩
   ·exact ⟨i, by simpa using hi, by rw [key]; exact hk⟩
 ·rename_i hp;refine ⟨by have := h.len; omega, h.at1, h.at2, fun j hj => ?_, fun j hj => ?_⟩
  ·obtain ⟨p, h2, h3, h4⟩ := h.bst j hj;refine ⟨p, by omega, h3, fun p' hp' he => ?_⟩;rcases Nat.lt_succ_iff_lt_or_eq.1 hp' with h5 | rfl
   ·exact h4 p' h5 he
   ·have := hun j hj he.symm;subst this;omega
  ·rcases Nat.lt_succ_iff_lt_or_eq.1 hj with h5 | rfl
   ·exact h.all j h5
   ·exact ⟨i, hi, hk⟩
structure Cheap (l ys : List Col) : Prop where
 asc : ys.Pairwise fun a b => cfK a b < 0
 bst : ∀ d ∈ ys, Bst l l.length d
 all : ∀ c ∈ l, ∃ d ∈ ys, kd d = kd c
theorem Zds {l : List Col} {m : List (Kd × Int)} {out ys : List Col} (h : Chp l l.length m out) (hp : ys.Perm out) (ha : ys.Pairwise fun a b => ¬ cfK b a < 0) : Cheap l ys := by
 have hnd : out.Pairwise fun a b => kd a ≠ kd b := by
  rw [List.pairwise_iff_getElem];intro i j hi hj hij e;have h1 := h.at1 i hi;have h2 := h.at1 j hj;rw [Zk hi] at h1;rw [Zk hj] at h2;rw [e, h2] at h1;simp at h1; omega
 have hnd2 : ys.Pairwise fun a b => kd a ≠ kd b := (hp.pairwise_iff fun h e => h e.symm).2 hnd;refine ⟨(hnd2.and ha).imp fun {a b} hh => ?_, fun d hd => ?_, fun c hc => ?_⟩
 ·rw [YD] at hh ⊢;have : ¬ (a.typ = b.typ /\ a.set = b.set) := fun e => hh.1 (by simp [kd, e.1, e.2]);omega
 ·obtain ⟨i, hi, rfl⟩ := List.mem_iff_getElem.1 (hp.mem_iff.1 hd);rw [<- Zk hi];exact h.bst i hi
 ·obtain ⟨j, hj, rfl⟩ := List.mem_iff_getElem.1 hc;obtain ⟨i, hi, e⟩ := h.all j hj;exact ⟨nth out i, hp.mem_iff.2 (X2 hi), by rw [e, Zk hj]⟩
theorem Ja (l : List Col) (c : Bool) (hl : l.length <= 8192) : ACalls Tryd.prog 40 [.p (.list c (l.map Xq))] [] fun y H' => ∃ ys : List Col, (Cheap l ys /\ ys.length <= l.length) /\ y = .p (.list false (ys.map Xq)) /\ H' = [] := by
 refine Zn [15] Tryd.func40 rfl Zkp ?_;simp (disch := omega) only [Tryd.f40, go_sem, seval];refine Zp [3, 11, 12] (fun q : Nat × List (Kd × Int) × List Col => [(4, .sl 1 0 q.2.2.length q.2.2.length), (13, .p (.int .i64 q.1))]) (fun q => [.map (q.2.1.map (eKI eKd)), .elems 7 (q.2.2.map Xq)]) (fun q => q.1 <= l.length /\ Chp l q.1 q.2.1 q.2.2) (fun q => l.length - q.1) (0, [], []) ⟨by simp, Zaq l⟩ (Weak.ofNil 4 7 (by simp (disch := omega) only [go_sem, seval]) (by simp) (Weak.mk ?_)) ?_
 ·simp (disch := omega) only [List.map_nil, List.length_nil, go_sem, seval]
 ·rintro ⟨k, m, out⟩ ⟨hk, hC⟩;simp only at hk hC;have hol := hC.len;simp (disch := omega) only [go_sem, seval];refine cD ?_ ?_ <;> intro h1 <;> simp (disch := omega) only [Sh.out h1, go_sem, seval]
  ·have hk2 : k < l.length := by omega
   refine Za5 (l := m) (k := kd (nth l k)) Zb0 (fun _ _ => trivial) trivial (by rfl) ?_;simp (disch := omega) only [go_sem, seval]
   cases hq : mq m (kd (nth l k)) with
   | none =>
    simp (disch := omega) only [hq, Option.isSome_none, Option.getD_none, go_sem, seval];refine UY (l := m) (k := kd (nth l k)) Zb0 (fun _ _ => trivial) trivial (by rfl) fun m' hm' _ => ?_;simp (disch := omega) only [List.set_cons_zero, go_sem, seval];exact ⟨(k + 1, m', out ++ [nth l k]), ⟨by simp only; omega, Zdt hC hq hm'⟩, by simp only; omega, Weak.mk (by simp (disch := omega) only [List.map_append, List.map_cons, List.map_nil, List.length_append, List.length_cons, List.length_nil, Nat.zero_add, go_sem, seval])⟩
   | some v =>
    obtain ⟨i, hi, rfl, hkd⟩ := hC.at2 _ _ hq;have hold := Zdf hC hi hkd;simp (disch := omega) only [hq, Option.isSome_some, Option.getD_some, go_sem, seval];refine Zo mixed (by kernel_rfl) (by kernel_rfl) ?_;simp (disch := first | omega | (simp only [List.length_cons, List.length_nil, List.length_append, List.length_map, List.length_take, List.length_drop] <;> omega)) only [WR hi, hi, go_sem, seval];refine cD ?_ ?_ <;> intro h2 <;> simp (disch := omega) only [Sh.out h2, go_sem, seval]
    ·rw [if_pos h2] at hold;simp (disch := first | omega | (simp only [List.length_cons, List.length_nil, List.length_append, List.length_map, List.length_take, List.length_drop] <;> omega)) only [WR hi, hi, go_sem, seval];exact ⟨(k + 1, m, out.set i (nth l k)), ⟨by simp only; omega, hold⟩, by simp only; omega, Weak.mk (by simp (disch := omega) only [List.map_set, List.length_set, go_sem, seval])⟩
    ·rw [if_neg h2] at hold;exact ⟨(k + 1, m, out), ⟨by simp only; omega, hold⟩, by simp only; omega, wk⟩
  ·have hkl : k = l.length := by omega
   subst hkl;refine (ZcJ out (by omega) (H := _) (o := 1) rfl).mono ?_;rintro y H' ⟨rfl, ys, g1, g2, rfl⟩;have hyl : ys.length = out.length := g1.length_eq;simp (disch := omega) only [List.set_cons_succ, List.set_cons_zero, go_sem, seval];rw [<- hyl];refine Zq (Weak.fz (o := 1) (by rfl)) ?_;refine Za [] _ _ _ _ ?_;simp (disch := omega) only [List.map_cons, List.map_nil, List.set_cons_succ, List.set_cons_zero, go_sem, seval];exact ⟨.p (.list false (ys.map Xq)), [], wk, ys, ⟨Zds hC g1 g2, by omega⟩, rfl, rfl⟩
def Z4 (x : Inst) : Nat -> Nat
 | 0 => 0
 | i + 1 => if (nth x.orders i).off = true then Z4 x i else Z4 x i ||| pw i
theorem QY (x : Inst) : ∀ i, Z4 x i < 2 ^ i
 | 0 => by simp [Z4]
 | i + 1 => by
  have := QY x i
  have h : 2 ^ (i + 1) = 2 * 2 ^ i := by rw [Nat.pow_succ, Nat.mul_comm]
  rw [Z4]
  split
  ·omega
  ·exact Nat.or_lt_two_pow (by omega) (by rw [pw]; omega)
theorem WM (x : Inst) : ∀ (n i : Nat), (Z4 x n).testBit i = (decide (i < n) && !(nth x.orders i).off)
 | 0, i => by simp [Z4]
 | n + 1, i => by
  rw [Z4]
  split
  ·rename_i h;rw [WM x n i]
   by_cases e : i = n
   ·subst e; simp [h]
   ·have : decide (i < n + 1) = decide (i < n) := by simp; omega
    rw [this]
  ·rename_i h;rw [Nat.testBit_or, WM x n i, pw, Nat.testBit_two_pow]
   by_cases e : i = n
   ·subst e; simp at h; simp [h]
   ·have e1 : decide (i < n + 1) = decide (i < n) := by simp; omega
    have e2 : decide (n = i) = false := by simp; omega
    rw [e1, e2, Bool.or_false]
theorem Zgz (o : Ord) : PC 64 [.p (US o)] (.bool true) := by
 refine Zb Tryd.func64 rfl Zkm ?_;simp (disch := omega) only [Tryd.f64, go_sem, seval]
theorem ZeC (x : Inst) (hn : x.orders.length <= 10) : PC 63 [.p (XY x), .fn (.func 64) [] []] (.int .i64 ((Z4 x x.orders.length : Nat) : Int)) := by
 refine Zn [] Tryd.func63 rfl Zj4 ?_;simp (disch := omega) only [Tryd.f63, go_sem, seval];refine Zp [1, 9, 10] (fun k : Nat => [(5, .p (.int .i64 ((Z4 x k : Nat) : Int))), (11, .p (.int .i64 k))]) (fun _ => [ZU x]) (fun k => k <= x.orders.length) (fun k => x.orders.length - k) 0 (by simp) (Weak.mk ?_) ?_
 ·have h00 : ((Z4 x 0 : Nat) : Int) = 0 := rfl;simp (disch := omega) only [h00, ZU, go_sem, seval]
 ·intro k hk;simp (disch := omega) only [ZU, go_sem, seval];refine cD ?_ ?_ <;> intro h1 <;> simp (disch := omega) only [Sh.out h1, go_sem, seval]
  ·have hk2 : k < x.orders.length := by omega
   have hm := QY x k;have hp : 2 ^ k <= 2 ^ 10 := Nat.pow_le_pow_right (by omega) (by omega);have hpw : pw k <= 1024 := hp;refine gT ?_ ?_ <;> intro h2 <;> simp (disch := omega) only [Sh.out h2, go_sem, seval]
   ·refine (Zgz (nth x.orders k)).use ?_;simp (disch := omega) only [go_sem, seval]
    have ho : (nth x.orders k).off = false := by simpa using h2
    exact ⟨k + 1, by omega, by omega, Weak.mk (by simp (disch := omega) only [Z4, ho, Bool.false_eq_true, if_false, ZU, go_sem, seval])⟩
   ·have ho : (nth x.orders k).off = true := by simpa using h2
    exact ⟨k + 1, by omega, by omega, Weak.mk (by simp (disch := omega) only [Z4, ho, if_true, ZU, go_sem, seval])⟩
  ·have hkl : k = x.orders.length := by omega
   subst hkl;exact we
theorem ZeG (x : Inst) (hn : x.orders.length <= 10) : PC 38 [.p (XY x)] (.int .i64 ((Z4 x x.orders.length : Nat) : Int)) := by
 refine Zb Tryd.func38 rfl ZkJ ?_;simp (disch := omega) only [Tryd.f38, go_sem, seval];refine (ZeC x hn).use ?_;simp (disch := omega) only [go_sem, seval]
def Zkd (S M : Nat) : Bool := (List.range 63).all fun i => !S.testBit i || M.testBit i
theorem Zbx (S M : Nat) (hS : S < 9223372036854775808) : PC 65 [.p (.int .i64 (S : Int)), .p (.int .i64 (M : Int))] (.bool (Zkd S M)) := by
 refine Zb Tryd.func65 rfl ZjN ?_;simp (disch := omega) only [Tryd.f65, go_sem, seval];have hb := Qq (S := S) (M := M) hS
 have hd : decide (IntKind.i64.wrap ((BitVec.ofInt 64 (S : Int) &&& ~~~BitVec.ofInt 64 (M : Int)).toNat : Int) = 0) = ((List.range 63).all fun i => !S.testBit i || M.testBit i) := by
  rw [Bool.eq_iff_iff];simp only [decide_eq_true_eq];exact hb
 exact congrArg (fun b => V.p (PV.bool b)) hd
def ZM (x : Inst) (c : Col) : Bool := decide (0 <= c.typ) && (decide (c.typ < x.types.length) && (decide (0 < c.set) && (Zkd c.set.toNat (Z4 x x.orders.length) && (decide (0 <= c.price) && decide (c.price <= 18014398509481984)))))
theorem ZcQ (x : Inst) (c : Col) (hs : c.set < 9223372036854775808) (ht : x.types.length <= 1048576) : PC 39 [.p (XY x), .p (Xq c), .p (.int .i64 ((Z4 x x.orders.length : Nat) : Int))] (.bool (ZM x c)) := by
 refine Zb Tryd.func39 rfl ZjQ ?_;simp (disch := omega) only [Tryd.f39, go_sem, seval];refine gT ?_ ?_ <;> intro h1 <;> simp (disch := omega) only [Sh.out h1, go_sem, seval]
 ·refine gT ?_ ?_ <;> intro h2 <;> simp (disch := omega) only [Sh.out h2, go_sem, seval]
  ·refine gT ?_ ?_ <;> intro h3 <;> simp (disch := omega) only [Sh.out h3, go_sem, seval]
   ·obtain ⟨S, hS⟩ : ∃ S : Nat, c.set = (S : Int) := ⟨c.set.toNat, by omega⟩
    have e1 : ZM x c = (Zkd S (Z4 x x.orders.length) && (decide (0 <= c.price) && decide (c.price <= 18014398509481984))) := by
     have h3' : 0 < (S : Int) := by omega
     simp only [ZM, h1, h2, hS, h3', decide_true, Bool.true_and, Int.toNat_natCast]
    rw [hS];refine (Zbx S (Z4 x x.orders.length) (by omega)).use ?_;simp (disch := omega) only [go_sem, seval];refine gT ?_ ?_ <;> intro h4 <;> simp (disch := omega) only [Sh.out h4, go_sem, seval]
    ·refine gT ?_ ?_ <;> intro h5 <;> simp (disch := omega) only [Sh.out h5, go_sem, seval]
     ·simp [e1, h4, h5]
     ·simp [e1, h5]
    ·simp [e1, h4]
   ·simp [ZM, h1, h2, h3]
  ·simp [ZM, h1, h2]
 ·simp [ZM, h1]
theorem Znh (n : Nat) (h0 : 0 < n) (h : n < 16) : PC 52 [.p (.int .u64 n)] (.int .i64 (tzN n)) := by
 refine Zb Tryd.func52 rfl ZjU ?_;simp (disch := omega) only [Tryd.f52, go_sem, seval];refine (ZeO n h0 h).use ?_;simp (disch := omega) only [go_sem, seval]
theorem QV (n : Nat) (h0 : 0 < n) (h : n < 16) : PC 28 [.p (.int .i64 n)] (.int .i64 (tzN n)) := by
 refine Zb Tryd.func28 rfl Zk5 ?_;simp (disch := omega) only [Tryd.f28, go_sem, seval];refine cD ?_ ?_ <;> intro h1 <;> simp (disch := omega) only [Sh.out h1, go_sem, seval]
 ·omega
 ·refine (Znh n h0 h).use ?_;simp (disch := omega) only [go_sem, seval]
def J3 (x : Inst) (i : Nat) : Int := if (YF x i).2 = 0 /\ (VW (YF x i).1).2 = 0 then (VW (YF x i).1).1 else -1
def Yw (ys : List Col) (i : Nat) : List Col := ys.filter fun c => decide (tzN c.set.toNat = (i : Int))
def XV (n : Nat) (ys : List Col) : List (List Col) := (List.range n).map (Yw ys)
theorem Kh {ys : List Col} {k i : Nat} (h : k < ys.length) : Yw (ys.take (k + 1)) i = if tzN (nth ys k).set.toNat = (i : Int) then Yw (ys.take k) i ++ [nth ys k] else Yw (ys.take k) i := by
 rw [List.take_succ_eq_append_getElem h, Yw, List.filter_append, <- Zk h]
 by_cases e : tzN (nth ys k).set.toNat = (i : Int)
 ·simp [e, Yw]
 ·simp [e, Yw]
theorem Zaz (i : Nat) : Yw [] i = [] := rfl
theorem Ws (ys : List Col) (k i : Nat) : (Yw (ys.take k) i).length <= ys.length := by
 refine Nat.le_trans (List.length_filter_le _ _) ?_;simp; omega
theorem Yr (ys) : XV 0 ys = [] := rfl
theorem Yp (ys) : XV 1 ys = [Yw ys 0] := rfl
theorem Yl (ys) : XV 2 ys = [Yw ys 0, Yw ys 1] := rfl
theorem Yn (ys) : XV 3 ys = [Yw ys 0, Yw ys 1, Yw ys 2] := rfl
theorem Ym (ys) : XV 4 ys = [Yw ys 0, Yw ys 1, Yw ys 2, Yw ys 3] := rfl
def YV : List (List Col) -> Nat -> List V
 | [], _ => []
 | p :: P, o => .sl o 0 p.length p.length :: YV P (o + 1)
def Y6 (P : List (List Col)) : List AM.Obj := P.map fun p => .elems 7 (p.map Xq)
theorem Kr {n0 : Nat} {fr : List V} {a b c : AM.Obj} (h0 : n0 <= 4) (n : Nat) : Weak n0 fr [a, b, c, .cells (List.replicate n (.p (.list true [])))] fr (a :: b :: c :: .cells (YV (List.replicate n []) 4) :: Y6 (List.replicate n [])) := by
 have hr : ∀ (k o : Nat), YV (List.replicate k []) o = (List.range k).map fun j => V.sl (o + j) 0 0 0 := fun k => by
  induction k with
  | zero => intro o; rfl
  | succ k ih =>
   intro o;rw [List.replicate_succ, YV, ih, List.range_succ_eq_map, List.map_cons, List.map_map];simp only [List.length_nil, Nat.add_zero, List.cons.injEq, true_and];apply List.map_congr_left;intro j _;simp only [Function.comp]
   congr 1; omega
 have key : ∀ k, k <= n -> Weak n0 fr [a, b, c, .cells (List.replicate n (.p (.list true [])))] fr (a :: b :: c :: .cells (((List.range k).map fun j => V.sl (4 + j) 0 0 0) ++ List.replicate (n - k) (.p (.list true []))) :: List.replicate k (.elems 7 [])) := fun k => by
  induction k with
  | zero => intro _; simpa using Weak.refl _ _ _
  | succ k ih =>
   intro hk
   have h1 := (ih (by omega)).trans (Weak.nilC (n0 := n0) (fr := fr) (o := 3) (j := k) 7 (by rfl) (by
    rw [List.getElem?_append_right (by simp)];simp only [List.length_map, List.length_range, Nat.sub_self]
    rw [List.getElem?_replicate, if_pos (by omega)]) (by simp; omega))
   have e1 : List.length (a :: b :: c :: AM.Obj.cells (((List.range k).map fun j => V.sl (4 + j) 0 0 0) ++ List.replicate (n - k) (.p (.list true []))) :: List.replicate k (AM.Obj.elems 7 [])) = 4 + k := by simp; omega
   have e2 : (((List.range k).map fun j => V.sl (4 + j) 0 0 0) ++ List.replicate (n - k) (V.p (.list true []))).set k (.sl (4 + k) 0 0 0) = ((List.range (k + 1)).map fun j => V.sl (4 + j) 0 0 0) ++ List.replicate (n - (k + 1)) (V.p (.list true [])) := by
    rw [List.set_append_right _ _ (by simp), show n - k = (n - (k + 1)) + 1 by omega, List.replicate_succ, List.range_succ, List.map_append];simp
   rw [e1, List.set_cons_succ, List.set_cons_succ, List.set_cons_succ, List.set_cons_zero, e2] at h1;simpa [List.replicate_succ'] using h1
 have := key n (Nat.le_refl _);rw [Nat.sub_self, List.replicate_zero, List.append_nil, <- hr] at this
 have e : Y6 (List.replicate n []) = List.replicate n (.elems 7 []) := by simp [Y6]
 rw [e]; exact this
def skF (x : Inst) (n : Nat) : List Int := (List.range n).map (J3 x)
def bgO (x : Inst) (m : Int) (f g : V) : AM.Obj := .cells [.p (.list x.net.places_c (x.net.places.map eS)), .p (.list x.net.arcs_c (x.net.arcs.map Jj)), .p (.list x.types_c (x.types.map QP)), .p (.list x.orders_c (x.orders.map US)), .p (.list x.apart_c (x.apart.map eP)), .p (.list x.before_c (x.before.map eP)), f, g, .mp 1, .p (.int .i64 m)]
theorem Y5 {x : Inst} {c : Col} (h : ZM x c = true) (hs : c.set < 9223372036854775808) : ∃ S : Nat, c.set = S /\ 0 < S /\ S < 2 ^ x.orders.length /\ ∀ i, S.testBit i = true -> i < x.orders.length /\ (nth x.orders i).off = false := by
 simp only [ZM, Bool.and_eq_true, decide_eq_true_eq] at h;obtain ⟨_, _, h3, h4, _⟩ := h
 have key : ∀ i, c.set.toNat.testBit i = true -> i < x.orders.length /\ (nth x.orders i).off = false := fun i hi => by
  have h63 : i < 63 := by
   rcases Nat.lt_or_ge i 63 with h | h
   ·exact h
   ·have : 2 ^ 63 <= 2 ^ i := Nat.pow_le_pow_right (by omega) h;rw [Nat.testBit_lt_two_pow (by omega)] at hi; cases hi
  have := List.all_eq_true.1 h4 i (List.mem_range.2 h63);rw [hi, WM] at this;simpa using this
 refine ⟨c.set.toNat, by omega, by omega, ?_, key⟩;refine Nat.lt_pow_two_of_testBit _ fun i hi => ?_
 cases hb : c.set.toNat.testBit i with
 | false => rfl
 | true => have := (key i hb).1; omega
theorem Zft {S n : Nat} (h0 : 0 < S) (h : S < 2 ^ n) (hn : n <= 4) : tzN S < n /\ 0 <= tzN S := by
 have : n = 0 \/ n = 1 \/ n = 2 \/ n = 3 \/ n = 4 := by omega
 unfold tzN;rcases this with rfl | rfl | rfl | rfl | rfl <;> (repeat' split) <;> omega
theorem VT (x : Inst) (k : Nat) : skF x (k + 1) = skF x k ++ [J3 x k] := by simp [skF, List.range_succ]
theorem Yt (x : Inst) (k : Nat) : (skF x k).length = k := by simp [skF]
theorem Zjv (x : Inst) : skF x 0 = [] := rfl
theorem ZaX {P : Program} {ko : List Nat} {l : List Oper} {n : Nat} {rem : List Nat} {fr : List V} {H : List AM.Obj} {K : List V -> List AM.Obj -> Prop} (m : Nat) (Y : V) (Z : List AM.Obj) (hr : Yq l rem = [m]) (h : Zh P (ZO l m) fr H fun y H' => y = Y /\ H' = Z)
  (k : (∀ k ∈ ko, oat Z k = oat H k) /\ VD P ko l n (rem.erase m) (ptO fr (ZO l m).dst Y) Z K) : VD P ko l (n + 1) rem fr H K :=
 Uz m _ hr h fun y H' hq => by obtain ⟨rfl, rfl⟩ := hq; exact k
theorem KK (x : Inst) (l : List Col) (lc : Bool) (hn : x.orders.length <= 4) (ht : x.types.length <= 1048576) (hu : ∀ i : Nat, Zaj 1152921504606846976 (YF x i).1) (hs : ∀ c ∈ l, c.set < 9223372036854775808) (hl : l.length <= 1048576) :
  ACalls Tryd.prog 19 [.p (XY x), .p (.list lc (l.map Xq))] [] fun y H' => (8192 < l.length /\ y = .tup [.p .nilp, .p (.int .i64 4)] /\ H' = []) \/ (l.length <= 8192 /\ (∃ c ∈ l, ZM x c = false) /\ y = .tup [.p .nilp, .p (.int .i64 2)] /\ H' = []) \/
   (l.length <= 8192 /\ (∀ c ∈ l, ZM x c = true) /\ ∃ ys, (Cheap l ys /\ ys.length <= l.length) /\ y = .tup [.ptr 2 0, .p (.int .i64 0)] /\ H' = .cells (List.replicate 6 .junk) :: (ZZ x (.list false ((XV x.orders.length ys).map Xp)) (.list false ((skF x x.orders.length).map eI)) (Z4 x x.orders.length) []).map (shO 1)) := by
 refine Zn [10] Tryd.func19 rfl ZkS ?_;simp (disch := omega) only [Tryd.f19, go_sem, seval];refine cD ?_ ?_ <;> intro h0 <;> simp (disch := omega) only [Sh.out h0, go_sem, seval]
 ·exact ⟨_, [], wk, .inl ⟨by omega, rfl, rfl⟩⟩
 ·refine Jg [1] 4 mixed (by kernel_rfl) (by kernel_rfl) (by kernel_rfl) (by simp) ?_;simp (disch := omega) only [go_sem, seval];refine Zw (ZeG x (by omega)) ?_;simp (disch := omega) only [go_sem, seval];refine Kc 1 _ _ (by kernel_rfl) (by simp (disch := omega) only [go_sem, seval]; exact ⟨rfl, rfl⟩) (ZcI ?_);simp (disch := omega) only [show ∀ (l : List V), W7 (V.mp 1 :: l) = none from fun _ => rfl, Option.map_none, go_sem, seval];refine Zp [1, 2, 6, 27, 28] (fun k : Nat => [(29, .p (.int .i64 k))]) (fun _ => [ZU x, .map [], bgO x ((Z4 x x.orders.length : Nat) : Int) (.p (.list true [])) (.p (.list true []))]) (fun k => k <= l.length /\ ∀ j, j < k -> ZM x (nth l j) = true) (fun k => l.length - k) 0 ⟨by omega, fun j hj => by omega⟩ (Weak.mk ?_) ?_
  ·simp (disch := omega) only [ZU, bgO, go_sem, seval]
  ·rintro k ⟨hk, hr⟩;simp (disch := omega) only [ZU, bgO, go_sem, seval];refine cD ?_ ?_ <;> intro h1 <;> simp (disch := omega) only [Sh.out h1, go_sem, seval]
   ·have hk2 : k < l.length := by omega
    refine Zo mixed (by kernel_rfl) (by kernel_rfl) ?_;simp (disch := omega) only [go_sem, seval];refine Zw (ZcQ x (nth l k) (hs _ (X2 hk2)) ht) ?_;simp (disch := omega) only [go_sem, seval]
    cases hq : ZM x (nth l k) with
    | false =>
     simp (disch := omega) only [Bool.not_false, go_sem, seval];exact ⟨_, [], wk, .inr (.inl ⟨by omega, ⟨_, X2 hk2, hq⟩, rfl, rfl⟩)⟩
    | true =>
     simp (disch := omega) only [Bool.not_true, go_sem, seval]
     exact ⟨k + 1, ⟨by omega, fun j hj => by
      rcases Nat.lt_succ_iff_lt_or_eq.1 hj with h | rfl
      ·exact hr j h
      ·exact hq⟩, by omega, Weak.mk (by simp (disch := omega) only [ZU, bgO, go_sem, seval])⟩
   ·have hkl : k = l.length := by omega
    subst hkl
    have Yv : ∀ c ∈ l, ZM x c = true := fun c hc => by
     obtain ⟨j, hj, rfl⟩ := List.mem_iff_getElem.1 hc;rw [<- Zk hj]; exact hr j hj
    clear hr hk h1;generalize ((Z4 x x.orders.length : Nat) : Int) = m;have hun : ∀ i : Nat, PT 41 [.p (XY x), .p (.int .i64 i)] [.p (Ze3 (YF x i).1), .p (.int .i64 (YF x i).2)] := fun i => Qf x i (by omega);refine XR (Zch 4 rfl rfl ?_);simp (disch := omega) only [go_sem, seval];refine ⟨_, _, JQ 97 31 _ _ x.orders.length 24 (.list true []) rfl (by kernel_rfl) (by kernel_rfl) (by kernel_rfl) (by kernel_rfl) (by rfl) (by omega) (by omega) (by simp (disch := omega) only [go_sem, seval]) (by simp (disch := omega) only [go_sem, seval]), ?_⟩
    simp (disch := omega) only [go_sem, seval]
    have h5 : x.orders.length = 0 \/ x.orders.length = 1 \/ x.orders.length = 2 \/ x.orders.length = 3 \/ x.orders.length = 4 := by omega
    refine Zq (Kr (by simp) x.orders.length) ?_;refine Za [17] _ _ _ _ ?_;simp (disch := omega) only [go_sem, seval];refine (Ja l lc (by omega)).useV fun ys hC => ?_;simp (disch := omega) only [go_sem, seval];obtain ⟨hC, hyl⟩ := hC;rcases h5 with h5 | h5 | h5 | h5 | h5
    all_goals
     simp (disch := omega) only [h5, List.replicate, YV, Y6, List.map_cons, List.map_nil, go_sem, seval];refine Zp [2, 6, 50, 51] (fun k : Nat => [(52, .p (.int .i64 k))]) (fun k => [ZU x, .map [], bgO x m (.sl 3 0 x.orders.length x.orders.length) (.p (.list true [])), .cells (YV (XV x.orders.length (ys.take k)) 4)] ++ Y6 (XV x.orders.length (ys.take k))) (fun k => k <= ys.length) (fun k => ys.length - k) 0 (by omega) (Weak.mk ?_) ?_
     ·simp (disch := omega) only [h5, List.take_zero, Zaz, List.length_nil, Yr, Yp, Yl, Yn, Ym, YV, Y6, List.map_cons, List.map_nil, List.cons_append, List.nil_append, ZU, bgO, go_sem, seval]
     ·intro k hk;simp (disch := omega) only [h5, Yr, Yp, Yl, Yn, Ym, YV, Y6, List.map_cons, List.map_nil, List.cons_append, List.nil_append, ZU, bgO, go_sem, seval];refine cD ?_ ?_ <;> intro h1 <;> simp (disch := omega) only [Sh.out h1, go_sem, seval]
      ·have hk2 : k < ys.length := by omega
       obtain ⟨j, hj, hjl, _⟩ := hC.bst _ (X2 hk2)
       have hmem : nth ys k ∈ l := by rw [<- hjl]; exact X2 hj
       obtain ⟨S, hS, hS0, hS1, hS2⟩ := Y5 (Yv _ hmem) (hs _ hmem);have hlt := Zft hS0 hS1 hn;have h16 : S < 16 := Nat.lt_of_lt_of_le hS1 (by rw [h5]; decide)
       have cl : PC 28 [.p (.int .i64 (nth ys k).set)] (.int .i64 (tzN (nth ys k).set.toNat)) := by
        rw [hS]; exact QV S hS0 h16
       refine (cl).use ?_;simp (disch := omega) only [go_sem, seval]
       have htz : tzN (nth ys k).set.toNat = tzN S := by rw [hS]; rfl
       have hi : tzN (nth ys k).set.toNat = 0 \/ tzN (nth ys k).set.toNat = 1 \/ tzN (nth ys k).set.toNat = 2 \/ tzN (nth ys k).set.toNat = 3 := by omega
       rcases hi with hi | hi | hi | hi
       all_goals try omega
       all_goals
        simp (disch := omega) only [hi, go_sem, seval];refine Vl [14] [1, 2, 3] [2] 15 mixed (by kernel_rfl) (by kernel_rfl) (by kernel_rfl) (by kernel_rfl) (by simp) ?_;simp (disch := omega) only [go_sem, seval];refine ⟨fun q hq p' hp => ?_, ?_⟩
        ·simp only [List.mem_cons, List.not_mem_nil, or_false] at hq;rcases hq with rfl | rfl | rfl
         ·obtain rfl : 59 = p' := Option.some.inj hp;exact X7 (by decide)
         ·obtain rfl : 60 = p' := Option.some.inj hp;exact X7 (by decide)
         ·obtain rfl : 61 = p' := Option.some.inj hp;exact X7 (by decide)
        ·have q0 := Ws ys k 0;have q1 := Ws ys k 1;have q2 := Ws ys k 2;have q3 := Ws ys k 3;refine ZaX 14 _ _ (by kernel_rfl) (by simp (disch := omega) only [go_sem, seval]; exact ⟨rfl, rfl⟩) ?_;refine ⟨fun k hk => by simp at hk; subst hk; rfl, KF ?_⟩;simp (disch := omega) only [List.set_cons_succ, List.set_cons_zero, go_sem, seval];exact ⟨k + 1, by omega, by omega, Weak.mk (by simp (disch := omega) only [h5, Kh hk2, hi, List.map_append, List.length_append, List.length_cons, List.length_nil, Nat.zero_add, Yr, Yp, Yl, Yn, Ym, YV, Y6, List.map_cons, List.map_nil, List.cons_append, List.nil_append, ZU, bgO, go_sem, seval])⟩
      ·have hkl : k = ys.length := by omega
       subst hkl;clear hk h1
       try refine Zq (Weak.fz (o := 4) (by rfl)) ?_
       try refine Zq (Weak.fz (o := 5) (by rfl)) ?_
       try refine Zq (Weak.fz (o := 6) (by rfl)) ?_
       try refine Zq (Weak.fz (o := 7) (by rfl)) ?_
       refine Za [17] _ _ _ _ ?_;simp (disch := omega) only [List.take_length, List.map_cons, List.map_nil, List.set_cons_succ, List.set_cons_zero, List.length_map, eq_self, if_true, go_sem, seval];refine Zq (Weak.fzC (o := 3) (ys := (XV x.orders.length ys).map Xp) (by rw [h5]; rfl) (fun y hy => by obtain ⟨p, _, rfl⟩ := List.mem_map.1 hy; rfl)) ?_;refine Za [17] _ _ _ _ ?_;simp (disch := omega) only [h5, Yr, Yp, Yl, Yn, Ym, List.map_cons, List.map_nil, List.set_cons_succ, List.set_cons_zero, List.length_cons, List.length_nil, Nat.zero_add, Nat.reduceAdd, eq_self, if_true, go_sem, seval]
       refine Za [28] _ _ _ _ ?_;simp (disch := omega) only [go_sem, seval];refine Zp [2, 6, 78] (fun k : Nat => [(79, .p (.int .i64 k))]) (fun k => [ZU x, .map [], bgO x m (.p (.list false ((XV x.orders.length ys).map Xp))) (.sl (4 + x.orders.length) 0 k k), .dead] ++ List.replicate x.orders.length .dead ++ [.elems 1 ((skF x k).map eI)]) (fun k => k <= x.orders.length) (fun k => x.orders.length - k) 0 (by omega) ((Weak.nilC (o := 2) (j := 7) 1 (by rfl) (by rfl) (by simp)).trans (Weak.mk ?_)) ?_
       ·simp (disch := omega) only [h5, Zjv, List.replicate, List.set_cons_succ, List.set_cons_zero, List.length_cons, List.length_nil, Nat.zero_add, Nat.reduceAdd, Yr, Yp, Yl, Yn, Ym, YV, Y6, List.map_cons, List.map_nil, List.cons_append, List.nil_append, ZU, bgO, go_sem, seval]
       ·intro k hk;simp (disch := omega) only [h5, List.replicate, Nat.reduceAdd, Yr, Yp, Yl, Yn, Ym, YV, Y6, List.map_cons, List.map_nil, List.cons_append, List.nil_append, ZU, bgO, go_sem, seval];refine cD ?_ ?_ <;> intro h1 <;> simp (disch := omega) only [Sh.out h1, go_sem, seval]
        ·have hk2 : k < x.orders.length := by omega
         refine Zeq (hun k) ?_;simp (disch := omega) only [go_sem, seval];refine cD ?_ ?_ <;> intro h2 <;> simp (disch := omega) only [Sh.out h2, go_sem, seval]
         ·refine Zeq (Km _ (hu k)) ?_;simp (disch := omega) only [go_sem, seval];refine cD ?_ ?_ <;> intro h3 <;> simp (disch := omega) only [Sh.out h3, go_sem, seval]
          ·have hsk : J3 x k = (VW (YF x k).1).1 := by simp [J3, h2, h3]
           simp (disch := omega) only [Yt, List.length_map, go_sem, seval];rw [if_pos ⟨by omega, by omega⟩];simp (disch := omega) only [List.set_cons_succ, List.set_cons_zero, Yt, List.length_map, List.length_append, List.length_cons, List.length_nil, Nat.zero_add, eq_self, decide_true, if_true, go_sem, seval];exact ⟨k + 1, by omega, by omega, Weak.mk (by simp (disch := omega) only [h5, VT, hsk, List.map_append, List.replicate, Nat.reduceAdd, List.set_cons_succ, List.set_cons_zero, Yr, Yp, Yl, Yn, Ym, YV, Y6, List.map_cons, List.map_nil, List.cons_append, List.nil_append, ZU, bgO, go_sem, seval])⟩
          ·have hsk : J3 x k = -1 := by simp [J3, h3]
           simp (disch := omega) only [Yt, List.length_map, go_sem, seval];rw [if_pos ⟨by omega, by omega⟩];simp (disch := omega) only [List.set_cons_succ, List.set_cons_zero, Yt, List.length_map, List.length_append, List.length_cons, List.length_nil, Nat.zero_add, eq_self, decide_true, if_true, go_sem, seval];exact ⟨k + 1, by omega, by omega, Weak.mk (by simp (disch := omega) only [h5, VT, hsk, List.map_append, List.replicate, Nat.reduceAdd, List.set_cons_succ, List.set_cons_zero, Yr, Yp, Yl, Yn, Ym, YV, Y6, List.map_cons, List.map_nil, List.cons_append, List.nil_append, ZU, bgO, go_sem, seval])⟩
         ·have hsk : J3 x k = -1 := by simp [J3, h2]
          simp (disch := omega) only [Yt, List.length_map, go_sem, seval];rw [if_pos ⟨by omega, by omega⟩];simp (disch := omega) only [List.set_cons_succ, List.set_cons_zero, Yt, List.length_map, List.length_append, List.length_cons, List.length_nil, Nat.zero_add, eq_self, decide_true, if_true, go_sem, seval];exact ⟨k + 1, by omega, by omega, Weak.mk (by simp (disch := omega) only [h5, VT, hsk, List.map_append, List.replicate, Nat.reduceAdd, List.set_cons_succ, List.set_cons_zero, Yr, Yp, Yl, Yn, Ym, YV, Y6, List.map_cons, List.map_nil, List.cons_append, List.nil_append, ZU, bgO, go_sem, seval])⟩
        ·have hkl : k = x.orders.length := by omega
         clear hk h1;refine Zq (Weak.fz (o := 4 + x.orders.length) (S := 1) (xs := (skF x k).map eI) (by rw [h5]; rfl)) ?_;refine Za [] _ _ _ _ ?_;simp (disch := omega) only [h5, List.map_cons, List.map_nil, List.set_cons_succ, List.set_cons_zero, List.length_map, Yt, Nat.zero_add, Nat.reduceAdd, eq_self, if_true, go_sem, seval];exact ⟨.tup [.ptr 2 0, .p (.int .i64 0)], _, Weak.mk (by simp (disch := omega) only [hkl, h5, ZZ, Xo, shO, Yi, shV, List.replicate, Yr, Yp, Yl, Yn, Ym, List.map_cons, List.map_nil, go_sem, seval]), .inr (.inr ⟨by omega, Yv, ys, ⟨hC, hyl⟩, rfl, rfl⟩)⟩
theorem ZfD : ∀ S : Fin 16, 0 < S.val -> sHas (S.val : Int) (tzN S.val) = true := by decide +kernel
theorem Zbb {x : Inst} (hx : InstOk x) (i : Nat) : -1 <= J3 x i /\ J3 x i <= 18014398509481984 := by
 unfold J3
 split
 ·rename_i h
  have hm : (YF x i).1.cost <= 1000000 /\ (YF x i).1.moved <= 1 /\ 0 <= (YF x i).1.moved /\ (YF x i).1.other = 0 /\ (YF x i).1.work = 0 := by
   unfold YF
   split
   ·simp [VX]
   ·split
    ·simp [VX]
    ·split
     ·simp [VX]
     ·have ha := (hx.orders.2 (i : Int).toNat (by omega)).arg;simp only [argOk, rng, Bool.and_eq_true, decide_eq_true_eq] at ha;refine ⟨by simp only; omega, by simp only; split <;> omega, by simp only; split <;> omega, rfl, rfl⟩
  obtain ⟨_, h2⟩ := h;unfold VW at h2 ⊢
  split at h2
  ·cases h2
  ·rename_i g1
   split at h2
   ·cases h2
   ·rename_i g2;rw [if_neg g1, if_neg g2];simp only;omega
 ·omega
theorem VR {x : Inst} {l ys : List Col} (hx : InstOk x) (hn : x.orders.length <= 4) (hC : Cheap l ys) (hr : ∀ c ∈ l, ZM x c = true) (hs : ∀ c ∈ l, c.set < 9223372036854775808) : ChOk x.orders.length x (XV x.orders.length ys) (skF x x.orders.length) := by
 refine ⟨fun i hi c hc => ?_, ?_, fun i hi => ?_⟩
 ·have e : nth (XV x.orders.length ys) i = Yw ys i := by
   rw [XV, Zk (by simpa using hi)]; simp
  rw [e, Yw, List.mem_filter] at hc;obtain ⟨h1, h2⟩ := hc;simp only [decide_eq_true_eq] at h2;obtain ⟨j, hj, hjl, _⟩ := hC.bst c h1
  have hm : c ∈ l := by rw [<- hjl]; exact X2 hj
  obtain ⟨S, q1, q2, q3, _⟩ := Y5 (hr c hm) (hs c hm);have h16 : S < 16 := Nat.lt_of_lt_of_le q3 (Nat.pow_le_pow_right (n := 2) (by omega) hn);have hb := ZfD ⟨S, h16⟩ q2;have hr1 := hr c hm;simp only [ZM, Bool.and_eq_true, decide_eq_true_eq] at hr1;refine ⟨⟨hr1.1, hr1.2.1⟩, ⟨S, q1, by omega⟩, ?_, hr1.2.2.2.2.1, hr1.2.2.2.2.2⟩;rw [q1, Int.toNat_natCast] at h2;rw [q1, <- h2]; exact hb
 ·have ht := hx.types;simp only [typesOk, rng, Bool.and_eq_true, decide_eq_true_eq] at ht;refine ⟨by omega, fun t _ => ?_⟩;rcases Nat.lt_or_ge t x.types.length with h | h
  ·have := ht.2 t h;unfold Ju at this;have := this.1.1.1.1.1.1.2;simp only [rng, Bool.and_eq_true, decide_eq_true_eq] at this;omega
  ·rw [show nth x.types t = default from by simp [nth, List.getD_eq_getElem?_getD, List.getElem?_eq_none h]]
   decide
 ·rw [skF, Zk (by simpa using hi)];simpa using Zbb hx i
def zSt : St := ⟨0, 0, [0, 0, 0, 0, 0, 0]⟩
def Xl (x : Inst) (ys : List Col) : Int := Xe x.orders.length ((Z4 x x.orders.length : Nat) : Int) x (XV x.orders.length ys) (skF x x.orders.length) 20 (Vd x.orders.length ((Z4 x x.orders.length : Nat) : Int) zSt)
theorem Zdj (n : Nat) : StV n zSt := ⟨rfl, ⟨by decide, by simp [zSt]⟩, ⟨0, rfl, by omega⟩, fun j hj => by
 have : nth zSt.used j = 0 := by
  have : j = 0 \/ j = 1 \/ j = 2 \/ j = 3 \/ j = 4 \/ j = 5 := by omega
  rcases this with rfl | rfl | rfl | rfl | rfl | rfl <;> rfl
 omega⟩
theorem ZaN (x : Inst) (l : List Col) (lc : Bool) (hx : InstOk x) (hn : x.orders.length <= 4) (ht : x.types.length <= 1048576) (hs : ∀ c ∈ l, c.set < 9223372036854775808) (hl : l.length <= 1048576) :
  ACalls Tryd.prog 7 [.p (XY x), .p (.list lc (l.map Xq))] [] fun y H' => H' = [] /\ ((8192 < l.length /\ y = .tup [.p (.int .i64 0), .p (.int .i64 4)]) \/ (l.length <= 8192 /\ (∃ c ∈ l, ZM x c = false) /\ y = .tup [.p (.int .i64 0), .p (.int .i64 2)]) \/
   (l.length <= 8192 /\ (∀ c ∈ l, ZM x c = true) /\ ∃ ys, Cheap l ys /\ ys.length <= l.length /\ y = .tup [.p (.int .i64 (if Xl x ys < 0 then 0 else Xl x ys)), .p (.int .i64 (if Xl x ys < 0 then 24 else 0))])) := by
 refine Zn [] Tryd.func7 rfl Znj ?_;simp (disch := omega) only [Tryd.f7, go_sem, seval];refine ((KK x l lc hn ht (fun i => UK (by omega) (Q4 hx _)) hs hl).behind (by rfl) _).mono ?_;rintro y H' ⟨y1, H1, hq, rfl, rfl⟩;rcases hq with ⟨h1, rfl, rfl⟩ | ⟨h1, h2, rfl, rfl⟩ | ⟨h1, h2, ys, ⟨hC, hyl⟩, rfl, rfl⟩
 ·simp (disch := omega) only [shV, Yi, List.map_nil, go_sem, seval];exact ⟨_, [], wk, rfl, .inl ⟨h1, rfl⟩⟩
 ·simp (disch := omega) only [shV, Yi, List.map_nil, go_sem, seval];exact ⟨_, [], wk, rfl, .inr (.inl ⟨h1, h2, rfl⟩)⟩
 ·simp (disch := omega) only [shV, Yi, shO, ZZ, Xo, List.map_cons, List.map_nil, List.replicate, go_sem, seval];have hok := VR hx hn hC h2 hs;obtain ⟨m, hm⟩ : ∃ m : Int, m = ((Z4 x x.orders.length : Nat) : Int) := ⟨_, rfl⟩;obtain ⟨B, hB⟩ : ∃ B, B = Xl x ys := ⟨_, rfl⟩;rw [<- hm];refine ACalls.mono ((Wy x (.list false ((XV x.orders.length ys).map Xp)) (.list false ((skF x x.orders.length).map eI)) m [] zSt rfl (by decide) (by omega) (by decide)).back [ZU x, .cells (List.replicate 6 .junk)] (by rfl)) ?_;rintro y H' ⟨y1, H1, ⟨rfl, rfl⟩, rfl, rfl⟩;obtain ⟨v1, _⟩ := Us (m := m) (Zdj x.orders.length)
  have hrg := Xh (m := m) hok 20 _ v1
  have hbb : B = Xe x.orders.length m x (XV x.orders.length ys) (skF x x.orders.length) 20 (Vd x.orders.length m zSt) := by rw [hB, Xl, hm]
  rw [<- hbb] at hrg;obtain ⟨i, w, b0, b1, b2, b3, b4, b5, hw⟩ := ZT v1.len;rw [hw] at hbb v1 ⊢;simp (disch := omega) only [shV, Yi, shO, ZZ, Xo, stO, List.map_cons, List.map_nil, List.replicate, List.cons_append, List.nil_append, go_sem, seval]
  refine ACalls.mono ((WK x (XV x.orders.length ys) (skF x x.orders.length) false false m (by omega) (by simp [XV]) (by simp [skF]) hok (fun r hr => by
   obtain ⟨p, _, rfl⟩ := List.mem_map.1 hr;have := List.length_filter_le (fun c : Col => decide (tzN c.set.toNat = (p : Int))) ys
   simp only [Yw]; omega) 20 _ [] (by omega) v1 (by have := v1.ix; simp only at this ⊢; omega) (fun p hp => by simp at hp)).back [ZU x, .cells (List.replicate 6 .junk)] (by rfl)) ?_
  rintro y H' ⟨y1, H1, ⟨l', hl', rfl, rfl⟩, rfl, rfl⟩;rw [<- hbb];simp (disch := omega) only [shV, Yi, shO, ZZ, Xo, stO, List.map_cons, List.map_nil, List.replicate, List.cons_append, List.nil_append, go_sem, seval];refine cD ?_ ?_ <;> intro h3 <;> simp (disch := omega) only [Sh.out h3, go_sem, seval]
  ·exact ⟨.tup [.p (.int .i64 0), .p (.int .i64 24)], [], wk, rfl, .inr (.inr ⟨h1, h2, ys, hC, hyl, by rw [<- hB, if_pos h3, if_pos h3]⟩)⟩
  ·exact ⟨.tup [.p (.int .i64 B), .p (.int .i64 0)], [], wk, rfl, .inr (.inr ⟨h1, h2, ys, hC, hyl, by rw [<- hB, if_neg h3, if_neg h3]⟩)⟩
def kp (c : Col) : Int × Int × Int := (c.typ, c.set, c.price)
theorem ZfM {c d : Col} : kp c = kp d ↔ c.typ = d.typ /\ c.set = d.set /\ c.price = d.price := by simp [kp]
theorem QJ {β : Type} {f : β -> Col -> β} (hf : ∀ a c d, kp c = kp d -> f a c = f a d) : ∀ {l l' : List Col} {a : β}, l.map kp = l'.map kp -> l.foldl f a = l'.foldl f a
 | [], [], _, _ => rfl
 | [], _ :: _, _, h => by simp at h
 | _ :: _, [], _, h => by simp at h
 | c :: l, d :: l', a, h => by
  simp only [List.map_cons, List.cons.injEq] at h;rw [List.foldl_cons, List.foldl_cons, hf a c d h.1];exact QJ hf h.2
theorem Zaa {n : Nat} {m : Int} {x : Inst} {f g : List (List Col)} {sk : List Int} (h : ∀ i, (nth f i).map kp = (nth g i).map kp) : ∀ (d : Nat) (s : St), Xe n m x f sk d s = Xe n m x g sk d s
 | 0, _ => rfl
 | d + 1, s => by
  have ih := Zaa (n := n) (m := m) (x := x) (sk := sk) h d;rw [Xe, Xe];simp only [ih]
  rw [QJ (f := fun o c => if X3 x s c = true then X4 o c.price (Xe n m x g sk d (ZS n m s c)) else o) (fun a c d' e => by
   obtain ⟨e1, e2, e3⟩ := ZfM.1 e
   have em : X3 x s c = X3 x s d' := by simp only [X3, e1, e2]
   have ew : ZS n m s c = ZS n m s d' := by simp only [ZS, e1, e2]
   simp only [em, ew, e3]) (h s.ix.toNat)]
theorem Wf {α : Type} {r : α -> α -> Prop} (irr : ∀ a, ¬ r a a) (asy : ∀ a b, r a b -> ¬ r b a) : ∀ {l l' : List α}, l.Pairwise r -> l'.Pairwise r -> (∀ a, a ∈ l ↔ a ∈ l') -> l = l'
 | [], [], _, _, _ => rfl
 | [], b :: _, _, _, h => by have := (h b).2 (by simp); simp at this
 | a :: _, [], _, _, h => by have := (h a).1 (by simp); simp at this
 | a :: l, b :: l', h1, h2, h => by
  rw [List.pairwise_cons] at h1 h2
  have hab : a = b := by
   rcases List.mem_cons.1 ((h a).1 (by simp)) with e | e
   ·exact e
   ·rcases List.mem_cons.1 ((h b).2 (by simp)) with e' | e'
    ·exact e'.symm
    ·exact absurd (h1.1 b e') (asy _ _ (h2.1 a e))
  subst hab
  rw [Wf irr asy h1.2 h2.2 fun c => ⟨fun hc => by
   rcases List.mem_cons.1 ((h c).1 (List.mem_cons_of_mem _ hc)) with e | e
   ·subst e; exact absurd (h1.1 c hc) (irr c)
   ·exact e, fun hc => by
   rcases List.mem_cons.1 ((h c).2 (List.mem_cons_of_mem _ hc)) with e | e
   ·subst e; exact absurd (h2.1 c hc) (irr c)
   ·exact e⟩]
theorem VS {l ys : List Col} (h : Cheap l ys) {c : Col} (hc : c ∈ l) : ∃ d ∈ ys, kd d = kd c /\ d.price <= c.price := by
 obtain ⟨d, hd, e⟩ := h.all c hc;obtain ⟨j, hj, rfl⟩ := List.mem_iff_getElem.1 hc;obtain ⟨i, hi, _, h3⟩ := h.bst d hd;have := h3 j hj (by rw [Zk hj]; exact e.symm);rw [Zk hj] at this;exact ⟨d, hd, e, by omega⟩
theorem Yf {l ys : List Col} (h : Cheap l ys) {d : Col} (hd : d ∈ ys) : d ∈ l := by
 obtain ⟨j, hj, e, _⟩ := h.bst d hd;rw [<- e]; exact X2 hj
theorem Zbq {l l' ys ys' : List Col} (h : Cheap l ys) (h' : Cheap l' ys') (hm : ∀ c, c ∈ l ↔ c ∈ l') : ys.map kp = ys'.map kp := by
 have one : ∀ {l l' ys ys' : List Col}, Cheap l ys -> Cheap l' ys' -> (∀ c, c ∈ l ↔ c ∈ l') -> ∀ a, a ∈ ys.map kp -> a ∈ ys'.map kp := fun {l l' ys ys'} h h' hm a ha => by
  obtain ⟨d, hd, rfl⟩ := List.mem_map.1 ha;obtain ⟨e, he, k1, p1⟩ := VS h' ((hm d).1 (Yf h hd));obtain ⟨g, hg, k2, p2⟩ := VS h ((hm e).2 (Yf h' he));obtain ⟨i, hi, e1, h3⟩ := h.bst d hd;have hgl := Yf h hg;obtain ⟨j, hj, e2⟩ := List.mem_iff_getElem.1 hgl;have h4 := h3 j hj (by rw [Zk hj, e2, k2, k1]);rw [Zk hj, e2] at h4;simp only [kd, Kd.mk.injEq] at k1;exact List.mem_map.2 ⟨e, he, ZfM.2 ⟨k1.1, k1.2, by omega⟩⟩
 refine Wf (r := fun a b : Int × Int × Int => a.1 < b.1 \/ (a.1 = b.1 /\ a.2.1 < b.2.1)) (fun a => by omega) (fun a b => by omega) ?_ ?_ fun a => ⟨one h h' hm a, one h' h (fun c => (hm c).symm) a⟩
 ·exact List.pairwise_map.2 (h.asc.imp fun hh => by rw [YD] at hh; exact hh)
 ·exact List.pairwise_map.2 (h'.asc.imp fun hh => by rw [YD] at hh; exact hh)
theorem JU {ys ys' : List Col} (h : ys.map kp = ys'.map kp) (i : Nat) : (Yw ys i).map kp = (Yw ys' i).map kp := by
 have e : ∀ l : List Col, (Yw l i).map kp = (l.map kp).filter fun a => decide (tzN a.2.1.toNat = (i : Int)) := fun l => by
  rw [List.filter_map]; rfl
 rw [e, e, h]
theorem VF {n i : Nat} {ys : List Col} : nth (XV n ys) i = if i < n then Yw ys i else [] := by
 split
 ·rename_i h; rw [XV, Zk (by simpa using h)]; simp
 ·rename_i h;rw [nth, List.getD_eq_getElem?_getD, List.getElem?_eq_none (by simp [XV]; omega)]; rfl
theorem Jk {x : Inst} {l l' ys ys' : List Col} (h : Cheap l ys) (h' : Cheap l' ys') (hm : ∀ c, c ∈ l ↔ c ∈ l') : Xl x ys = Xl x ys' := by
 unfold Xl;refine Zaa (fun i => ?_) _ _;rw [VF, VF]
 split
 ·exact JU (Zbq h h' hm) i
 ·rfl
def leP (a b : Int) : Prop := b < 0 \/ (0 <= a /\ a <= b)
theorem ZaP {a b p q r t : Int} (h1 : leP a b) (h2 : leP r t) (hp : 0 <= p) (hq : p <= q) (hr : -1 <= r) : leP (X4 a p r) (X4 b q t) := by
 unfold leP X4 at *
 split <;> split <;> omega
theorem J0 {x : Inst} {s : St} {r : Col -> Int} (hr : ∀ c, -1 <= r c) : ∀ {l : List Col} {a : Int}, (∀ c ∈ l, 0 <= c.price) ->
  leP (l.foldl (fun o c => if X3 x s c = true then X4 o c.price (r c) else o) a) a /\ ∀ c ∈ l, X3 x s c = true -> 0 <= r c -> leP (l.foldl (fun o c => if X3 x s c = true then X4 o c.price (r c) else o) a) (c.price + r c)
 | [], a, _ => ⟨by unfold leP; simp; omega, fun c hc => by simp at hc⟩
 | d :: l, a, hp => by
  have hd := hp d (by simp);obtain ⟨g1, g2⟩ := J0 (x := x) (s := s) hr (l := l) (a := if X3 x s d = true then X4 a d.price (r d) else a) fun c hc => hp c (List.mem_cons_of_mem _ hc);rw [List.foldl_cons];generalize l.foldl (fun o c => if X3 x s c = true then X4 o c.price (r c) else o) (if X3 x s d = true then X4 a d.price (r d) else a) = M at g1 g2;refine ⟨?_, fun c hc hy h0 => ?_⟩
  ·split at g1
   ·unfold leP X4 at *
    split at g1 <;> omega
   ·exact g1
  ·rcases List.mem_cons.1 hc with rfl | hc
   ·rw [if_pos hy] at g1
    unfold leP X4 at *
    split at g1 <;> omega
   ·exact g2 c hc hy h0
theorem Un {x : Inst} {s : St} {r : Col -> Int} : ∀ {l : List Col} {a : Int}, l.foldl (fun o c => if X3 x s c = true then X4 o c.price (r c) else o) a = a \/ ∃ c ∈ l, X3 x s c = true /\ 0 <= r c /\ l.foldl (fun o c => if X3 x s c = true then X4 o c.price (r c) else o) a = c.price + r c
 | [], a => .inl rfl
 | d :: l, a => by
  rw [List.foldl_cons];rcases Un (x := x) (s := s) (r := r) (l := l) (a := if X3 x s d = true then X4 a d.price (r d) else a) with h | ⟨c, h1, h2, h3, h4⟩
  ·rw [h]
   split
   ·rename_i hy;unfold X4
    split
    ·rename_i hb; exact .inr ⟨d, by simp, hy, hb.1, rfl⟩
    ·exact .inl rfl
   ·exact .inl rfl
  ·exact .inr ⟨c, List.mem_cons_of_mem _ h1, h2, h3, h4⟩
theorem WT {n : Nat} {m : Int} {x : Inst} {f g : List (List Col)} {sk : List Int} (hf : ChOk n x f sk) (hg : ChOk n x g sk) (h : ∀ i, i < n -> ∀ c ∈ nth f i, ∃ d ∈ nth g i, kd d = kd c /\ d.price <= c.price) :
  ∀ (d : Nat) (s : St), StV n s -> leP (Xe n m x g sk d s) (Xe n m x f sk d s)
 | 0, s, _ => by simp [Xe, leP]
 | d + 1, s, hs => by
  rw [Xe, Xe]
  split
  ·simp [leP]
  ·rename_i hi;have hix := hs.ix
   have hj : s.ix.toNat < n := by omega
   have key : leP ((nth g s.ix.toNat).foldl (fun o c => if X3 x s c = true then X4 o c.price (Xe n m x g sk d (ZS n m s c)) else o) (-1)) ((nth f s.ix.toNat).foldl (fun o c => if X3 x s c = true then X4 o c.price (Xe n m x f sk d (ZS n m s c)) else o) (-1)) := by
    rcases Un (x := x) (s := s) (r := fun c => Xe n m x f sk d (ZS n m s c)) (l := nth f s.ix.toNat) (a := -1) with e | ⟨c, h1, h2, h3, h4⟩
    ·rw [e]; simp [leP]
    ·rw [h4];obtain ⟨c', k1, k2, k3⟩ := h _ hj c h1;simp only [kd, Kd.mk.injEq] at k2
     have hy : X3 x s c' = true := by simp only [X3, k2.1, k2.2] at h2 ⊢; exact h2
     have hw : ZS n m s c' = ZS n m s c := by simp only [ZS, k2.1, k2.2]
     obtain ⟨v1, _⟩ := YZ (m := m) hf hs (by omega) h1 h2;have ih := WT (m := m) hf hg h d _ v1
     have hr0 : 0 <= Xe n m x g sk d (ZS n m s c') := by rw [hw]; unfold leP at ih; omega
     -- the fold over g, at columns that can be chosen
     have hfold : leP ((nth g s.ix.toNat).foldl (fun o c => if X3 x s c = true then X4 o c.price (Xe n m x g sk d (ZS n m s c)) else o) (-1)) (c'.price + Xe n m x g sk d (ZS n m s c')) := by
      have e := Wd (f := fun o c => if X3 x s c = true then X4 o c.price (Xe n m x g sk d (ZS n m s c)) else o) (g := fun o c => if X3 x s c = true then X4 o c.price (max (-1) (Xe n m x g sk d (ZS n m s c))) else o) (l := nth g s.ix.toNat) (b := (-1 : Int)) fun c hc o => by
       by_cases hy : X3 x s c = true
       ·obtain ⟨v2, _⟩ := YZ (m := m) hg hs (by omega) hc hy;have := (Xh (m := m) hg d _ v2).1;simp only [hy, if_true]
        congr 1; omega
       ·simp only [hy]; rfl
      rw [e];have := (J0 (x := x) (s := s) (r := fun c => max (-1) (Xe n m x g sk d (ZS n m s c))) (fun c => by omega) (l := nth g s.ix.toNat) (a := -1) fun c hc => (hg.col _ hj c hc).2.2.2.1).2 c' k1 hy (by omega);simpa only [show max (-1) (Xe n m x g sk d (ZS n m s c')) = Xe n m x g sk d (ZS n m s c') by omega] using this
     have hp := (hg.col _ hj c' k1).2.2.2.1;rw [hw] at hfold hr0;unfold leP at ih hfold ⊢
     right; omega
   simp only
   split
   ·obtain ⟨v1, _⟩ := UP (m := m) hs (by omega);have ih := WT (m := m) hf hg h d _ v1;exact ZaP key ih (by omega) (Int.le_refl _) (Xh (m := m) hg d _ v1).1
   ·exact key
theorem Jt {x : Inst} {l l' ys ys' : List Col} (hx : InstOk x) (hn : x.orders.length <= 4) (h : Cheap l ys) (h' : Cheap l' ys') (hm : ∀ c ∈ l, c ∈ l') (hr : ∀ c ∈ l', ZM x c = true) (hs : ∀ c ∈ l', c.set < 9223372036854775808) : leP (Xl x ys') (Xl x ys) := by
 have hf := VR hx hn h (fun c hc => hr c (hm c hc)) fun c hc => hs c (hm c hc);have hg := VR hx hn h' hr hs;unfold Xl;refine WT hf hg (fun i hi c hc => ?_) _ _ (Us (Zdj _)).1;rw [VF, if_pos hi] at hc ⊢;rw [Yw, List.mem_filter] at hc;obtain ⟨d, k1, k2, k3⟩ := VS h' (hm c (Yf h hc.1));refine ⟨d, ?_, k2, k3⟩;rw [Yw, List.mem_filter];simp only [kd, Kd.mk.injEq] at k2;exact ⟨k1, by rw [k2.2]; exact hc.2⟩
abbrev Cm := { c : Col // ∃ S : Nat, c.set = S /\ 0 < S /\ S < 16 }
instance : Inhabited Cm := ⟨⟨⟨0, 1, 0, default⟩, 1, rfl, by decide, by decide⟩⟩
def lo (c : Col) : Int := tzN c.set.toNat
def cfC (a b : Col) : Int := orI [UR a.typ b.typ, UR (lo a) (lo b)]
theorem Zad {a b : Col} : cfC a b < 0 ↔ a.typ < b.typ \/ (a.typ = b.typ /\ lo a < lo b) := by
 unfold cfC;rw [Kp]
 split
 ·rename_i h; rw [QT] at h; rw [QR]; omega
 ·rename_i h; rw [QT] at h; rw [QR]; omega
def cfM (a b : Cm) : Int := cfC a.val b.val
theorem Zdi : Go.Sort.SWO (ltOf cfM) where
 irrefl x := by simp only [ltOf, cfM, decide_eq_false_iff_not, Zad]; omega
 trans x y z h1 h2 := by simp only [ltOf, cfM, decide_eq_true_eq, Zad] at *; omega
 ntrans x y z h1 h2 := by simp only [ltOf, cfM, decide_eq_false_iff_not, Zad] at *; omega
theorem ZmU (c : Cm) : PC 28 [.p (.int .i64 c.val.set)] (.int .i64 (lo c.val)) := by
 obtain ⟨c, S, h1, h2, h3⟩ := c;simp only [lo, h1];exact QV S h2 h3
theorem K6 (a b : Cm) : PC 25 [.p (Xq a.val), .p (Xq b.val)] (.int .i64 (cfM a b)) := by
 refine Zb Tryd.func25 rfl Zjo ?_;simp (disch := omega) only [Tryd.f25, go_sem, seval];refine Zo mixed (by kernel_rfl) (by kernel_rfl) ?_;simp (disch := omega) only [go_sem, seval];refine Zw (Zax a.val.typ b.val.typ) ?_;simp (disch := omega) only [go_sem, seval];refine Zw (ZmU a) ?_;simp (disch := omega) only [go_sem, seval];refine Zw (ZmU b) ?_;simp (disch := omega) only [go_sem, seval];refine Zw (Zax (lo a.val) (lo b.val)) ?_;simp (disch := omega) only [go_sem, seval];refine Zw (Zlo [UR a.val.typ b.val.typ, UR (lo a.val) (lo b.val)] false (by simp)) ?_
 simp (disch := omega) only [go_sem, seval]
 rfl
theorem ZcV (xs : List Cm) (hl : xs.length <= 1048576) {H : List AM.Obj} {o : Nat} (hH : H[o]? = some (.elems 7 (xs.map fun c => Xq c.val))) :
  ACalls Tryd.prog 24 [.sl o 0 xs.length xs.length, .fn (.func 25) [] []] H fun y H' => y = .tup [] /\ ∃ ys : List Cm, ys.Perm xs /\ ys.Pairwise (fun a b => ¬ cfM b a < 0) /\ H' = H.set o (.elems 7 (ys.map fun c => Xq c.val)) :=
 ACalls.sortFunc QB Zf1 7 Tryd.isAgg51 Tryd.sizeOf51 (fun c : Cm => Xq c.val) (fun x => ⟨_, rfl, rfl, rfl⟩) cfM Zdi 25 K6 xs (by omega) hH
theorem WY {n : Nat} {m : Int} {x : Inst} {fst : List (List Col)} {sk : List Int} : ∀ (d : Nat) (s : St), ∀ c ∈ (Xb n m x fst sk d s).1, ∃ i, i < fst.length /\ c ∈ nth fst i
 | 0, s, c, h => by simp [Xb] at h
 | d + 1, s, c, h => by
  rw [Xb] at h
  split at h
  ·simp at h
  ·split at h
   ·rename_i c' hf;simp only [List.mem_cons] at h;rcases h with rfl | h
    ·refine ⟨s.ix.toNat, ?_, List.mem_of_find?_eq_some hf⟩;rcases Nat.lt_or_ge s.ix.toNat fst.length with h | h
     ·exact h
     ·rw [show nth fst s.ix.toNat = [] from by simp [nth, List.getD_eq_getElem?_getD, List.getElem?_eq_none h]; rfl] at hf;simp at hf
    ·exact WY d _ c h
   ·exact WY d _ c h
def ZaW : Pln := ⟨true, [], true, []⟩
def ZlA (x : Inst) (l : List Col) (p : Pln) (c e : Int) : Prop := (8192 < l.length /\ p = ZaW /\ c = 0 /\ e = 4) \/ (l.length <= 8192 /\ (∃ c ∈ l, ZM x c = false) /\ p = ZaW /\ c = 0 /\ e = 2) \/
 (l.length <= 8192 /\ (∀ c ∈ l, ZM x c = true) /\ ∃ ys, Cheap l ys /\ ys.length <= l.length /\ ((Xl x ys < 0 /\ p = ZaW /\ c = 0 /\ e = 24) \/ (0 <= Xl x ys /\ c = Xl x ys /\ e = 0 /\
  ∃ zs : List Col, zs.Perm (Xb x.orders.length ((Z4 x x.orders.length : Nat) : Int) x (XV x.orders.length ys) (skF x x.orders.length) 20 (Vd x.orders.length ((Z4 x x.orders.length : Nat) : Int) zSt)).1 /\ zs.Pairwise (fun a b => ¬ cfC b a < 0) /\
   p = ⟨false, zs.map (·.route), false, (Xb x.orders.length ((Z4 x x.orders.length : Nat) : Int) x (XV x.orders.length ys) (skF x x.orders.length) 20 (Vd x.orders.length ((Z4 x x.orders.length : Nat) : Int) zSt)).2⟩)))
theorem WH {n : Nat} {m : Int} {x : Inst} {fst : List (List Col)} {sk : List Int} : ∀ (d : Nat) (s : St), (Xb n m x fst sk d s).1.length <= d /\ (Xb n m x fst sk d s).2.length <= d
 | 0, s => by simp [Xb]
 | d + 1, s => by
  rw [Xb]
  split
  ·simp
  ·split
   ·rename_i c' hf;have := WH (n := n) (m := m) (x := x) (fst := fst) (sk := sk) d (ZS n m s c');simp; omega
   ·have := WH (n := n) (m := m) (x := x) (fst := fst) (sk := sk) d (JI n m s);simp; omega
theorem V5 (x : Inst) (l : List Col) (lc : Bool) (hx : InstOk x) (hn : x.orders.length <= 4) (ht : x.types.length <= 1048576) (hs : ∀ c ∈ l, c.set < 9223372036854775808) (hl : l.length <= 1048576) :
  ACalls Tryd.prog 9 [.p (XY x), .p (.list lc (l.map Xq))] [] fun y H' => ∃ p c e, ZlA x l p c e /\ y = .tup [.p (ZbC p), .p (.int .i64 c), .p (.int .i64 e)] /\ H' = [] := by
 refine Zn [16] Tryd.func9 rfl Zn1 ?_;simp (disch := omega) only [Tryd.f9, go_sem, seval];refine ((KK x l lc hn ht (fun i => UK (by omega) (Q4 hx _)) hs hl).behind (by rfl) _).mono ?_;rintro y H' ⟨y1, H1, hq, rfl, rfl⟩;rcases hq with ⟨h1, rfl, rfl⟩ | ⟨h1, h2, rfl, rfl⟩ | ⟨h1, h2, ys, ⟨hC, hyl⟩, rfl, rfl⟩
 ·simp (disch := omega) only [shV, Yi, List.map_nil, go_sem, seval];exact ⟨.tup [.p (ZbC ZaW), .p (.int .i64 0), .p (.int .i64 4)], [], Weak.mk (by simp (disch := omega) only [ZaW, List.map_nil, go_sem, seval]), _, _, _, Or.inl ⟨h1, rfl, rfl, rfl⟩, rfl, rfl⟩
 ·simp (disch := omega) only [shV, Yi, List.map_nil, go_sem, seval];exact ⟨.tup [.p (ZbC ZaW), .p (.int .i64 0), .p (.int .i64 2)], [], Weak.mk (by simp (disch := omega) only [ZaW, List.map_nil, go_sem, seval]), _, _, _, Or.inr (Or.inl ⟨h1, h2, rfl, rfl, rfl⟩), rfl, rfl⟩
 ·have hok := VR hx hn hC h2 hs
  have hcl : ∀ r ∈ XV x.orders.length ys, r.length <= 1048576 := fun r hr => by
   obtain ⟨p, _, rfl⟩ := List.mem_map.1 hr;have := List.length_filter_le (fun c : Col => decide (tzN c.set.toNat = (p : Int))) ys;simp only [Yw]; omega
  obtain ⟨m, hm⟩ : ∃ m : Int, m = ((Z4 x x.orders.length : Nat) : Int) := ⟨_, rfl⟩;obtain ⟨B, hB⟩ : ∃ B, B = Xl x ys := ⟨_, rfl⟩;simp (disch := omega) only [shV, Yi, shO, ZZ, Xo, stO, List.map_cons, List.map_nil, List.replicate, List.cons_append, List.nil_append, go_sem, seval];rw [<- hm];refine ACalls.mono ((Wy x (.list false ((XV x.orders.length ys).map Xp)) (.list false ((skF x x.orders.length).map eI)) m [] zSt rfl (by decide) (by omega) (by decide)).back [ZU x, .cells [.p (.list true []), .p (.list true [])], .cells (List.replicate 6 .junk)] (by rfl)) ?_;rintro y H' ⟨y1, H1, ⟨rfl, rfl⟩, rfl, rfl⟩
  obtain ⟨v1, _⟩ := Us (m := m) (Zdj x.orders.length);have hrg := Xh (m := m) hok 20 _ v1
  have hbb : B = Xe x.orders.length m x (XV x.orders.length ys) (skF x x.orders.length) 20 (Vd x.orders.length m zSt) := by rw [hB, Xl, hm]
  rw [<- hbb] at hrg;obtain ⟨R, hR⟩ : ∃ R, R = Xb x.orders.length m x (XV x.orders.length ys) (skF x x.orders.length) 20 (Vd x.orders.length m zSt) := ⟨_, rfl⟩;obtain ⟨i, w, b0, b1, b2, b3, b4, b5, hw⟩ := ZT v1.len;have hRr := hR;rw [hw] at hbb v1 hR ⊢;simp (disch := omega) only [shV, Yi, shO, ZZ, Xo, stO, List.map_cons, List.map_nil, List.replicate, List.cons_append, List.nil_append, go_sem, seval];have c3 := ((WK x (XV x.orders.length ys) (skF x x.orders.length) false false m (by omega) (by simp [XV]) (by simp [skF]) hok hcl 20 ⟨i, w, [b0, b1, b2, b3, b4, b5]⟩ [] (by omega) v1 (by have := v1.ix; simp only at this ⊢; omega) (fun p hp => by simp at hp)).mono (fun y H' hq => (⟨hq, by obtain ⟨l', _, _, rfl⟩ := hq; rfl⟩ : _ /\ H'.length = (ZZ x (.list false ((XV x.orders.length ys).map Xp)) (.list false ((skF x x.orders.length).map eI)) m []).length))).front (by rfl) (by rfl) [stO ⟨i, w, [b0, b1, b2, b3, b4, b5]⟩]
  refine ACalls.mono (c3.back [ZU x, .cells [.p (.list true []), .p (.list true [])], .cells (List.replicate 6 .junk)] (by rfl)) ?_;rintro y H' ⟨y1, H1, ⟨H2, ⟨l', hl', rfl, rfl⟩, rfl⟩, rfl, rfl⟩;rw [<- hbb];simp (disch := omega) only [shV, Yi, shO, ZZ, Xo, stO, List.map_cons, List.map_nil, List.replicate, List.cons_append, List.nil_append, go_sem, seval];refine cD ?_ ?_ <;> intro h3 <;> simp (disch := omega) only [Sh.out h3, go_sem, seval]
  ·exact ⟨.tup [.p (ZbC ZaW), .p (.int .i64 0), .p (.int .i64 24)], [], Weak.mk (by simp (disch := omega) only [ZaW, List.map_nil, go_sem, seval]), _, _, _, Or.inr (Or.inr ⟨h1, h2, ys, hC, hyl, Or.inl ⟨by rw [<- hB]; exact h3, rfl, rfl, rfl⟩⟩), rfl, rfl⟩
  ·refine ACalls.mono ((Zfw (stO ⟨i, w, [b0, b1, b2, b3, b4, b5]⟩) (by intro H n; simp (disch := omega) only [stO, List.map_cons, List.map_nil, go_sem, seval]) (by intro o xs; rfl) x (XV x.orders.length ys) (skF x x.orders.length) false false m (by omega) (by simp [XV]) (by simp [skF]) hok hcl ⟨i, w, [b0, b1, b2, b3, b4, b5]⟩ l' v1 hl').back [ZU x, .cells [.p (.list true []), .p (.list true [])], .cells (List.replicate 6 .junk)] (by rfl)) ?_;rintro y H' ⟨y1, H1, ⟨l2, A, U, hl2, hAU, rfl, rfl⟩, rfl, rfl⟩;rw [<- hR] at hAU;have hlen := WH (n := x.orders.length) (m := m) (x := x) (fst := XV x.orders.length ys) (sk := skF x x.orders.length) 20 (Vd x.orders.length m zSt)
   rw [<- hRr, <- hAU] at hlen
   have hA : ∀ c ∈ A, ∃ S : Nat, c.set = S /\ 0 < S /\ S < 16 := fun c hc => by
    have hc' : c ∈ (Xb x.orders.length m x (XV x.orders.length ys) (skF x x.orders.length) 20 (Vd x.orders.length m zSt)).1 := by rw [<- hRr, <- hAU]; exact hc
    obtain ⟨j, hj, hm2⟩ := WY _ _ _ hc'
    have e : nth (XV x.orders.length ys) j = Yw ys j := by
     rw [XV, Zk (by simpa [XV] using hj)]; simp
    rw [e, Yw, List.mem_filter] at hm2;obtain ⟨q, hq, hql, _⟩ := hC.bst c hm2.1
    have hmem : c ∈ l := by rw [<- hql]; exact X2 hq
    obtain ⟨S, q1, q2, q3, _⟩ := Y5 (h2 c hmem) (hs c hmem);exact ⟨S, q1, q2, Nat.lt_of_lt_of_le q3 (Nat.pow_le_pow_right (n := 2) (by omega) hn)⟩
   obtain ⟨L, hL⟩ : ∃ L : List Cm, L.map Subtype.val = A := ⟨A.pmap (fun c h => ⟨c, h⟩) hA, by simp [List.map_pmap]⟩;subst hL
   have hLl : (L.map Subtype.val).length = L.length := by simp
   have hLe : (L.map Subtype.val).map Xq = L.map fun c => Xq c.val := by simp [List.map_map]
   simp only at hlen;rw [hLl] at hlen;simp (disch := omega) only [shV, Yi, shO, ZZ, Xo, stO, List.map_cons, List.map_nil, List.replicate, List.cons_append, List.nil_append, hLl, hLe, go_sem, seval];refine ((ZcV L (by omega) (H := _) (o := 7) rfl)).mono ?_;rintro y H' ⟨rfl, zs, hp, hsr, rfl⟩;have hzl : zs.length = L.length := hp.length_eq;rw [<- hzl] at hlen ⊢;simp (disch := omega) only [List.set_cons_succ, List.set_cons_zero, go_sem, seval];obtain ⟨Z, hZ⟩ : ∃ Z, Z = zs.map Subtype.val := ⟨_, rfl⟩
   have hZl : Z.length = zs.length := by rw [hZ]; simp
   have hZe : Z.map Xq = zs.map fun c => Xq c.val := by rw [hZ]; simp [List.map_map]
   rw [<- hZl] at hlen ⊢
   have htl : ∀ k, k <= Z.length -> (Z.take k).length = k := fun k hk => by simp; omega
   refine Zp [4, 10, 13, 45, 46] (fun k : Nat => [(47, .p (.int .i64 k))]) (fun k => [ZU x, .cells [.p (.list true []), .p (.list true [])], .cells (List.replicate 6 .junk), .map (l2.map (eKI eSt)), shO 3 (Xo x (.list false ((XV x.orders.length ys).map Xp)) (.list false ((skF x x.orders.length).map eI)) m), stO ⟨i, w, [b0, b1, b2, b3, b4, b5]⟩, .cells (List.replicate 8 .junk), .elems 7 (Z.map Xq), .cells [.sl 9 0 k k, .p (.list false (U.map eI))], .elems 4 ((Z.take k).map fun c => Zht c.route)]) (fun k => k <= Z.length) (fun k => Z.length - k) 0 (by omega) ((Weak.nilC (o := 8) (j := 0) 4 (by rfl) (by rfl) (by simp)).trans (Weak.mk ?_)) ?_
   ·simp (disch := omega) only [hZe, List.take_zero, List.set_cons_succ, List.set_cons_zero, List.length_cons, List.length_nil, Nat.zero_add, Nat.reduceAdd, shV, Yi, shO, ZZ, Xo, stO, List.map_cons, List.map_nil, List.replicate, List.cons_append, List.nil_append, ZU, go_sem, seval]
   ·intro k hk;simp (disch := omega) only [shV, Yi, shO, ZZ, Xo, stO, List.map_cons, List.map_nil, List.replicate, List.cons_append, List.nil_append, ZU, go_sem, seval];refine cD ?_ ?_ <;> intro h4 <;> simp (disch := omega) only [Sh.out h4, go_sem, seval]
    ·have hk2 : k < Z.length := by omega
     simp (disch := first | omega | (simp only [List.length_cons, List.length_nil, List.length_append, List.length_map, List.length_take, List.length_drop] <;> omega)) only [WR hk2, hk2, go_sem, seval]
     have hsc : Z.take (k + 1) = Z.take k ++ [nth Z k] := by rw [List.take_succ_eq_append_getElem hk2, Zk hk2]
     rw [if_pos ⟨htl k hk, by omega, by omega⟩];simp (disch := omega) only [List.set_cons_succ, List.set_cons_zero, htl k hk, List.length_map, List.length_append, List.length_cons, List.length_nil, Nat.zero_add, eq_self, decide_true, if_true, go_sem, seval];exact ⟨k + 1, by omega, by omega, Weak.mk (by simp (disch := omega) only [hsc, List.map_append, shV, Yi, shO, ZZ, Xo, stO, List.map_cons, List.map_nil, List.replicate, List.cons_append, List.nil_append, ZU, go_sem, seval])⟩
    ·have hkl : k = Z.length := by omega
     subst hkl;refine Zq (Weak.fz (o := 9) (by rfl)) ?_;refine Za [] _ _ _ _ ?_;simp (disch := omega) only [List.map_cons, List.map_nil, List.set_cons_succ, List.set_cons_zero, ZU, List.take_length, go_sem, seval];exact ⟨.tup [.p (ZbC ⟨false, Z.map (·.route), false, U⟩), .p (.int .i64 B), .p (.int .i64 0)], [], Weak.mk (by simp (disch := omega) only [List.map_map, Function.comp_def, go_sem, seval]), _, _, _, Or.inr (Or.inr ⟨h1, h2, ys, hC, hyl, Or.inr ⟨by rw [<- hB]; omega, hB, rfl, Z, by rw [<- hm, <- hRr, <- hAU, hZ]; exact hp.map _, by rw [hZ]; exact List.pairwise_map.2 hsr, by rw [<- hm, <- hRr, <- hAU]⟩⟩), rfl, rfl⟩
def ZgM (x : Inst) (l : List Col) (a e : Int) : Prop := (8192 < l.length /\ a = 0 /\ e = 4) \/ (l.length <= 8192 /\ (∃ c ∈ l, ZM x c = false) /\ a = 0 /\ e = 2) \/
 (l.length <= 8192 /\ (∀ c ∈ l, ZM x c = true) /\ ∃ ys, Cheap l ys /\ a = (if Xl x ys < 0 then 0 else Xl x ys) /\ e = (if Xl x ys < 0 then 24 else 0))
theorem KC {x : Inst} {l l' : List Col} {a e b f : Int} (h : ZgM x l a e) (h' : ZgM x l' b f) (hl : l.length = l'.length) (hm : ∀ c, c ∈ l ↔ c ∈ l') : e = f /\ a = b := by
 rcases h with ⟨g1, rfl, rfl⟩ | ⟨g1, ⟨c, gc, g2⟩, rfl, rfl⟩ | ⟨g1, g2, ys, g3, rfl, rfl⟩ <;> rcases h' with ⟨k1, rfl, rfl⟩ | ⟨k1, ⟨c', kc, k2⟩, rfl, rfl⟩ | ⟨k1, k2, zs, k3, rfl, rfl⟩
 ·exact ⟨rfl, rfl⟩
 ·omega
 ·omega
 ·omega
 ·exact ⟨rfl, rfl⟩
 ·rw [k2 c ((hm c).1 gc)] at g2; cases g2
 ·omega
 ·rw [g2 c' ((hm c').2 kc)] at k2; cases k2
 ·rw [Jk g3 k3 hm]; exact ⟨rfl, rfl⟩
theorem Kt {x : Inst} {l l' : List Col} {a e d g : Int} (hx : InstOk x) (hn : x.orders.length <= 4) (h : ZgM x l a e) (h' : ZgM x l' d g) (he : e = 0) (hg : g ≠ 2) (hl : l'.length <= 8192) (hm : ∀ c ∈ l, c ∈ l') (hs : ∀ c ∈ l', c.set < 9223372036854775808) : g = 0 /\ d <= a := by
 rcases h' with ⟨k1, rfl, rfl⟩ | ⟨k1, ⟨c', kc, k2⟩, rfl, rfl⟩ | ⟨k1, k2, zs, k3, rfl, rfl⟩
 ·omega
 ·exact absurd rfl hg
 ·rcases h with ⟨g1, rfl, rfl⟩ | ⟨g1, ⟨c, gc, g2⟩, rfl, rfl⟩ | ⟨g1, g2, ys, g3, rfl, rfl⟩
  ·cases he
  ·cases he
  ·have := Jt hx hn g3 k3 hm k2 hs;unfold leP at this
   have hb : ¬ Xl x ys < 0 := fun hb => by rw [if_pos hb] at he; cases he
   rw [if_neg hb]
   have hz : ¬ Xl x zs < 0 := by omega
   rw [if_neg hz, if_neg hz];exact ⟨rfl, by omega⟩
theorem Uo (x : Inst) (l : List Col) (lc : Bool) (hx : InstOk x) (hn : x.orders.length <= 4) (ht : x.types.length <= 1048576) (hs : ∀ c ∈ l, c.set < 9223372036854775808) (hl : l.length <= 1048576) :
  ACalls Tryd.prog 7 [.p (XY x), .p (.list lc (l.map Xq))] [] fun y H' => ∃ a e, ZgM x l a e /\ y = .tup [.p (.int .i64 a), .p (.int .i64 e)] /\ H' = [] :=
 (ZaN x l lc hx hn ht hs hl).mono fun y H' hq => by
  obtain ⟨rfl, h⟩ := hq;rcases h with ⟨g1, rfl⟩ | ⟨g1, g2, rfl⟩ | ⟨g1, g2, ys, g3, _, rfl⟩
  ·exact ⟨_, _, .inl ⟨g1, rfl, rfl⟩, rfl, rfl⟩
  ·exact ⟨_, _, .inr (.inl ⟨g1, g2, rfl, rfl⟩), rfl, rfl⟩
  ·exact ⟨_, _, .inr (.inr ⟨g1, g2, ys, g3, rfl, rfl⟩), rfl, rfl⟩
theorem Zc5 {g : FuncId} {args : List V} {R : Int -> Int -> Prop} {H : List AM.Obj} {K : V -> List AM.Obj -> Prop} (h : ACalls Tryd.prog g args [] fun y H' => ∃ a e, R a e /\ y = .tup [.p (.int .i64 a), .p (.int .i64 e)] /\ H' = []) (k : ∀ a e, R a e -> K (.tup [.p (.int .i64 a), .p (.int .i64 e)]) H) (ha : ZQ 0 args = true := by rfl) : ACalls Tryd.prog g args H K :=
 (h.behind ha H).mono fun x H' hq => by
  obtain ⟨y, H1, ⟨a, e, hr, rfl, rfl⟩, rfl, rfl⟩ := hq;simpa [shV, Yi] using k a e hr
theorem Jz (haw : PC 6 [] (.bool true)) (x : Inst) (hw : x.wf 1048576) (l : List Col) (lc : Bool) (c : Col) (hl : l.length <= 1048576) (hs : ∀ d ∈ l, d.set < 9223372036854775808) (hc : c.set < 9223372036854775808) :
  PC 4 [.p (XY x), .p (.list lc (l.map Xq)), .p (Xq c)] (.bool true) := by
 have ht : x.types.length <= 1048576 := hw.2.1;have ho : x.orders.length <= 1048576 := hw.2.2.2.1;refine Wm [9] Tryd.func4 rfl Zno ?_;simp (disch := omega) only [Tryd.f4, go_sem, seval];refine gF ?_ ?_ <;> intro h1 <;> simp (disch := omega) only [Sh.out h1, go_sem, seval]
 ·refine (haw).use ?_;simp (disch := omega) only [go_sem, seval]
 ·refine ((Zgf x hw).frozenE).useV fun m hm => ?_;simp (disch := omega) only [go_sem, seval];refine gF ?_ ?_ <;> intro h2 <;> simp (disch := omega) only [Sh.out h2, go_sem, seval]
  ·refine (haw).use ?_;simp (disch := omega) only [go_sem, seval]
  ·have hx : InstOk x := hm.emp.1 (List.length_eq_zero_iff.1 (by omega));refine cD ?_ ?_ <;> intro h3 <;> simp (disch := omega) only [Sh.out h3, go_sem, seval]
   ·refine (haw).use ?_;simp (disch := omega) only [go_sem, seval]
   ·have hr : ∀ j, j <= l.length -> (l.reverse.take j).length = j := fun j hj => by simp; omega
    refine Zp [1, 3, 5] (fun j : Nat => [(7, .sl 2 0 j j), (8, .p (.int .i64 ((l.length : Int) - 1 - j)))]) (fun j => [ZU x, J7 c, .elems 7 ((l.reverse.take j).map Xq)]) (fun j => j <= l.length) (fun j => l.length - j) 0 (by omega) (Weak.ofNil 7 7 (by simp (disch := omega) only [go_sem, seval]) (by simp) (Weak.mk ?_)) ?_
    ·have e0 : (l.length : Int) - 1 - 0 = (l.length : Int) - 1 := by omega
     simp (disch := omega) only [ZU, J7, List.take_zero, List.map_nil, e0, go_sem, seval]
    ·intro j hj;simp (disch := omega) only [ZU, J7, go_sem, seval];refine cD ?_ ?_ <;> intro h4 <;> simp (disch := omega) only [Sh.out h4, go_sem, seval]
     ·obtain ⟨i, hi⟩ : ∃ i : Nat, (l.length : Int) - 1 - j = i := ⟨l.length - 1 - j, by omega⟩
      have hi2 : i < l.length := by omega
      have hsc : l.reverse.take (j + 1) = l.reverse.take j ++ [nth l i] := by
       have hj2 : j < l.reverse.length := by simp; omega
       rw [List.take_succ_eq_append_getElem hj2, List.getElem_reverse, Zk hi2]
       congr 3; omega
      have e1 : (l.length : Int) - 1 - ((j : Int) + 1) = (l.length : Int) - 1 - j - 1 := by omega
      rw [hi] at e1 ⊢;simp (disch := omega) only [hr j hj, List.length_map, go_sem, seval];rw [if_pos ⟨by omega, by omega⟩];simp (disch := omega) only [go_sem, seval];exact ⟨j + 1, by omega, by omega, Weak.mk (by simp (disch := omega) only [hsc, e1, hr j hj, List.map_append, List.map_cons, List.map_nil, ZU, J7, go_sem, seval])⟩
     ·have hjl : j = l.length := by omega
      subst hjl;have htk : l.reverse.take l.length = l.reverse := List.take_of_length_le (by simp)
      have hrl : l.reverse.length = l.length := by simp
      have hml : (l.reverse.map Xq).length = l.length := by simp
      clear hj h4;rw [htk];refine Zq (Weak.fz (o := 2) (by rfl)) ?_;refine Zq (Weak.fz (o := 3) (by rfl)) ?_;refine Za [] _ _ _ _ ?_;simp (disch := omega) only [List.map_cons, List.map_nil, List.set_cons_succ, List.set_cons_zero, ZU, J7, hml, hrl, List.length_cons, List.length_nil, List.length_map, List.length_append, List.take_length, List.drop_zero, go_sem, seval];refine Zc5 (Uo x l lc hx (by omega) ht hs hl) fun a e hA => ?_;simp (disch := omega) only [go_sem, seval];refine Zc5 (Uo x l.reverse false hx (by omega) ht (fun d hd => hs d (List.mem_reverse.1 hd)) (by omega)) fun b f hB => ?_
      simp (disch := omega) only [go_sem, seval];obtain ⟨rfl, rfl⟩ := KC hA hB hrl.symm fun d => List.mem_reverse.symm;rw [if_pos (by omega)]
      refine Zc5 (Uo x (c :: l) false hx (by omega) ht (fun d hd => by
       rcases List.mem_cons.1 hd with rfl | hd
       ·exact hc
       ·exact hs d hd) (by simp; omega)) fun d g hD => ?_
      simp (disch := omega) only [go_sem, seval];refine gF ?_ ?_ <;> intro h5 <;> simp (disch := omega) only [Sh.out h5, go_sem, seval]
      ·refine (haw).use ?_;simp (disch := omega) only [go_sem, seval]
      ·refine cD ?_ ?_ <;> intro h6 <;> simp (disch := omega) only [Sh.out h6, go_sem, seval]
       ·refine (haw).use ?_;simp (disch := omega) only [go_sem, seval]
       ·have he0 : e = 0 := Classical.not_not.1 h5
        obtain ⟨rfl, hda⟩ := Kt hx (by omega) hA hD he0 h6 (by simp; omega) (fun d hd => List.mem_cons_of_mem _ hd) fun d hd => by
         rcases List.mem_cons.1 hd with rfl | hd
         ·exact hc
         ·exact hs d hd
        simp (disch := omega) only [go_sem, seval];refine gT ?_ ?_ <;> intro h7 <;> simp (disch := omega) only [Sh.out h7, go_sem, seval]
        ·refine (haw).use ?_;simp (disch := omega) only [go_sem, seval];simp [h7]
        ·omega
def smT (n : Int) : Typ := { name := [118], count := n, src := 0, dst := 0, cap_c := false, cap := [5], cls := 100, drive := 100, opn := 0, rest := 0, skills := 0, fixed := 0, perMile := 0, perTick := 0, prof := 0 }
def smO (s : UInt8) : Ord := { name := [s], load_c := false, load := [1], pick := ⟨-1, 0, 0, 0⟩, drp := ⟨0, 0, 50, 0⟩, skills := 0, penalty := -1, split := 1, last := -1, now := -1, off := false }
def smX (n : Int) : Inst := { net := { places_c := false, places := [[65]], arcs_c := true, arcs := [] }, types_c := false, types := [smT n], orders_c := false, orders := [smO 111, smO 112], apart_c := true, apart := [], before_c := true, before := [] }
def smC (s p : Int) (t : Int) : Col := ⟨0, s, p, ⟨0, t, true, [], true, []⟩⟩
def smL (k : Nat) : List Col := [smC 1 10 (if 0 < k then 1 else 0), smC 2 20 (if 1 < k then 2 else 0), smC 3 40 (if 2 < k then 3 else 0)]
def smI (n : Int) (os : V) : AM.Obj := .cells [.p (.list false [.str [65]]), .p (.list true []), .p (.list false [QP (smT n)]), os, .p (.list true []), .p (.list true [])]
theorem Ve (n : Int) (hn : 0 <= n /\ n <= 10) : PT 18 [.p (.int .i64 n)] [.p (XY (smX n)), .p (.list false ((smL 3).map Xq))] := by
 refine Zn [1, 2, 6, 14] Tryd.func18 rfl ZkB ?_;simp (disch := omega) only [Tryd.f18, go_sem, seval];refine XR (VQ 1 ?_);simp (disch := omega) only [go_sem, seval];refine ⟨_, _, Weak.fz (o := 1) (by rfl), ?_⟩;simp (disch := omega) only [List.map_cons, List.map_nil, List.set_cons_succ, List.set_cons_zero, List.cons_append, List.nil_append, go_sem, seval];refine Za [2, 6, 14] _ _ _ _ ?_;simp (disch := omega) only [go_sem, seval];refine XR (ZaB 2 2 ?_);simp (disch := omega) only [go_sem, seval];refine ⟨_, _, Weak.fz (o := 3) (by rfl), ?_⟩;simp (disch := omega) only [List.map_cons, List.map_nil, List.set_cons_succ, List.set_cons_zero, List.cons_append, List.nil_append, go_sem, seval]
 refine ⟨_, _, Weak.fz (o := 4) (by rfl), ?_⟩;simp (disch := omega) only [List.map_cons, List.map_nil, List.set_cons_succ, List.set_cons_zero, List.cons_append, List.nil_append, go_sem, seval];refine Za [6, 14] _ _ _ _ ?_;simp (disch := omega) only [go_sem, seval];refine Yg [5, 14] [2, 4, 17, 18] (fun k : Nat => [(19, .p (.int .i64 k))]) (fun k => [.cells (List.replicate 6 (.p (.list true []))), .dead, smI n (.sl 6 0 k k), .dead, .dead, .elems 1 [.str [111], .str [112]], .elems 16 (([smO 111, smO 112].take k).map US)]) (fun k => k <= 2) (fun k => 2 - k) 0 (by omega) ((Weak.nilC (o := 2) (j := 3) 16 (by rfl) (by rfl) (by simp)).trans (Weak.mk ?_)) ?_
 ·simp (disch := omega) only [smI, smT, List.replicate, List.take_zero, List.length_cons, List.length_nil, Nat.zero_add, Nat.reduceAdd, List.map_cons, List.map_nil, List.set_cons_succ, List.set_cons_zero, List.cons_append, List.nil_append, go_sem, seval]
 ·intro k hk
  obtain rfl | rfl | rfl : k = 0 \/ k = 1 \/ k = 2 := by omega
  ·simp (disch := omega) only [smI, smT, smO, List.replicate, List.take_zero, List.length_cons, List.length_nil, Nat.zero_add, Nat.reduceAdd, List.map_cons, List.map_nil, List.set_cons_succ, List.set_cons_zero, List.cons_append, List.nil_append, go_sem, seval];refine XR (WE (XR (Za [] _ _ _ _ ?_)));simp (disch := first | omega | (simp only [List.length_cons, List.length_nil, List.length_append, List.length_map, List.length_take, List.length_drop] <;> omega)) only [elt, List.getD_cons_zero, List.getD_cons_succ, List.getElem?_cons_zero, List.getElem?_cons_succ, Option.getD_some, go_sem, seval]
   refine VQ 4 ?_;simp (disch := omega) only [go_sem, seval];refine ⟨_, _, Weak.fz (o := 7) (by rfl), ?_⟩;simp (disch := omega) only [List.map_cons, List.map_nil, List.set_cons_succ, List.set_cons_zero, List.cons_append, List.nil_append, go_sem, seval];refine Za [] _ _ _ _ ?_;simp (disch := omega) only [go_sem, seval];exact ⟨1, by omega, by omega, Weak.mk (by simp (disch := omega) only [smI, smT, smO, List.replicate, List.take, List.length_cons, List.length_nil, Nat.zero_add, Nat.reduceAdd, List.map_cons, List.map_nil, List.set_cons_succ, List.set_cons_zero, List.cons_append, List.nil_append, go_sem, seval])⟩
  ·simp (disch := omega) only [smI, smT, smO, List.replicate, List.take, List.length_cons, List.length_nil, Nat.zero_add, Nat.reduceAdd, List.map_cons, List.map_nil, List.set_cons_succ, List.set_cons_zero, List.cons_append, List.nil_append, go_sem, seval];refine XR (WE (XR (Za [] _ _ _ _ ?_)));simp (disch := first | omega | (simp only [List.length_cons, List.length_nil, List.length_append, List.length_map, List.length_take, List.length_drop] <;> omega)) only [elt, List.getD_cons_zero, List.getD_cons_succ, List.getElem?_cons_zero, List.getElem?_cons_succ, Option.getD_some, go_sem, seval]
   refine VQ 4 ?_;simp (disch := omega) only [go_sem, seval];refine ⟨_, _, Weak.fz (o := 7) (by rfl), ?_⟩;simp (disch := omega) only [List.map_cons, List.map_nil, List.set_cons_succ, List.set_cons_zero, List.cons_append, List.nil_append, go_sem, seval];refine Za [] _ _ _ _ ?_;simp (disch := omega) only [go_sem, seval];exact ⟨2, by omega, by omega, Weak.mk (by simp (disch := omega) only [smI, smT, smO, List.replicate, List.take, List.length_cons, List.length_nil, Nat.zero_add, Nat.reduceAdd, List.map_cons, List.map_nil, List.set_cons_succ, List.set_cons_zero, List.cons_append, List.nil_append, go_sem, seval])⟩
  ·simp (disch := omega) only [smI, smT, smO, List.replicate, List.take, List.length_cons, List.length_nil, Nat.zero_add, Nat.reduceAdd, List.map_cons, List.map_nil, List.set_cons_succ, List.set_cons_zero, List.cons_append, List.nil_append, go_sem, seval];refine Zp [2, 4, 7, 39] (fun k : Nat => [(40, .p (.int .i64 k))]) (fun k => [.cells (List.replicate 6 (.p (.list true []))), .dead, smI n (.sl 6 0 2 2), .dead, .dead, .elems 1 [.str [111], .str [112]], .elems 16 ([smO 111, smO 112].map US), .elems 7 ((smL k).map Xq)]) (fun k => k <= 3) (fun k => 3 - k) 0 (by omega) (Weak.mk ?_) ?_
   ·simp (disch := omega) only [smL, smC, smI, smT, smO, List.replicate, List.take, List.length_cons, List.length_nil, Nat.zero_add, Nat.reduceAdd, List.map_cons, List.map_nil, List.set_cons_succ, List.set_cons_zero, List.cons_append, List.nil_append, go_sem, seval]
   ·intro k hk
    obtain rfl | rfl | rfl | rfl : k = 0 \/ k = 1 \/ k = 2 \/ k = 3 := by omega
    ·simp (disch := first | omega | (simp only [List.length_cons, List.length_nil, List.length_append, List.length_map, List.length_take, List.length_drop] <;> omega)) only [smL, smC, smI, smT, smO, List.replicate, List.take, List.length_cons, List.length_nil, Nat.zero_add, Nat.reduceAdd, List.map_cons, List.map_nil, List.set_cons_succ, List.set_cons_zero, List.cons_append, List.nil_append, go_sem, seval];simp (disch := first | omega | (simp only [List.length_cons, List.length_nil, List.length_append, List.length_map, List.length_take, List.length_drop] <;> omega)) only [Vn, elt, List.getD_cons_zero, List.getD_cons_succ, List.getElem?_cons_zero, List.getElem?_cons_succ, Option.getD_some, List.map_cons, List.map_nil, List.set_cons_succ, List.set_cons_zero, List.cons_append, List.nil_append, go_sem, seval]
     exact ⟨1, by omega, by omega, Weak.mk (by simp (disch := omega) only [smL, smC, smI, smT, smO, List.replicate, List.take, List.length_cons, List.length_nil, Nat.zero_add, Nat.reduceAdd, List.map_cons, List.map_nil, List.set_cons_succ, List.set_cons_zero, List.cons_append, List.nil_append, go_sem, seval])⟩
    ·simp (disch := first | omega | (simp only [List.length_cons, List.length_nil, List.length_append, List.length_map, List.length_take, List.length_drop] <;> omega)) only [smL, smC, smI, smT, smO, List.replicate, List.take, List.length_cons, List.length_nil, Nat.zero_add, Nat.reduceAdd, List.map_cons, List.map_nil, List.set_cons_succ, List.set_cons_zero, List.cons_append, List.nil_append, go_sem, seval];simp (disch := first | omega | (simp only [List.length_cons, List.length_nil, List.length_append, List.length_map, List.length_take, List.length_drop] <;> omega)) only [Vn, elt, List.getD_cons_zero, List.getD_cons_succ, List.getElem?_cons_zero, List.getElem?_cons_succ, Option.getD_some, List.map_cons, List.map_nil, List.set_cons_succ, List.set_cons_zero, List.cons_append, List.nil_append, go_sem, seval]
     exact ⟨2, by omega, by omega, Weak.mk (by simp (disch := omega) only [smL, smC, smI, smT, smO, List.replicate, List.take, List.length_cons, List.length_nil, Nat.zero_add, Nat.reduceAdd, List.map_cons, List.map_nil, List.set_cons_succ, List.set_cons_zero, List.cons_append, List.nil_append, go_sem, seval])⟩
    ·simp (disch := first | omega | (simp only [List.length_cons, List.length_nil, List.length_append, List.length_map, List.length_take, List.length_drop] <;> omega)) only [smL, smC, smI, smT, smO, List.replicate, List.take, List.length_cons, List.length_nil, Nat.zero_add, Nat.reduceAdd, List.map_cons, List.map_nil, List.set_cons_succ, List.set_cons_zero, List.cons_append, List.nil_append, go_sem, seval];simp (disch := first | omega | (simp only [List.length_cons, List.length_nil, List.length_append, List.length_map, List.length_take, List.length_drop] <;> omega)) only [Vn, elt, List.getD_cons_zero, List.getD_cons_succ, List.getElem?_cons_zero, List.getElem?_cons_succ, Option.getD_some, List.map_cons, List.map_nil, List.set_cons_succ, List.set_cons_zero, List.cons_append, List.nil_append, go_sem, seval]
     exact ⟨3, by omega, by omega, Weak.mk (by simp (disch := omega) only [smL, smC, smI, smT, smO, List.replicate, List.take, List.length_cons, List.length_nil, Nat.zero_add, Nat.reduceAdd, List.map_cons, List.map_nil, List.set_cons_succ, List.set_cons_zero, List.cons_append, List.nil_append, go_sem, seval])⟩
    ·simp (disch := first | omega | (simp only [List.length_cons, List.length_nil, List.length_append, List.length_map, List.length_take, List.length_drop] <;> omega)) only [smL, smC, smI, smT, smO, List.replicate, List.take, List.length_cons, List.length_nil, Nat.zero_add, Nat.reduceAdd, List.map_cons, List.map_nil, List.set_cons_succ, List.set_cons_zero, List.cons_append, List.nil_append, go_sem, seval];refine Zq (Weak.fz (o := 6) (by rfl)) ?_;refine Zq (Weak.fz (o := 7) (by rfl)) ?_;refine Za [] _ _ _ _ ?_;simp (disch := omega) only [List.map_cons, List.map_nil, List.set_cons_succ, List.set_cons_zero, go_sem, seval]
     exact ⟨.tup [.p (XY (smX n)), .p (.list false ((smL 3).map Xq))], [], Weak.mk (by simp (disch := omega) only [smX, smL, smC, smI, smT, smO, List.replicate, List.take, List.length_cons, List.length_nil, Nat.zero_add, Nat.reduceAdd, List.map_cons, List.map_nil, List.set_cons_succ, List.set_cons_zero, List.cons_append, List.nil_append, go_sem, seval]), rfl, rfl⟩
theorem Zg0 (n : Int) (hn : 0 <= n /\ n <= 10) : InstOk (smX n) := by
 refine ⟨⟨⟨⟨show (1 : Nat) <= 24 by decide, fun i hi => ?_⟩, show (0 : Nat) <= 1024 by decide⟩, fun i hi => by simp [smX] at hi⟩, ⟨rfl, fun i hi => ?_⟩, WN.1 (by rfl), rfl⟩
 ·match i, hi with
  | 0, _ => exact ⟨rfl, fun k hk => by omega⟩
 ·have : i = 0 := by simp [smX] at hi; omega
  subst this
  have hc : rng n 0 10 = true := by simp [rng]; omega
  exact ⟨⟨⟨⟨⟨⟨⟨⟨rfl, fun j hj => by omega⟩, hc⟩, rfl, rfl⟩, rfl⟩, rfl⟩, rfl, show (100 : Int) <= 4096 by decide⟩, rfl, rfl⟩, rfl, rfl, rfl, rfl⟩
def c1 : Col := smC 1 10 1
def c2 : Col := smC 2 20 2
def c3 : Col := smC 3 40 3
theorem Vq {l ys : List Col} (h : Cheap l ys) (ha : l.Pairwise fun a b => cfK a b < 0) (hd : ∀ a ∈ l, ∀ b ∈ l, kd a = kd b -> a = b) : ys = l :=
 Wf (r := fun a b => cfK a b < 0) (fun a => by rw [YD]; omega) (fun a b => by rw [YD, YD]; omega) h.asc ha fun a => ⟨fun hh => Yf h hh, fun hh => by
  obtain ⟨d, k1, k2⟩ := h.all a hh
  rw [<- hd d (Yf h k1) a hh k2]; exact k1⟩
theorem Zma : [c1, c2, c3].Pairwise fun a b => cfK a b < 0 := by
 refine .cons (fun b hb => ?_) (.cons (fun b hb => ?_) (.cons (fun b hb => by simp at hb) .nil))
 ·simp only [List.mem_cons, List.not_mem_nil, or_false] at hb;rcases hb with rfl | rfl <;> decide +kernel
 ·simp only [List.mem_cons, List.not_mem_nil, or_false] at hb;subst hb; decide +kernel
theorem ZmG : ∀ a ∈ [c1, c2, c3], ∀ b ∈ [c1, c2, c3], kd a = kd b -> a = b := by
 intro a ha b hb e;simp only [List.mem_cons, List.not_mem_nil, or_false] at ha hb;rcases ha with rfl | rfl | rfl <;> rcases hb with rfl | rfl | rfl <;> first | rfl | (exfalso; revert e; decide)
theorem Zer : Xl (smX 1) [c1, c2, c3] = 40 := by decide +kernel
theorem Zfr : Xl (smX 2) [c1, c2, c3] = 30 := by decide +kernel
theorem Zkc : Xl (smX 1) [c1, c2] = -1 := by decide +kernel
theorem ZbE : ∀ n : Int, ∀ c ∈ [c1, c2, c3], ZM (smX n) c = true := by
 intro n c hc;have : ZM (smX n) c = ZM (smX 1) c := rfl;rw [this];simp only [List.mem_cons, List.not_mem_nil, or_false] at hc;rcases hc with rfl | rfl | rfl <;> decide +kernel
def pk (n : Int) : List Col × List Int := Xb (smX n).orders.length ((Z4 (smX n) (smX n).orders.length : Nat) : Int) (smX n) (XV (smX n).orders.length [c1, c2, c3]) (skF (smX n) (smX n).orders.length) 20 (Vd (smX n).orders.length ((Z4 (smX n) (smX n).orders.length : Nat) : Int) zSt)
theorem pk1 : pk 1 = ([c3], []) := by rfl
theorem pk2 : pk 2 = ([c1, c2], []) := by rfl
theorem ZkT : ∀ c ∈ [c1, c2, c3], c.set < 9223372036854775808 := by
 intro c hc;simp only [List.mem_cons, List.not_mem_nil, or_false] at hc;rcases hc with rfl | rfl | rfl <;> decide
theorem Zb7 {n : Int} {p : Pln} {c e : Int} (h : ZlA (smX n) [c1, c2, c3] p c e) (hb : 0 <= Xl (smX n) [c1, c2, c3]) : c = Xl (smX n) [c1, c2, c3] /\ e = 0 /\ ∃ zs : List Col, zs.Perm (pk n).1 /\ zs.Pairwise (fun a b => ¬ cfC b a < 0) /\ p = ⟨false, zs.map (·.route), false, (pk n).2⟩ := by
 rcases h with ⟨g1, _⟩ | ⟨_, ⟨c, gc, g2⟩, _⟩ | ⟨_, _, ys, hC, _, h⟩
 ·simp at g1
 ·rw [ZbE n c gc] at g2; cases g2
 ·obtain rfl := Vq hC Zma ZmG;rcases h with ⟨g, _⟩ | ⟨_, rfl, rfl, h⟩
  ·omega
  ·exact ⟨rfl, rfl, h⟩
def rt (t : Int) : Rte := ⟨0, t, true, [], true, []⟩
def rs1 : List Rte := [rt 3]
def rs2 : List Rte := [rt 1, rt 2]
theorem Zeo : PT 9 [.p (XY (smX 1)), .p (.list false ((smL 3).map Xq))] [.p (ZbC ⟨false, rs1, false, []⟩), .p (.int .i64 40), .p (.int .i64 0)] :=
 (V5 (smX 1) [c1, c2, c3] false (Zg0 1 (by decide)) (by decide) (by decide) ZkT (by decide)).mono fun y H' hq => by
  obtain ⟨p, c, e, h, rfl, rfl⟩ := hq;obtain ⟨rfl, rfl, zs, h1, _, rfl⟩ := Zb7 h (by rw [Zer]; decide);rw [pk1] at h1 ⊢;obtain rfl := List.perm_singleton.1 h1;rw [Zer];exact ⟨rfl, rfl⟩
theorem ZeN : PT 9 [.p (XY (smX 2)), .p (.list false ((smL 3).map Xq))] [.p (ZbC ⟨false, rs2, false, []⟩), .p (.int .i64 30), .p (.int .i64 0)] :=
 (V5 (smX 2) [c1, c2, c3] false (Zg0 2 (by decide)) (by decide) (by decide) ZkT (by decide)).mono fun y H' hq => by
  obtain ⟨p, c, e, h, rfl, rfl⟩ := hq;obtain ⟨rfl, rfl, zs, h1, h2, rfl⟩ := Zb7 h (by rw [Zfr]; decide);rw [pk2] at h1 ⊢
  have hz : zs = [c1, c2] \/ zs = [c2, c1] := by
   have hl := h1.length_eq
   have hne : c1 ≠ c2 := fun e => by have := congrArg Col.set e; revert this; decide
   rcases zs with _ | ⟨a, _ | ⟨b, _ | ⟨d, r⟩⟩⟩
   ·simp at hl
   ·simp at hl
   ·have m1 : c1 ∈ [a, b] := h1.mem_iff.2 (by simp);have m2 : c2 ∈ [a, b] := h1.mem_iff.2 (by simp);simp only [List.mem_cons, List.not_mem_nil, or_false] at m1 m2;rcases m1 with e1 | e1 <;> rcases m2 with e2 | e2
    ·exact absurd (e1.trans e2.symm) hne
    ·exact .inl (by rw [e1, e2])
    ·exact .inr (by rw [e1, e2])
    ·exact absurd (e1.trans e2.symm) hne
   ·simp at hl
  rcases hz with rfl | rfl
  ·rw [Zfr]; exact ⟨rfl, rfl⟩
  ·have := (List.pairwise_cons.1 h2).1 c1 (by simp);exact absurd (by decide +kernel) this
theorem Zgl : PT 7 [.p (XY (smX 1)), .p (.list false ([c1, c2].map Xq))] [.p (.int .i64 0), .p (.int .i64 24)] :=
 (Uo (smX 1) [c1, c2] false (Zg0 1 (by decide)) (by decide) (by decide) (fun c hc => ZkT c (by simp at hc ⊢; rcases hc with rfl | rfl <;> simp)) (by decide)).mono fun y H' hq => by
  obtain ⟨a, e, h, rfl, rfl⟩ := hq;rcases h with ⟨g1, _⟩ | ⟨_, ⟨c, gc, g2⟩, _⟩ | ⟨_, _, ys, hC, rfl, rfl⟩
  ·simp at g1
  ·rw [ZbE 1 c (by simp at gc ⊢; rcases gc with rfl | rfl <;> simp)] at g2; cases g2
  ·have hp := Zma;obtain rfl := Vq hC (hp.sublist (List.sublist_append_left [c1, c2] [c3])) (fun a ha b hb => ZmG a (by simp at ha ⊢; rcases ha with rfl | rfl <;> simp) b (by simp at hb ⊢; rcases hb with rfl | rfl <;> simp));rw [Zkc]; exact ⟨rfl, rfl⟩
def c4 : Col := ⟨0, 4, 0, ⟨0, 0, true, [], true, []⟩⟩
theorem ZeX : PT 7 [.p (XY (smX 1)), .p (.list false ([c4].map Xq))] [.p (.int .i64 0), .p (.int .i64 2)] :=
 (Uo (smX 1) [c4] false (Zg0 1 (by decide)) (by decide) (by decide) (fun c hc => by simp at hc; subst hc; decide) (by decide)).mono fun y H' hq => by
  obtain ⟨a, e, h, rfl, rfl⟩ := hq;rcases h with ⟨g1, _⟩ | ⟨_, _, rfl, rfl⟩ | ⟨_, g, _⟩
  ·simp at g1
  ·exact ⟨rfl, rfl⟩
  ·have := g c4 (by simp)
   have h4 : ZM (smX 1) c4 = false := by decide +kernel
   rw [h4] at this; cases this
theorem Zb3 {g : FuncId} {args : List V} {a b c : PV} {H : List AM.Obj} {K : V -> List AM.Obj -> Prop} (h : ACalls Tryd.prog g args [] fun x H' => x = .tup [.p a, .p b, .p c] /\ H' = []) (k : K (.tup [.p a, .p b, .p c]) H) (ha : ZQ 0 args = true := by rfl) : ACalls Tryd.prog g args H K :=
 (h.behind ha H).mono fun x H' hq => by
  obtain ⟨y, H1, ⟨rfl, rfl⟩, rfl, rfl⟩ := hq;simpa [shV, Yi] using k
theorem V2 : PC 6 [] (.bool true) := by
 refine Wm [6] Tryd.func6 rfl Znn ?_;simp (disch := omega) only [Tryd.f6, go_sem, seval];have h3 : (smL 3).length = 3 := rfl;have r1 : rs1.length = 1 := rfl;have r2 : rs2.length = 2 := rfl;have r3 : (nth rs1 0).start = 3 := rfl;have r4 : (nth rs2 0).start = 1 := rfl;have r5 : (nth rs2 1).start = 2 := rfl;refine Zeq (Ve 1 (by decide)) ?_;simp (disch := omega) only [go_sem, seval];refine Zb3 Zeo ?_;simp (disch := omega) only [go_sem, seval];refine Zeq (Ve 2 (by decide)) ?_;simp (disch := omega) only [go_sem, seval];refine Zb3 ZeN ?_;simp (disch := omega) only [go_sem, seval]
 refine Zo mixed (by kernel_rfl) (by kernel_rfl) ?_;simp (disch := omega) only [go_sem, seval];refine KR Zgl ?_;simp (disch := omega) only [go_sem, seval];refine XR (VQ 3 ?_);simp (disch := omega) only [go_sem, seval];refine ⟨_, _, Weak.fz (o := 4) (by rfl), ?_⟩;simp (disch := omega) only [List.map_cons, List.map_nil, List.set_cons_succ, List.set_cons_zero, List.cons_append, List.nil_append, go_sem, seval];refine Zeq ZeX ?_;simp (disch := omega) only [go_sem, seval];refine Za [] _ _ _ _ ?_;simp (maxSteps := 3000000) (disch := omega) only [r1, r2, r3, r4, r5, Int.toNat_zero, Int.toNat_one, go_sem, seval]
end Go.Proofs.YtkhgmjdijnmhbaaDoor.K
