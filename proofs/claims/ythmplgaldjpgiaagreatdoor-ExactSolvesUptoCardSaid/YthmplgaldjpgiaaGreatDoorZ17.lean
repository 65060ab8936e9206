/- Declarations that the closing texts need, part 17: joined by tools/slim.py. -/
import Derived.Test.YthmplgaldjpgiaaGreatDoorZ16
import Derived.Shelf.SlSortCmp.NoneTotal
set_option linter.unusedVariables false
set_option linter.unusedSimpArgs false
namespace Go.AM
open Go.RowKit Go.Shelf Go.Lib Go.Sort Go.Proofs
theorem Zlx {W w':World} {H':List AM.Obj} {ι':List (Option Nat)} (g:Good Zcb [] [] W H' ι' w'): ∃q os',w'=grow (W.drewN q) os':=by
 refine ⟨w'.drawn-W.drawn,w'.heap.extract W.heap.size w'.heap.size,?_⟩
 have h1:w'.heap=W.heap++w'.heap.extract W.heap.size w'.heap.size:=by
  apply Array.ext_getElem?;intro i
  by_cases hi:i<W.heap.size
  ·rw [Array.getElem?_append_left hi];exact g.keep i hi (by simp)
  ·rw [Array.getElem?_append_right (by omega)];have:=g.size;rw [Array.getElem?_extract]
   split
   ·congr 1;omega
   ·rw [Array.getElem?_eq_none (by omega)]
 have h2:W.drawn<=w'.drawn:=g.tape.2.resolve_right fun h=>h;have h3:=g.tape.1;have h4:=g.os;have h5:=g.output
 cases w'
 simp only [grow,World.drewN] at *
 congr 1
 omega
def ZoE (c:Array Value) (k i:Nat):List Value:=(List.range k).map fun j=>c.getD (i*k+j) undef
theorem KP (c k i):(ZoE c k i).length=k:=by simp [ZoE]
theorem QC {c k i j} (h:j<k):(ZoE c k i)[j]! =c.getD (i*k+j) undef:=by
 rw [List.getElem!_eq_getElem?_getD,ZoE,List.getElem?_map,List.getElem?_range h];rfl
theorem ACalls.sortFunc {P : Program} {ρ : Ren} (L : SlLaysF0.n6 P ρ) (hg : Zh P (ρ.f 6)) (k : Nat) (aE : ∀ w, (isAgg (ρ.t 24)).run P w = .ok true w) (zE : ∀ w, (Go.sizeOf (ρ.t 24)).run P w = .ok k w)
    {β : Type} [Inhabited β] (f : β -> PV) (hf : ∀ x, ∃ cs, f x = .agg cs /\ cs.length = k /\ cs.all (·.one) = true) (cf : β -> β -> Int) (hO : SWO (ltOf cf)) (g : FuncId)
    (hcmp : ∀ x y, ACalls P g [.p (f x), .p (f y)] [] fun r H' => r = .p (.int .i64 (cf x y)) /\ H' = []) (xs : List β) (hlen : xs.length < 4611686018427387904) {H : List AM.Obj} {o : Nat} (hHo : H[o]? = some (.elems k (xs.map f))) :
    ACalls P (ρ.f 6) [.sl o 0 xs.length xs.length, .fn (.func g) [] []] H fun y H' => y = .tup [] /\ ∃ ys : List β, ys.Perm xs /\ ys.Pairwise (fun a b => ¬ cf b a < 0) /\ H' = H.set o (.elems k (ys.map f)) := by
  refine ⟨hg, fun F ι w vs hr hv => ?_⟩;obtain ⟨hv1, hv2⟩ := hv;have h0 := hv2 0 _ rfl;have h1 := hv2 1 _ rfl
  have hvs : vs = #[vs.getD 0 undef, vs.getD 1 undef] := by
    apply Array.ext
    · simpa using hv1
    · intro i h2 h3
      have : i = 0 \/ i = 1 := by simp at hv1; omega
      rcases this with rfl | rfl <;> simp [Array.getD, h2]
  rw [hvs];generalize vs.getD 0 undef = v0 at h0 ⊢;generalize vs.getD 1 undef = v1 at h1 ⊢;clear hvs hv1 hv2
  cases h1 with | fn _ _ _ a e hs ht _ _ =>
  have ea : a = #[] := Array.eq_empty_of_size_eq_zero (by simpa using hs);have ee : e = #[] := Array.eq_empty_of_size_eq_zero (by simpa using ht);subst ea; subst ee;generalize hL : xs.length = n at h0 hlen
  by_cases hz : n = 0
  · subst hz
    obtain rfl : xs = [] := List.length_eq_zero_iff.1 hL
    have e1 : H.set o (.elems k (([] : List β).map f)) = H := by
      apply List.ext_getElem?;intro i;rw [List.getElem?_set]
      split
      · rename_i hi; subst hi; rw [hHo]; simp [(List.getElem?_eq_some_iff.1 hHo).1]
      · rfl
    obtain ⟨ad, cap, rfl⟩ : ∃ ad cap, v0 = .slice ad 0 cap := by
      cases h0 with
      | slNil => exact ⟨_, _, rfl⟩
      | sl => exact ⟨_, _, rfl⟩
      | slD _ _ _ _ _ hd => rw [hHo] at hd; cases hd
      | slS _ _ _ _ _ S2 xs2 hd hne => rw [hHo] at hd; simp at hd; obtain ⟨_, rfl⟩ := hd; simp at hne
      | slC _ _ _ _ _ _ hd => rw [hHo] at hd; cases hd
    refine (AnyF.slices_SortFunc_none L ad cap _ w).mono ?_;rintro e w' ⟨rfl, rfl⟩;exact ⟨.tup [], _, ι, _, rfl, ⟨rfl, [], .refl _, .nil, e1.symm⟩, Good.refl hr, .tup [] #[] (by simp) (by simp)⟩
  have hn : 0 < n := by omega
  cases h0 with
  | slNil => omega
  | slD _ _ _ _ _ hd => rw [hHo] at hd; cases hd
  | slS _ _ _ _ _ S ys hd hlt => rw [hHo] at hd; simp at hd; obtain ⟨_, rfl⟩ := hd; simp at hlt; omega
  | slC _ _ _ _ _ _ hd => rw [hHo] at hd; cases hd
  | sl _ _ _ _ b S cap t ys c hι hH ht2 hw hcap hl hle hm =>
  rw [hHo] at hH;simp at hH;obtain ⟨rfl, rfl⟩ := hH;rcases hr.elm o k (xs.map f) hHo with ⟨e1, _⟩ | ⟨b2, c2, t2, cap2, e1, e2, e3, e4, e5, e6, e7⟩
  · rw [hι] at e1; cases e1
  rw [hι] at e1;simp at e1; subst e1;rw [hw] at e2;simp at e2;obtain ⟨rfl, rfl⟩ := e2;have hbs : b < w.heap.size := (hr.avo o b hι).2;have hbF : ¬ F b := (hr.avo o b hι).1
  -- an index, made one that there is
  let ix : Nat -> Nat := fun i => if i < n then i else 0
  have hix : ∀ i, ix i < n := fun i => by simp only [ix]; split <;> omega
  have hixe : ∀ i, i < n -> ix i = i := fun i hi => by simp only [ix]; rw [if_pos hi]
  let enc : Nat -> List Value := fun i => ZoE c k (ix i)
  have hk : ∀ x, (enc x).length = k := fun x => KP _ _ _
  -- one cell of an element
  have cell : ∀ i, i < n -> ∃ cs, f (nth xs i) = .agg cs /\ cs.length = k /\ ∀ (j : Nat) (y : PV), cs[j]? = some y -> y.one = true /\ RP (Own F ι) w y (c.getD (i * k + j) undef) := fun i hi => by
    obtain ⟨cs, q1, q2, q3⟩ := hf (nth xs i);refine ⟨cs, q1, q2, fun j y hj => ⟨List.all_eq_true.1 q3 y (List.mem_of_getElem? hj), ?_⟩⟩;refine e7 i (f (nth xs i)) j y ?_ (by rw [q1]; exact hj);rw [List.getElem?_map, List.getElem?_eq_getElem (by omega), Ze (by omega)]; rfl
  have one : ∀ x, ∀ v ∈ enc x, v.oneCell' = true := fun x v hv => by
    obtain ⟨j, hj, rfl⟩ := List.mem_iff_getElem.1 hv
    have hjk : j < k := by rw [hk] at hj; exact hj
    obtain ⟨cs, q1, q2, q3⟩ := cell (ix x) (hix x);have hg := q3 j (cs[j]'(by omega)) (by simp)
    have e9 : (enc x)[j] = c.getD (ix x * k + j) undef := by
      have := QC (c := c) (i := ix x) hjk;rw [List.getElem!_eq_getElem?_getD, List.getElem?_eq_getElem (by rw [KP]; exact hjk)] at this;exact this
    rw [e9];exact hg.2.oneCell hg.1
  let d : Array Nat := Array.range n
  have hd : d.size = n := by simp [d]
  let cf' : Nat -> Nat -> Int := fun i j => cf (nth xs (ix i)) (nth xs (ix j))
  have hO' : SWO (ltOf cf') := ⟨fun x => hO.irrefl _, fun x y z h1 h2 => hO.trans _ _ _ h1 h2, fun x y z h1 h2 => hO.ntrans _ _ _ h1 h2⟩
  have hsz : n * k <= c.size := by
    rw [e3]; exact Nat.mul_le_mul_right k (by simpa [hL] using e4)
  have hcell : ∀ j, j < c.size -> w.cell? ⟨b, j, none⟩ = some (c.getD j undef) := fun j hj => by
    simp [World.cell?, hw, hj]
  have hHolds : HoldsK enc k w b (0 * k) d := fun j hj => by
    have hj2 : j < n * k := by simpa [hd] using hj
    have k0 : 0 < k := by rcases Nat.eq_zero_or_pos k with h | h; · subst h; simp at hj2
                          · exact h
    rw [get_flatK enc k d j (by rw [hd]; exact hj2)];have hdj : j / k < n := Nat.div_lt_of_lt_mul (by rw [Nat.mul_comm]; exact hj2)
    have hde : d[j / k]! = j / k := by simp [d, hdj]
    rw [hde]
    have e9 : (enc (j / k))[j % k]! = c.getD j undef := by
      show (ZoE c k (ix (j / k)))[j % k]! = _
      rw [hixe _ hdj, QC (Nat.mod_lt _ k0), Nat.div_add_mod']
    rw [e9, Nat.zero_mul, Nat.zero_add];exact ⟨hcell j (by omega), by simp [World.frozen?, hw]⟩
  have hcmp' : CmpLays P g #[] enc k cf' b (0 * k) d.size w := fun m os dk hdk x y => by
    generalize hW : sortWorldK enc k w b (0 * k) m dk os = W
    have hKeep : Keeps (Own F ι) w Zcb W := fun b' hb' hs' => by
      have hne : b' ≠ b := fun e => hb' (.inr (e ▸ List.mem_of_getElem? hι));refine ⟨fun h => h, ?_, ?_⟩
      · rw [<- hW]; simp [sortWorldK, grow, putRowK, putRow, mapBlock, ahead]; omega
      · rw [<- hW]
        simp only [sortWorldK, grow, putRowK, putRow, mapBlock, ahead];rw [Array.getElem?_append_left (by simpa using hs'), Array.getElem?_modify, if_neg (fun e => hne e.symm)]
        rfl
    have heW : Env Zcb [] W := (hr.env.of (w' := W) (ι' := ι) (by rw [<- hW]; simp [sortWorldK, grow, putRowK, putRow, mapBlock, ahead]) (fun b' hb' hni => by
      have hne : b' ≠ b := fun e => hni (e ▸ List.mem_of_getElem? hι);rw [<- hW];simp only [sortWorldK, grow, putRowK, putRow, mapBlock, ahead];rw [Array.getElem?_append_left (by simpa using hb'), Array.getElem?_modify, if_neg (fun e => hne e.symm)]
      rfl) (fun _ _ h => h)).noth
    have arg : ∀ i, RV Zcb [] [] W (.p (f (nth xs (ix i)))) (.agg (enc i).toArray) := fun i => by
      obtain ⟨cs, q1, q2, q3⟩ := cell (ix i) (hix i);refine .p _ _ ?_;rw [q1]
      refine (RP.agg cs (enc i).toArray (by simp [hk, q2]) fun j y hj => ?_ : RP Zcb W _ _).weaker fun b hb => by
        rcases hb with hb | hb
        · exact hb
        · simp at hb
      have hjk : j < k := by rw [<- q2]; exact (List.getElem?_eq_some_iff.1 hj).1
      have e9 : (enc i).toArray.getD j undef = c.getD (ix i * k + j) undef := by
        have := QC (c := c) (i := ix i) hjk;rw [List.getElem!_eq_getElem?_getD, List.getElem?_eq_getElem (by rw [KP]; exact hjk)] at this;simp only [Array.getD_eq_getD_getElem?, List.getElem?_toArray];rw [List.getElem?_eq_getElem (by rw [hk]; exact hjk), Option.getD_some];rw [Option.getD_some] at this;simpa only [Array.getD_eq_getD_getElem?] using this
      rw [e9];exact (q3 j y hj).2.ext hKeep
    refine ((hcmp (nth xs (ix x)) (nth xs (ix y))).2 Zcb [] W _ (Kx heW) ⟨rfl, fun j q hj => ?_⟩).mono ?_
    · cases j with
      | zero => simp at hj; subst hj; exact arg x
      | succ j => cases j with
        | zero => simp at hj; subst hj; exact arg y
        | succ j => simp at hj
    · rintro e' w' ⟨x', H', ι', v, rfl, ⟨rfl, rfl⟩, gd, rv⟩
      cases rv with | p _ _ rp =>
      rw [rp.int_inv];exact ⟨rfl, Zlx gd⟩
  have eg := (hcmp default default).1;have main := AnyQ.slices_SortFunc L k aE zE enc hk one cf' hO' g #[] b (0 * k) cap d w (fun args w => eg args w) hcmp' hHolds hbs (by rw [hd]; exact hlen);rw [hd] at main;refine main.mono ?_;rintro e' w' ⟨rfl, d', m, os, hp, hso, rfl⟩;obtain ⟨p1, _, p3⟩ := hp;rw [hd] at p1
  have hperm : d'.toList.Perm (List.range n) := by
    have e8 : (d'.extract 0 n).toList = d'.toList := by rw [<- p1]; simp
    have e9 : (d.extract 0 n).toList = List.range n := by
      have : d.extract 0 n = d := by rw [<- hd]; simp
      rw [this]; simp [d]
    rw [e8, e9] at p3; exact p3
  have hlt : ∀ i ∈ d'.toList, i < n := fun i hi => by simpa using hperm.mem_iff.1 hi
  have hlt2 : ∀ i, i < n -> d'.toList[i]?.isSome = true := fun i hi => by simp [p1, hi]
  have hget : ∀ i (hi : i < n), d'[i]! = d'.toList[i]'(by simp [p1, hi]) := fun i hi => by
    rw [getElem!_pos d' i (by omega)]; simp
  let ys : List β := d'.toList.map (nth xs)
  have hyl : ys.length = n := by simp [ys, p1]
  have hys : ∀ i (hi : i < n), ys[i]'(by omega) = nth xs d'[i]! := fun i hi => by
    simp only [ys, List.getElem_map]; rw [hget i hi]
  have hdl : ∀ i, i < n -> d'[i]! < n := fun i hi => by rw [hget i hi]; exact hlt _ (List.getElem_mem _)
  have yperm : ys.Perm xs := by
    have h9 : (List.range n).map (nth xs) = xs := by
      refine List.ext_getElem (by simp [hL]) fun i h1 h2 => ?_;simp only [List.getElem_map, List.getElem_range];rw [Ze h2]
    have := hperm.map (nth xs);rw [h9] at this; exact this
  have ysort : ys.Pairwise fun a b => ¬ cf b a < 0 := by
    rw [List.pairwise_iff_getElem];intro i j hi hj hij;rw [hys i (by omega), hys j (by omega)];have h9 := hso i j (Nat.zero_le _) hij (by omega);simp only [ltOf, cf', decide_eq_false_iff_not] at h9;rwa [hixe _ (hdl j (by omega)), hixe _ (hdl i (by omega))] at h9
  let c' : Array Value := putCells id (0 * k) (flatK enc k d') c
  have hcs : c'.size = c.size := by simp [c', putCells]
  have hat : (sortWorldK enc k w b (0 * k) m d' os).heap[b]? = some (.cells c' t (0, 0)) := by
    simp only [sortWorldK, grow, putRowK, putRow, mapBlock, ahead];rw [Array.getElem?_append_left (by simpa using hbs), Array.getElem?_modify, if_pos rfl]
    show Option.map _ w.heap[b]? = _
    rw [hw]; rfl
  have hoth : ∀ q, q < w.heap.size -> q ≠ b -> (sortWorldK enc k w b (0 * k) m d' os).heap[q]? = w.heap[q]? := fun q hq hne => by
    simp only [sortWorldK, grow, putRowK, putRow, mapBlock, ahead];rw [Array.getElem?_append_left (by simpa using hq), Array.getElem?_modify, if_neg (fun e => hne e.symm)]
    rfl
  have hc' : ∀ i j, i < n -> j < k -> c'.getD (i * k + j) undef = c.getD (d'[i]! * k + j) undef := fun i j hi hj => by
    have hb1 : i * k + j < n * k := by
      have := Nat.mul_le_mul_right k (show i + 1 <= n from hi);rw [Nat.add_mul, Nat.one_mul] at this; omega
    have e8 : (flatK enc k d')[i * k + j]! = c.getD (d'[i]! * k + j) undef := by
      rw [get_flatK enc k d' _ (by rw [p1]; exact hb1)]
      have q1 : (i * k + j) / k = i := by rw [Nat.mul_comm, Nat.mul_add_div (by omega), Nat.div_eq_of_lt hj]; omega
      have q2 : (i * k + j) % k = j := by rw [Nat.mul_comm, Nat.mul_add_mod, Nat.mod_eq_of_lt hj]
      rw [q1, q2]
      show (ZoE c k (ix d'[i]!))[j]! = _
      rw [QC hj, hixe _ (hdl i hi)]
    have e9 : c'[i * k + j]? = some ((flatK enc k d')[i * k + j]!) := by
      simp only [c', putCells, Array.getElem?_mapIdx];rw [Array.getElem?_eq_getElem (by omega)];simp only [Option.map_some, Nat.zero_mul, Nat.zero_le, true_and, Nat.zero_add, size_flatK, p1, hb1, if_true, Nat.sub_zero, id]
    rw [Array.getD_eq_getD_getElem?, e9, Option.getD_some, e8]
  have good := Xb (w' := sortWorldK enc k w b (0 * k) m d' os) (c := c') (t := t) (xs' := ys.map f) (cap := cap2) (b' := b) hr (o := o) (S := k) (xs := xs.map f) hHo rfl (Tp.of rfl (by simp [sortWorldK, grow, putRowK, putRow, mapBlock, ahead])) rfl
    (fun c0 t0 h => by rw [hw] at h; simp at h; obtain ⟨rfl, rfl⟩ := h; exact ⟨rfl, hcs⟩) (by simp [sortWorldK, grow, putRowK, putRow, mapBlock, ahead]) hat hoth (.inl ⟨hι, .inl ⟨by simp [hyl, hL], fun c0 t0 h => by rw [hw] at h; simp at h; obtain ⟨rfl, rfl⟩ := h; exact ⟨rfl, hcs⟩⟩⟩)
    (by rw [hcs]; exact e3) (by simp only [List.length_map, hyl]; simpa [hL] using e4) e5
    (fun i x hi => by
      rw [List.getElem?_map, Option.map_eq_some_iff] at hi;obtain ⟨y, _, rfl⟩ := hi;obtain ⟨cs, q1, q2, _⟩ := hf y
      rw [q1]; exact q2)
    (fun i x j y hi hj => by
      rw [List.getElem?_map, Option.map_eq_some_iff] at hi;obtain ⟨z, hz, rfl⟩ := hi
      have hin : i < n := by have := (List.getElem?_eq_some_iff.1 hz).1; omega
      have e8 : z = nth xs d'[i]! := by
        obtain ⟨h9, h10⟩ := List.getElem?_eq_some_iff.1 hz;rw [<- h10]; exact hys i hin
      obtain ⟨cs, q1, q2, q3⟩ := cell _ (hdl i hin);rw [e8, q1] at hj
      have hjk : j < k := by rw [<- q2]; exact (List.getElem?_eq_some_iff.1 hj).1
      rw [hc' i j hin hjk]
      exact (q3 j y hj).2)
  have ZJ : ι.set o (some b) = ι := by
    refine List.ext_getElem? fun i => ?_;rw [List.getElem?_set]
    split
    · rename_i e; subst e
      have := (List.getElem?_eq_some_iff.1 hι).1;rw [if_pos this, hι]
    · rfl
  rw [ZJ] at good;exact ⟨.tup [], _, ι, .tuple #[], rfl, ⟨rfl, ys, yperm, ysort, rfl⟩, good, .tup [] #[] rfl (fun j c hj => by simp at hj)⟩
end Go.AM
set_option linter.unusedVariables false
set_option linter.unusedSimpArgs false
namespace Go.Proofs.YthmplgaldjpgiaaGreatDoor.K
open Go Go.AM Go.Proofs
set_option maxRecDepth 60000
set_option maxHeartbeats 8000000
theorem Zgn {α:Type} [Inhabited α] {l:List α} {i j:Nat} {a:α} (h:i<l.length):nth (l.set i a) j=if i=j then a else nth l j:=by
 unfold nth
 by_cases e:i=j
 ·subst e;simp [h]
 ·simp [e,List.getD_eq_getElem?_getD,List.getElem?_set_ne e]
theorem Zda {α:Type} [Inhabited α] {l:List α} {j:Nat} {a:α} (h:j<l.length):nth (l++ [a]) j=nth l j:=by
 unfold nth;simp [List.getD_eq_getElem?_getD,List.getElem?_append_left h]
theorem Zc7 {α:Type} [Inhabited α] {l:List α} {a:α} :nth (l++ [a]) l.length=a:=by
 unfold nth;simp [List.getD_eq_getElem?_getD]
def cfK (a b:Col):Int:=orI [Uq a.typ b.typ,Uq a.set b.set]
theorem ZeA {a b:Int} :Uq a b<0↔a<b:=by unfold Uq;split<;>(try split)<;>omega
theorem Zec {a b:Int} :Uq a b=0↔a=b:=by unfold Uq;split<;>(try split)<;>omega
theorem U2 {a b:Col} :cfK a b<0↔a.typ<b.typ\/(a.typ=b.typ/\a.set<b.set):=by
 unfold cfK;rw [Zch]
 split
 ·rename_i h;rw [Zec] at h;rw [ZeA];omega
 ·rename_i h;rw [Zec] at h;rw [ZeA];omega
theorem Zn0 : Go.Sort.SWO (ltOf cfK) where
 irrefl x:=by simp only [ltOf,decide_eq_false_iff_not,U2];omega
 trans x y z h1 h2:=by simp only [ltOf,decide_eq_true_eq,U2] at *;omega
 ntrans x y z h1 h2:=by simp only [ltOf,decide_eq_false_iff_not,U2] at *;omega
theorem Zcs (a b:Col):PC 130 [.p (Xa a),.p (Xa b)] (.int .i64 (cfK a b)):=by
 refine Za Tryz.func130 rfl ZqV ?_;simp (disch:=omega) only [Tryz.f130,go_sem,seval];refine Zg mixed (by kernel_rfl) (by kernel_rfl) ?_;simp (disch:=omega) only [go_sem,seval];refine Zj (Zfa a.typ b.typ) ?_;simp (disch:=omega) only [go_sem,seval];refine Zj (Zfa a.set b.set) ?_;simp (disch:=omega) only [go_sem,seval];refine Zj (ZBr [Uq a.typ b.typ,Uq a.set b.set] false (by simp)) ?_;simp (disch:=omega) only [go_sem,seval]
 rfl
theorem ZoO (xs:List Col) (hl:xs.length<=1048576) {H:List AM.Obj} {o:Nat} (hH:H[o]? =some (.elems 7 (xs.map Xa))) :
  ACalls Tryz.prog 53 [.sl o 0 xs.length xs.length,.fn (.func 130) [] []] H fun y H'=>y= .tup []/\ ∃ys:List Col,ys.Perm xs/\ys.Pairwise (fun a b=> ¬cfK b a<0)/\H'=H.set o (.elems 7 (ys.map Xa)) :=
 ACalls.sortFunc Zed Zrj 7 Tryz.isAgg58 Tryz.sizeOf58 Xa (fun x=>⟨_,rfl,rfl,rfl⟩) cfK Zn0 130 Zcs xs (by omega) hH
def kd (c:Col):Kd:=⟨c.typ,c.set⟩
def Bst (l:List Col) (k:Nat) (d:Col):Prop:= ∃j,j<k/\nth l j=d/\ ∀i,i<k->kd (nth l i)=kd d->d.price<(nth l i).price\/(d.price=(nth l i).price/\j<=i)
structure Chp (l:List Col) (k:Nat) (m:List (Kd×Int)) (out:List Col):Prop where
 len:out.length<=k
 at1: ∀i,i<out.length->mq m (kd (nth out i))=some (i:Int)
 at2: ∀q v,mq m q=some v-> ∃i,i<out.length/\v=i/\kd (nth out i)=q
 bst: ∀i,i<out.length->Bst l k (nth out i)
 all: ∀j,j<k-> ∃i,i<out.length/\kd (nth out i)=kd (nth l j)
theorem Zlk (l:List Col):Chp l 0 [] []:=⟨by simp,fun i h=>by simp at h,fun q v h=>by simp [mq] at h,fun i h=>by simp at h,fun j h=>by simp at h⟩
theorem Znn {l:List Col} {k:Nat} {m m':List (Kd×Int)} {out:List Col} (h:Chp l k m out) (hn:mq m (kd (nth l k))=none) (hm: ∀q,mq m' q=if q=kd (nth l k) then some (out.length:Int) else mq m q):Chp l (k+1) m' (out++ [nth l k]):=by
 have hno: ∀i,i<out.length->kd (nth out i)≠kd (nth l k):=fun i hi e=>by
  have:=h.at1 i hi;rw [e,hn] at this;cases this
 have split: ∀i,i<(out++ [nth l k]).length->(i<out.length/\nth (out++ [nth l k]) i=nth out i)\/(i=out.length/\nth (out++ [nth l k]) i=nth l k):=fun i hi=>by
  simp only [List.length_append,List.length_cons,List.length_nil] at hi;rcases Nat.lt_or_ge i out.length with h1 | h1
  ·exact .inl ⟨h1,Zda h1⟩
  ·obtain rfl:i=out.length:=by omega
   exact .inr ⟨rfl,Zc7⟩
 refine ⟨by have:=h.len;simp;omega,fun i hi=> ?_,fun q v hq=> ?_,fun i hi=> ?_,fun j hj=> ?_⟩
 ·rcases split i hi with ⟨h1,e⟩ | ⟨rfl,e⟩
  ·rw [e,hm,if_neg (hno i h1)];exact h.at1 i h1
  ·rw [e,hm,if_pos rfl]
 ·rw [hm] at hq
  split at hq
  ·rename_i e;simp only [Option.some.injEq] at hq;exact ⟨out.length,by simp,hq.symm,by rw [Zc7,e]⟩
  ·obtain ⟨i,h1,h2,h3⟩:=h.at2 q v hq;exact ⟨i,by simp;omega,h2,by rw [Zda h1];exact h3⟩
 ·rcases split i hi with ⟨h1,e⟩ | ⟨rfl,e⟩
  ·rw [e];obtain ⟨j,h2,h3,h4⟩:=h.bst i h1;refine ⟨j,by omega,h3,fun p hp he=> ?_⟩;rcases Nat.lt_succ_iff_lt_or_eq.1 hp with h5 | rfl
   ·exact h4 p h5 he
   ·exact absurd he.symm (hno i h1)
  ·rw [e];refine ⟨k,by omega,rfl,fun p hp he=> ?_⟩;rcases Nat.lt_succ_iff_lt_or_eq.1 hp with h5 | rfl
   ·obtain ⟨i,h6,h7⟩:=h.all p h5;exact absurd (h7.trans he) (hno i h6)
   ·exact .inr ⟨rfl,Nat.le_refl _⟩
 ·rcases Nat.lt_succ_iff_lt_or_eq.1 hj with h5 | rfl
  ·obtain ⟨i,h6,h7⟩:=h.all j h5;exact ⟨i,by simp;omega,by rw [Zda h6];exact h7⟩
  ·exact ⟨out.length,by simp,by rw [Zc7]⟩
theorem Znh {l:List Col} {k:Nat} {m:List (Kd×Int)} {out:List Col} {i:Nat} (h:Chp l k m out) (hi:i<out.length) (hk:kd (nth out i)=kd (nth l k)):Chp l (k+1) m (if (nth l k).price<(nth out i).price then out.set i (nth l k) else out):=by
 have hun: ∀j,j<out.length->kd (nth out j)=kd (nth l k)->j=i:=fun j hj e=>by
  have h1:=h.at1 j hj;have h2:=h.at1 i hi;rw [e] at h1;rw [hk,h1] at h2
  have h3:(j:Int)=i:=by simpa using h2
  omega
 split
 ·rename_i hp
  have key: ∀j,kd (nth (out.set i (nth l k)) j)=kd (nth out j):=fun j=>by
   rw [Zgn hi]
   split
   ·rename_i e;subst e;exact hk.symm
   ·rfl
  refine ⟨by have:=h.len;simp;omega,fun j hj=> ?_,fun q v hq=> ?_,fun j hj=> ?_,fun j hj=> ?_⟩
  ·rw [key];exact h.at1 j (by simpa using hj)
  ·obtain ⟨j,h1,h2,h3⟩:=h.at2 q v hq;exact ⟨j,by simpa using h1,h2,by rw [key];exact h3⟩
  ·simp only [List.length_set] at hj;rw [Zgn hi]
   split
   ·rename_i e;subst e;refine ⟨k,by omega,rfl,fun p hp2 he=> ?_⟩;rcases Nat.lt_succ_iff_lt_or_eq.1 hp2 with h5 | rfl
    ·obtain ⟨j,h6,h7,h8⟩:=h.bst i hi;have:=h8 p h5 (he.trans hk.symm)
     left;omega
    ·exact .inr ⟨rfl,Nat.le_refl _⟩
   ·rename_i e;obtain ⟨p,h2,h3,h4⟩:=h.bst j hj;refine ⟨p,by omega,h3,fun p' hp' he=> ?_⟩;rcases Nat.lt_succ_iff_lt_or_eq.1 hp' with h5 | rfl
    ·exact h4 p' h5 he
    ·exact absurd (hun j hj he.symm).symm e
  ·rcases Nat.lt_succ_iff_lt_or_eq.1 hj with h5 | rfl
   ·obtain ⟨p,h6,h7⟩:=h.all j h5;exact ⟨p,by simpa using h6,by rw [key];exact h7⟩
   ·exact ⟨i,by simpa using hi,by rw [key];exact hk⟩
 ·rename_i hp;refine ⟨by have:=h.len;omega,h.at1,h.at2,fun j hj=> ?_,fun j hj=> ?_⟩
  ·obtain ⟨p,h2,h3,h4⟩:=h.bst j hj;refine ⟨p,by omega,h3,fun p' hp' he=> ?_⟩;rcases Nat.lt_succ_iff_lt_or_eq.1 hp' with h5 | rfl
   ·exact h4 p' h5 he
   ·have:=hun j hj he.symm;subst this;omega
  ·rcases Nat.lt_succ_iff_lt_or_eq.1 hj with h5 | rfl
   ·exact h.all j h5
   ·exact ⟨i,hi,hk⟩
structure Cheap (l ys:List Col):Prop where
 asc:ys.Pairwise fun a b=>cfK a b<0
 bst: ∀d∈ys,Bst l l.length d
 all: ∀c∈l,∃d∈ys,kd d=kd c
theorem ZnX {l:List Col} {m:List (Kd×Int)} {out ys:List Col} (h:Chp l l.length m out) (hp:ys.Perm out) (ha:ys.Pairwise fun a b=> ¬cfK b a<0):Cheap l ys:=by
 have hnd:out.Pairwise fun a b=>kd a≠kd b:=by
  rw [List.pairwise_iff_getElem];intro i j hi hj hij e;have h1:=h.at1 i hi;have h2:=h.at1 j hj;rw [Ze hi] at h1;rw [Ze hj] at h2;rw [e,h2] at h1;simp at h1;omega
 have hnd2:ys.Pairwise fun a b=>kd a≠kd b:=(hp.pairwise_iff fun h e=>h e.symm).2 hnd;refine ⟨(hnd2.and ha).imp fun {a b} hh=> ?_,fun d hd=> ?_,fun c hc=> ?_⟩
 ·rw [U2] at hh ⊢;have: ¬(a.typ=b.typ/\a.set=b.set):=fun e=>hh.1 (by simp [kd,e.1,e.2]);omega
 ·obtain ⟨i,hi,rfl⟩:=List.mem_iff_getElem.1 (hp.mem_iff.1 hd);rw [<- Ze hi];exact h.bst i hi
 ·obtain ⟨j,hj,rfl⟩:=List.mem_iff_getElem.1 hc;obtain ⟨i,hi,e⟩:=h.all j hj;exact ⟨nth out i,hp.mem_iff.2 (Zv hi),by rw [e,Ze hj]⟩
theorem ZeT (l:List Col) (c:Bool) (hl:l.length<=8192):ACalls Tryz.prog 83 [.p (.list c (l.map Xa))] [] fun y H'=> ∃ys:List Col,(Cheap l ys/\ys.length<=l.length)/\y= .p (.list false (ys.map Xa))/\H'= []:=by
 refine Zb [15] Tryz.func83 rfl ZAs ?_;simp (disch:=omega) only [Tryz.f83,go_sem,seval];refine Zf [3,11,12] (fun q:Nat×List (Kd×Int)×List Col=> [(4,.sl 1 0 q.2.2.length q.2.2.length),(13,.p (.int .i64 q.1))]) (fun q=> [.map (q.2.1.map (eKI eKd)),.elems 7 (q.2.2.map Xa)]) (fun q=>q.1<=l.length/\Chp l q.1 q.2.1 q.2.2) (fun q=>l.length-q.1) (0,[],[]) ⟨by simp,Zlk l⟩ (Weak.ofNil 4 7 (by simp (disch:=omega) only [go_sem,seval]) (by simp) (Weak.mk ?_)) ?_
 ·simp (disch:=omega) only [List.map_nil,List.length_nil,go_sem,seval]
 ·rintro ⟨k,m,out⟩ ⟨hk,hC⟩;simp only at hk hC;have hol:=hC.len;simp (disch:=omega) only [go_sem,seval];refine cD ?_ ?_<;>intro h1<;>simp (disch:=omega) only [Sh.out h1,go_sem,seval]
  ·have hk2:k<l.length:=by omega
   refine ZjD (l:=m) (k:=kd (nth l k)) ZlH (fun _ _=>trivial) trivial (by rfl) ?_;simp (disch:=omega) only [go_sem,seval]
   cases hq:mq m (kd (nth l k)) with
   | none =>
    simp (disch:=omega) only [hq,Option.isSome_none,Option.getD_none,go_sem,seval];refine Zdd (l:=m) (k:=kd (nth l k)) ZlH (fun _ _=>trivial) trivial (by rfl) fun m' hm' _=> ?_;simp (disch:=omega) only [List.set_cons_zero,go_sem,seval];exact ⟨(k+1,m',out++ [nth l k]),⟨by simp only;omega,Znn hC hq hm'⟩,by simp only;omega,Weak.mk (by simp (disch:=omega) only [List.map_append,List.map_cons,List.map_nil,List.length_append,List.length_cons,List.length_nil,Nat.zero_add,go_sem,seval])⟩
   | some v =>
    obtain ⟨i,hi,rfl,hkd⟩:=hC.at2 _ _ hq;have hold:=Znh hC hi hkd;simp (disch:=omega) only [hq,Option.isSome_some,Option.getD_some,go_sem,seval];refine Zg mixed (by kernel_rfl) (by kernel_rfl) ?_;simp (disch:=first | omega | (simp only [List.length_cons,List.length_nil,List.length_append,List.length_map,List.length_take,List.length_drop]<;>omega)) only [XJ hi,hi,go_sem,seval];refine cD ?_ ?_<;>intro h2<;>simp (disch:=omega) only [Sh.out h2,go_sem,seval]
    ·rw [if_pos h2] at hold;simp (disch:=first | omega | (simp only [List.length_cons,List.length_nil,List.length_append,List.length_map,List.length_take,List.length_drop]<;>omega)) only [XJ hi,hi,go_sem,seval];exact ⟨(k+1,m,out.set i (nth l k)),⟨by simp only;omega,hold⟩,by simp only;omega,Weak.mk (by simp (disch:=omega) only [List.map_set,List.length_set,go_sem,seval])⟩
    ·rw [if_neg h2] at hold;exact ⟨(k+1,m,out),⟨by simp only;omega,hold⟩,by simp only;omega,wk⟩
  ·have hkl:k=l.length:=by omega
   subst hkl;refine (ZoO out (by omega) (H:=_) (o:=1) rfl).mono ?_;rintro y H' ⟨rfl,ys,g1,g2,rfl⟩;have hyl:ys.length=out.length:=g1.length_eq;simp (disch:=omega) only [List.set_cons_succ,List.set_cons_zero,go_sem,seval];rw [<- hyl];refine Zm (Weak.fz (o:=1) (by rfl)) ?_;refine Zd [] _ _ _ _ ?_;simp (disch:=omega) only [List.map_cons,List.map_nil,List.set_cons_succ,List.set_cons_zero,go_sem,seval];exact ⟨.p (.list false (ys.map Xa)),[],wk,ys,⟨ZnX hC g1 g2,by omega⟩,rfl,rfl⟩
def Xt (x:Inst):Nat->Nat
 | 0=>0
 | i+1=>if (nth x.orders i).off=true then Xt x i else Xt x i|||pw i
theorem ZeC (x:Inst): ∀i,Xt x i<2^i
 | 0=>by simp [Xt]
 | i+1=>by
  have:=ZeC x i
  have h:2^(i+1)=2*2^i:=by rw [Nat.pow_succ,Nat.mul_comm]
  rw [Xt]
  split
  ·omega
  ·exact Nat.or_lt_two_pow (by omega) (by rw [pw];omega)
theorem Y5 (x:Inst): ∀(n i:Nat),(Xt x n).testBit i=(decide (i<n)&& !(nth x.orders i).off)
 | 0,i=>by simp [Xt]
 | n+1,i=>by
  rw [Xt]
  split
  ·rename_i h;rw [Y5 x n i]
   by_cases e:i=n
   ·subst e;simp [h]
   ·have:decide (i<n+1)=decide (i<n):=by simp;omega
    rw [this]
  ·rename_i h;rw [Nat.testBit_or,Y5 x n i,pw,Nat.testBit_two_pow]
   by_cases e:i=n
   ·subst e;simp at h;simp [h]
   ·have e1:decide (i<n+1)=decide (i<n):=by simp;omega
    have e2:decide (n=i)=false:=by simp;omega
    rw [e1,e2,Bool.or_false]
theorem Zqm (o:Ord):PC 128 [.p (Ug o)] (.bool true):=by
 refine Za Tryz.func128 rfl Zua ?_;simp (disch:=omega) only [Tryz.f128,go_sem,seval]
theorem ZtL (x:Inst) (hn:x.orders.length<=10):PC 127 [.p (Zt x),.fn (.func 128) [] []] (.int .i64 ((Xt x x.orders.length:Nat):Int)):=by
 refine Zb [] Tryz.func127 rfl Zto ?_;simp (disch:=omega) only [Tryz.f127,go_sem,seval];refine Zf [1,9,10] (fun k:Nat=> [(5,.p (.int .i64 ((Xt x k:Nat):Int))),(11,.p (.int .i64 k))]) (fun _=> [Zc x]) (fun k=>k<=x.orders.length) (fun k=>x.orders.length-k) 0 (by simp) (Weak.mk ?_) ?_
 ·have h00:((Xt x 0:Nat):Int)=0:=rfl;simp (disch:=omega) only [h00,Zc,go_sem,seval]
 ·intro k hk;simp (disch:=omega) only [Zc,go_sem,seval];refine cD ?_ ?_<;>intro h1<;>simp (disch:=omega) only [Sh.out h1,go_sem,seval]
  ·have hk2:k<x.orders.length:=by omega
   have hm:=ZeC x k;have hp:2^k<=2^10:=Nat.pow_le_pow_right (by omega) (by omega);have hpw:pw k<=1024:=hp;refine gT ?_ ?_<;>intro h2<;>simp (disch:=omega) only [Sh.out h2,go_sem,seval]
   ·refine (Zqm (nth x.orders k)).use ?_;simp (disch:=omega) only [go_sem,seval]
    have ho:(nth x.orders k).off=false:=by simpa using h2
    exact ⟨k+1,by omega,by omega,Weak.mk (by simp (disch:=omega) only [Xt,ho,Bool.false_eq_true,if_false,Zc,go_sem,seval])⟩
   ·have ho:(nth x.orders k).off=true:=by simpa using h2
    exact ⟨k+1,by omega,by omega,Weak.mk (by simp (disch:=omega) only [Xt,ho,if_true,Zc,go_sem,seval])⟩
  ·have hkl:k=x.orders.length:=by omega
   subst hkl;exact we
theorem ZwF (x:Inst) (hn:x.orders.length<=10):PC 81 [.p (Zt x)] (.int .i64 ((Xt x x.orders.length:Nat):Int)):=by
 refine Za Tryz.func81 rfl ZA8 ?_;simp (disch:=omega) only [Tryz.f81,go_sem,seval];refine (ZtL x hn).use ?_;simp (disch:=omega) only [go_sem,seval]
def Zqj (S M:Nat):Bool:=(List.range 63).all fun i=> !S.testBit i||M.testBit i
theorem ZnH (S M:Nat) (hS:S<9223372036854775808):PC 129 [.p (.int .i64 (S:Int)),.p (.int .i64 (M:Int))] (.bool (Zqj S M)):=by
 refine Za Tryz.func129 rfl ZrC ?_;simp (disch:=omega) only [Tryz.f129,go_sem,seval];have hb:=Jv (S:=S) (M:=M) hS
 have hd:decide (IntKind.i64.wrap ((BitVec.ofInt 64 (S:Int)&&& ~~~BitVec.ofInt 64 (M:Int)).toNat:Int)=0)=((List.range 63).all fun i=> !S.testBit i||M.testBit i):=by
  rw [Bool.eq_iff_iff];simp only [decide_eq_true_eq];exact hb
 exact congrArg (fun b=>V.p (PV.bool b)) hd
def rightB (x:Inst) (c:Col):Bool:=decide (0<=c.typ)&&(decide (c.typ<x.types.length)&&(decide (0<c.set)&&(Zqj c.set.toNat (Xt x x.orders.length)&&(decide (0<=c.price)&&decide (c.price<=18014398509481984)))))
theorem Zid (x:Inst) (c:Col) (hs:c.set<9223372036854775808) (ht:x.types.length<=1048576):PC 82 [.p (Zt x),.p (Xa c),.p (.int .i64 ((Xt x x.orders.length:Nat):Int))] (.bool (rightB x c)):=by
 refine Za Tryz.func82 rfl Zz3 ?_;simp (disch:=omega) only [Tryz.f82,go_sem,seval];refine gT ?_ ?_<;>intro h1<;>simp (disch:=omega) only [Sh.out h1,go_sem,seval]
 ·refine gT ?_ ?_<;>intro h2<;>simp (disch:=omega) only [Sh.out h2,go_sem,seval]
  ·refine gT ?_ ?_<;>intro h3<;>simp (disch:=omega) only [Sh.out h3,go_sem,seval]
   ·obtain ⟨S,hS⟩: ∃S:Nat,c.set=(S:Int):=⟨c.set.toNat,by omega⟩
    have e1:rightB x c=(Zqj S (Xt x x.orders.length)&&(decide (0<=c.price)&&decide (c.price<=18014398509481984))):=by
     have h3':0<(S:Int):=by omega
     simp only [rightB,h1,h2,hS,h3',decide_true,Bool.true_and,Int.toNat_natCast]
    rw [hS];refine (ZnH S (Xt x x.orders.length) (by omega)).use ?_;simp (disch:=omega) only [go_sem,seval];refine gT ?_ ?_<;>intro h4<;>simp (disch:=omega) only [Sh.out h4,go_sem,seval]
    ·refine gT ?_ ?_<;>intro h5<;>simp (disch:=omega) only [Sh.out h5,go_sem,seval]
     ·simp [e1,h4,h5]
     ·simp [e1,h5]
    ·simp [e1,h4]
   ·simp [rightB,h1,h2,h3]
  ·simp [rightB,h1,h2]
 ·simp [rightB,h1]
theorem ZE6 (n:Nat) (h0:0<n) (h:n<16):PC 89 [.p (.int .u64 n)] (.int .i64 (tzN n)):=by
 refine Za Tryz.func89 rfl ZB8 ?_;simp (disch:=omega) only [Tryz.f89,go_sem,seval];refine (Ztl n h0 h).use ?_;simp (disch:=omega) only [go_sem,seval]
theorem Zd4 (n:Nat) (h0:0<n) (h:n<16):PC 55 [.p (.int .i64 n)] (.int .i64 (tzN n)):=by
 refine Za Tryz.func55 rfl ZCi ?_;simp (disch:=omega) only [Tryz.f55,go_sem,seval];refine cD ?_ ?_<;>intro h1<;>simp (disch:=omega) only [Sh.out h1,go_sem,seval]
 ·omega
 ·refine (ZE6 n h0 h).use ?_;simp (disch:=omega) only [go_sem,seval]
def skpF (x:Inst) (i:Nat):Int:=if (unsF x i).2=0/\(W5 (unsF x i).1).2=0 then (W5 (unsF x i).1).1 else-1
def Yc (ys:List Col) (i:Nat):List Col:=ys.filter fun c=>decide (tzN c.set.toNat=(i:Int))
def fstF (n:Nat) (ys:List Col):List (List Col):=(List.range n).map (Yc ys)
theorem ZiK {ys:List Col} {k i:Nat} (h:k<ys.length):Yc (ys.take (k+1)) i=if tzN (nth ys k).set.toNat=(i:Int) then Yc (ys.take k) i++ [nth ys k] else Yc (ys.take k) i:=by
 rw [List.take_succ_eq_append_getElem h,Yc,List.filter_append,<- Ze h]
 by_cases e:tzN (nth ys k).set.toNat=(i:Int)
 ·simp [e,Yc]
 ·simp [e,Yc]
theorem ZkL (i:Nat):Yc [] i= []:=rfl
theorem Qt (ys:List Col) (k i:Nat):(Yc (ys.take k) i).length<=ys.length:=by
 refine Nat.le_trans (List.length_filter_le _ _) ?_;simp;omega
theorem Ve (ys):fstF 0 ys= []:=rfl
theorem Vf (ys):fstF 1 ys= [Yc ys 0]:=rfl
theorem Vo (ys):fstF 2 ys= [Yc ys 0,Yc ys 1]:=rfl
theorem Vd (ys):fstF 3 ys= [Yc ys 0,Yc ys 1,Yc ys 2]:=rfl
theorem Vp (ys):fstF 4 ys= [Yc ys 0,Yc ys 1,Yc ys 2,Yc ys 3]:=rfl
def V0 : List (List Col)->Nat->List V
 | [],_=> []
 | p::P,o=> .sl o 0 p.length p.length::V0 P (o+1)
def Uz (P:List (List Col)):List AM.Obj:=P.map fun p=> .elems 7 (p.map Xa)
theorem Zf1 {n0:Nat} {fr:List V} {a b c:AM.Obj} (h0:n0<=4) (n:Nat):Weak n0 fr [a,b,c,.cells (List.replicate n (.p (.list true [])))] fr (a::b::c:: .cells (V0 (List.replicate n []) 4)::Uz (List.replicate n [])):=by
 have hr: ∀(k o:Nat),V0 (List.replicate k []) o=(List.range k).map fun j=>V.sl (o+j) 0 0 0:=fun k=>by
  induction k with
  | zero=>intro o;rfl
  | succ k ih =>
   intro o;rw [List.replicate_succ,V0,ih,List.range_succ_eq_map,List.map_cons,List.map_map];simp only [List.length_nil,Nat.add_zero,List.cons.injEq,true_and];apply List.map_congr_left;intro j _;simp only [Function.comp]
   congr 1;omega
 have key: ∀k,k<=n->Weak n0 fr [a,b,c,.cells (List.replicate n (.p (.list true [])))] fr (a::b::c:: .cells (((List.range k).map fun j=>V.sl (4+j) 0 0 0)++List.replicate (n-k) (.p (.list true [])))::List.replicate k (.elems 7 [])):=fun k=>by
  induction k with
  | zero=>intro _;simpa using Weak.refl _ _ _
  | succ k ih =>
   intro hk
   have h1:=(ih (by omega)).trans (Weak.nilC (n0:=n0) (fr:=fr) (o:=3) (j:=k) 7 (by rfl) (by
    rw [List.getElem?_append_right (by simp)];simp only [List.length_map,List.length_range,Nat.sub_self]
    rw [List.getElem?_replicate,if_pos (by omega)]) (by simp;omega))
   have e1:List.length (a::b::c::AM.Obj.cells (((List.range k).map fun j=>V.sl (4+j) 0 0 0)++List.replicate (n-k) (.p (.list true [])))::List.replicate k (AM.Obj.elems 7 []))=4+k:=by simp;omega
   have e2:(((List.range k).map fun j=>V.sl (4+j) 0 0 0)++List.replicate (n-k) (V.p (.list true []))).set k (.sl (4+k) 0 0 0)=((List.range (k+1)).map fun j=>V.sl (4+j) 0 0 0)++List.replicate (n-(k+1)) (V.p (.list true [])):=by
    rw [List.set_append_right _ _ (by simp),show n-k=(n-(k+1))+1 by omega,List.replicate_succ,List.range_succ,List.map_append];simp
   rw [e1,List.set_cons_succ,List.set_cons_succ,List.set_cons_succ,List.set_cons_zero,e2] at h1;simpa [List.replicate_succ'] using h1
 have:=key n (Nat.le_refl _);rw [Nat.sub_self,List.replicate_zero,List.append_nil,<- hr] at this
 have e:Uz (List.replicate n [])=List.replicate n (.elems 7 []):=by simp [Uz]
 rw [e];exact this
def skF (x:Inst) (n:Nat):List Int:=(List.range n).map (skpF x)
def bgO (x:Inst) (m:Int) (f g:V):AM.Obj:= .cells [.p (.list x.net.places_c (x.net.places.map eS)),.p (.list x.net.arcs_c (x.net.arcs.map Qh)),.p (.list x.types_c (x.types.map U7)),.p (.list x.orders_c (x.orders.map Ug)),.p (.list x.apart_c (x.apart.map eP)),.p (.list x.before_c (x.before.map eP)),f,g,.mp 1,.p (.int .i64 m)]
theorem Y6 {x:Inst} {c:Col} (h:rightB x c=true) (hs:c.set<9223372036854775808): ∃S:Nat,c.set=S/\0<S/\S<2^x.orders.length/\ ∀i,S.testBit i=true->i<x.orders.length/\(nth x.orders i).off=false:=by
 simp only [rightB,Bool.and_eq_true,decide_eq_true_eq] at h;obtain ⟨_,_,h3,h4,_⟩:=h
 have key: ∀i,c.set.toNat.testBit i=true->i<x.orders.length/\(nth x.orders i).off=false:=fun i hi=>by
  have h63:i<63:=by
   rcases Nat.lt_or_ge i 63 with h | h
   ·exact h
   ·have:2^63<=2^i:=Nat.pow_le_pow_right (by omega) h;rw [Nat.testBit_lt_two_pow (by omega)] at hi;cases hi
  have:=List.all_eq_true.1 h4 i (List.mem_range.2 h63);rw [hi,Y5] at this;simpa using this
 refine ⟨c.set.toNat,by omega,by omega,?_,key⟩;refine Nat.lt_pow_two_of_testBit _ fun i hi=> ?_
 cases hb:c.set.toNat.testBit i with
 | false=>rfl
 | true=>have:=(key i hb).1;omega
theorem ZuM {S n:Nat} (h0:0<S) (h:S<2^n) (hn:n<=4):tzN S<n/\0<=tzN S:=by
 have:n=0\/n=1\/n=2\/n=3\/n=4:=by omega
 unfold tzN;rcases this with rfl | rfl | rfl | rfl | rfl<;>(repeat' split)<;>omega
theorem K4 (x:Inst) (k:Nat):skF x (k+1)=skF x k++ [skpF x k]:=by simp [skF,List.range_succ]
theorem Vt (x:Inst) (k:Nat):(skF x k).length=k:=by simp [skF]
theorem ZBi (x:Inst):skF x 0= []:=rfl
theorem Zdu {P:Program} {ko:List Nat} {l:List Oper} {n:Nat} {rem:List Nat} {fr:List V} {H:List AM.Obj} {K:List V->List AM.Obj->Prop} (m:Nat) (Y:V) (Z:List AM.Obj) (hr:WJ l rem= [m]) (h:Zs P (Z8 l m) fr H fun y H'=>y=Y/\H'=Z)
  (k:(∀k∈ko,oat Z k=oat H k)/\K1 P ko l n (rem.erase m) (ptO fr (Z8 l m).dst Y) Z K):K1 P ko l (n+1) rem fr H K :=
 Zbu m _ hr h fun y H' hq=>by obtain ⟨rfl,rfl⟩:=hq;exact k
theorem Zbe (x:Inst) (l:List Col) (lc:Bool) (hn:x.orders.length<=4) (ht:x.types.length<=1048576) (hu: ∀i:Nat,scoR 1152921504606846976 (unsF x i).1) (hs: ∀c∈l,c.set<9223372036854775808) (hl:l.length<=1048576) :
  ACalls Tryz.prog 49 [.p (Zt x),.p (.list lc (l.map Xa))] [] fun y H'=>(8192<l.length/\y= .tup [.p .nilp,.p (.int .i64 4)]/\H'= [])\/(l.length<=8192/\(∃c∈l,rightB x c=false)/\y= .tup [.p .nilp,.p (.int .i64 2)]/\H'= []) \/
   (l.length<=8192/\(∀c∈l,rightB x c=true)/\ ∃ys,(Cheap l ys/\ys.length<=l.length)/\y= .tup [.ptr 2 0,.p (.int .i64 0)]/\H'= .cells (List.replicate 6 .junk)::(Xu x (.list false ((fstF x.orders.length ys).map Yb)) (.list false ((skF x x.orders.length).map eI)) (Xt x x.orders.length) []).map (shO 1)):=by
 refine Zb [10] Tryz.func49 rfl ZAV ?_;simp (disch:=omega) only [Tryz.f49,go_sem,seval];refine cD ?_ ?_<;>intro h0<;>simp (disch:=omega) only [Sh.out h0,go_sem,seval]
 ·exact ⟨_,[],wk,.inl ⟨by omega,rfl,rfl⟩⟩
 ·refine ZP [1] 4 mixed (by kernel_rfl) (by kernel_rfl) (by kernel_rfl) (by simp) ?_;simp (disch:=omega) only [go_sem,seval];refine Zj (ZwF x (by omega)) ?_;simp (disch:=omega) only [go_sem,seval];refine ZC 1 _ _ (by kernel_rfl) (by simp (disch:=omega) only [go_sem,seval];exact ⟨rfl,rfl⟩) (Xr ?_);simp (disch:=omega) only [show ∀(l:List V),JK (V.mp 1::l)=none from fun _=>rfl,Option.map_none,go_sem,seval];refine Zf [1,2,6,27,28] (fun k:Nat=> [(29,.p (.int .i64 k))]) (fun _=> [Zc x,.map [],bgO x ((Xt x x.orders.length:Nat):Int) (.p (.list true [])) (.p (.list true []))]) (fun k=>k<=l.length/\ ∀j,j<k->rightB x (nth l j)=true) (fun k=>l.length-k) 0 ⟨by omega,fun j hj=>by omega⟩ (Weak.mk ?_) ?_
  ·simp (disch:=omega) only [Zc,bgO,go_sem,seval]
  ·rintro k ⟨hk,hr⟩;simp (disch:=omega) only [Zc,bgO,go_sem,seval];refine cD ?_ ?_<;>intro h1<;>simp (disch:=omega) only [Sh.out h1,go_sem,seval]
   ·have hk2:k<l.length:=by omega
    refine Zg mixed (by kernel_rfl) (by kernel_rfl) ?_;simp (disch:=omega) only [go_sem,seval];refine Zj (Zid x (nth l k) (hs _ (Zv hk2)) ht) ?_;simp (disch:=omega) only [go_sem,seval]
    cases hq:rightB x (nth l k) with
    | false =>
     simp (disch:=omega) only [Bool.not_false,go_sem,seval];exact ⟨_,[],wk,.inr (.inl ⟨by omega,⟨_,Zv hk2,hq⟩,rfl,rfl⟩)⟩
    | true =>
     simp (disch:=omega) only [Bool.not_true,go_sem,seval]
     exact ⟨k+1,⟨by omega,fun j hj=>by
      rcases Nat.lt_succ_iff_lt_or_eq.1 hj with h | rfl
      ·exact hr j h
      ·exact hq⟩,by omega,Weak.mk (by simp (disch:=omega) only [Zc,bgO,go_sem,seval])⟩
   ·have hkl:k=l.length:=by omega
    subst hkl
    have hall: ∀c∈l,rightB x c=true:=fun c hc=>by
     obtain ⟨j,hj,rfl⟩:=List.mem_iff_getElem.1 hc;rw [<- Ze hj];exact hr j hj
    clear hr hk h1;generalize ((Xt x x.orders.length:Nat):Int)=m;have hun: ∀i:Nat,PT 64 [.p (Zt x),.p (.int .i64 i)] [.p (Zb9 (unsF x i).1),.p (.int .i64 (unsF x i).2)]:=fun i=>ZcR x i (by omega);refine XW (Zc8 4 rfl rfl ?_);simp (disch:=omega) only [go_sem,seval];refine ⟨_,_,Zgs 145 52 _ _ x.orders.length 24 (.list true []) rfl (by kernel_rfl) (by kernel_rfl) (by kernel_rfl) (by kernel_rfl) (by rfl) (by omega) (by omega) (by simp (disch:=omega) only [go_sem,seval]) (by simp (disch:=omega) only [go_sem,seval]),?_⟩
    simp (disch:=omega) only [go_sem,seval]
    have h5:x.orders.length=0\/x.orders.length=1\/x.orders.length=2\/x.orders.length=3\/x.orders.length=4:=by omega
    refine Zm (Zf1 (by simp) x.orders.length) ?_;refine Zd [17] _ _ _ _ ?_;simp (disch:=omega) only [go_sem,seval];refine (ZeT l lc (by omega)).useV fun ys hC=> ?_;simp (disch:=omega) only [go_sem,seval];obtain ⟨hC,hyl⟩:=hC;rcases h5 with h5 | h5 | h5 | h5 | h5
    all_goals
     simp (disch:=omega) only [h5,List.replicate,V0,Uz,List.map_cons,List.map_nil,go_sem,seval];refine Zf [2,6,50,51] (fun k:Nat=> [(52,.p (.int .i64 k))]) (fun k=> [Zc x,.map [],bgO x m (.sl 3 0 x.orders.length x.orders.length) (.p (.list true [])),.cells (V0 (fstF x.orders.length (ys.take k)) 4)]++Uz (fstF x.orders.length (ys.take k))) (fun k=>k<=ys.length) (fun k=>ys.length-k) 0 (by omega) (Weak.mk ?_) ?_
     ·simp (disch:=omega) only [h5,List.take_zero,ZkL,List.length_nil,Ve,Vf,Vo,Vd,Vp,V0,Uz,List.map_cons,List.map_nil,List.cons_append,List.nil_append,Zc,bgO,go_sem,seval]
     ·intro k hk;simp (disch:=omega) only [h5,Ve,Vf,Vo,Vd,Vp,V0,Uz,List.map_cons,List.map_nil,List.cons_append,List.nil_append,Zc,bgO,go_sem,seval];refine cD ?_ ?_<;>intro h1<;>simp (disch:=omega) only [Sh.out h1,go_sem,seval]
      ·have hk2:k<ys.length:=by omega
       obtain ⟨j,hj,hjl,_⟩:=hC.bst _ (Zv hk2)
       have hmem:nth ys k∈l:=by rw [<- hjl];exact Zv hj
       obtain ⟨S,hS,hS0,hS1,hS2⟩:=Y6 (hall _ hmem) (hs _ hmem);have hlt:=ZuM hS0 hS1 hn;have h16:S<16:=Nat.lt_of_lt_of_le hS1 (by rw [h5];decide)
       have cl:PC 55 [.p (.int .i64 (nth ys k).set)] (.int .i64 (tzN (nth ys k).set.toNat)):=by
        rw [hS];exact Zd4 S hS0 h16
       refine (cl).use ?_;simp (disch:=omega) only [go_sem,seval]
       have htz:tzN (nth ys k).set.toNat=tzN S:=by rw [hS];rfl
       have hi:tzN (nth ys k).set.toNat=0\/tzN (nth ys k).set.toNat=1\/tzN (nth ys k).set.toNat=2\/tzN (nth ys k).set.toNat=3:=by omega
       rcases hi with hi | hi | hi | hi
       all_goals try omega
       all_goals
        simp (disch:=omega) only [hi,go_sem,seval];refine Us [14] [1,2,3] [2] 15 mixed (by kernel_rfl) (by kernel_rfl) (by kernel_rfl) (by kernel_rfl) (by simp) ?_;simp (disch:=omega) only [go_sem,seval];refine ⟨fun q hq p' hp=> ?_,?_⟩
        ·simp only [List.mem_cons,List.not_mem_nil,or_false] at hq;rcases hq with rfl | rfl | rfl
         ·obtain rfl:59=p':=Option.some.inj hp;exact Ys (by decide)
         ·obtain rfl:60=p':=Option.some.inj hp;exact Ys (by decide)
         ·obtain rfl:61=p':=Option.some.inj hp;exact Ys (by decide)
        ·have q0:=Qt ys k 0;have q1:=Qt ys k 1;have q2:=Qt ys k 2;have q3:=Qt ys k 3;refine Zdu 14 _ _ (by kernel_rfl) (by simp (disch:=omega) only [go_sem,seval];exact ⟨rfl,rfl⟩) ?_;refine ⟨fun k hk=>by simp at hk;subst hk;rfl,ZcK ?_⟩;simp (disch:=omega) only [List.set_cons_succ,List.set_cons_zero,go_sem,seval];exact ⟨k+1,by omega,by omega,Weak.mk (by simp (disch:=omega) only [h5,ZiK hk2,hi,List.map_append,List.length_append,List.length_cons,List.length_nil,Nat.zero_add,Ve,Vf,Vo,Vd,Vp,V0,Uz,List.map_cons,List.map_nil,List.cons_append,List.nil_append,Zc,bgO,go_sem,seval])⟩
      ·have hkl:k=ys.length:=by omega
       subst hkl;clear hk h1
       try refine Zm (Weak.fz (o:=4) (by rfl)) ?_
       try refine Zm (Weak.fz (o:=5) (by rfl)) ?_
       try refine Zm (Weak.fz (o:=6) (by rfl)) ?_
       try refine Zm (Weak.fz (o:=7) (by rfl)) ?_
       refine Zd [17] _ _ _ _ ?_;simp (disch:=omega) only [List.take_length,List.map_cons,List.map_nil,List.set_cons_succ,List.set_cons_zero,List.length_map,eq_self,if_true,go_sem,seval];refine Zm (Weak.fzC (o:=3) (ys:=(fstF x.orders.length ys).map Yb) (by rw [h5];rfl) (fun y hy=>by obtain ⟨p,_,rfl⟩:=List.mem_map.1 hy;rfl)) ?_;refine Zd [17] _ _ _ _ ?_;simp (disch:=omega) only [h5,Ve,Vf,Vo,Vd,Vp,List.map_cons,List.map_nil,List.set_cons_succ,List.set_cons_zero,List.length_cons,List.length_nil,Nat.zero_add,Nat.reduceAdd,eq_self,if_true,go_sem,seval]
       refine Zd [28] _ _ _ _ ?_;simp (disch:=omega) only [go_sem,seval];refine Zf [2,6,78] (fun k:Nat=> [(79,.p (.int .i64 k))]) (fun k=> [Zc x,.map [],bgO x m (.p (.list false ((fstF x.orders.length ys).map Yb))) (.sl (4+x.orders.length) 0 k k),.dead]++List.replicate x.orders.length .dead++ [.elems 1 ((skF x k).map eI)]) (fun k=>k<=x.orders.length) (fun k=>x.orders.length-k) 0 (by omega) ((Weak.nilC (o:=2) (j:=7) 1 (by rfl) (by rfl) (by simp)).trans (Weak.mk ?_)) ?_
       ·simp (disch:=omega) only [h5,ZBi,List.replicate,List.set_cons_succ,List.set_cons_zero,List.length_cons,List.length_nil,Nat.zero_add,Nat.reduceAdd,Ve,Vf,Vo,Vd,Vp,V0,Uz,List.map_cons,List.map_nil,List.cons_append,List.nil_append,Zc,bgO,go_sem,seval]
       ·intro k hk;simp (disch:=omega) only [h5,List.replicate,Nat.reduceAdd,Ve,Vf,Vo,Vd,Vp,V0,Uz,List.map_cons,List.map_nil,List.cons_append,List.nil_append,Zc,bgO,go_sem,seval];refine cD ?_ ?_<;>intro h1<;>simp (disch:=omega) only [Sh.out h1,go_sem,seval]
        ·have hk2:k<x.orders.length:=by omega
         refine Ka (hun k) ?_;simp (disch:=omega) only [go_sem,seval];refine cD ?_ ?_<;>intro h2<;>simp (disch:=omega) only [Sh.out h2,go_sem,seval]
         ·refine Ka (ZbH _ (hu k)) ?_;simp (disch:=omega) only [go_sem,seval];refine cD ?_ ?_<;>intro h3<;>simp (disch:=omega) only [Sh.out h3,go_sem,seval]
          ·have hsk:skpF x k=(W5 (unsF x k).1).1:=by simp [skpF,h2,h3]
           simp (disch:=omega) only [Vt,List.length_map,go_sem,seval];rw [if_pos ⟨by omega,by omega⟩];simp (disch:=omega) only [List.set_cons_succ,List.set_cons_zero,Vt,List.length_map,List.length_append,List.length_cons,List.length_nil,Nat.zero_add,eq_self,decide_true,if_true,go_sem,seval];exact ⟨k+1,by omega,by omega,Weak.mk (by simp (disch:=omega) only [h5,K4,hsk,List.map_append,List.replicate,Nat.reduceAdd,List.set_cons_succ,List.set_cons_zero,Ve,Vf,Vo,Vd,Vp,V0,Uz,List.map_cons,List.map_nil,List.cons_append,List.nil_append,Zc,bgO,go_sem,seval])⟩
          ·have hsk:skpF x k= -1:=by simp [skpF,h3]
           simp (disch:=omega) only [Vt,List.length_map,go_sem,seval];rw [if_pos ⟨by omega,by omega⟩];simp (disch:=omega) only [List.set_cons_succ,List.set_cons_zero,Vt,List.length_map,List.length_append,List.length_cons,List.length_nil,Nat.zero_add,eq_self,decide_true,if_true,go_sem,seval];exact ⟨k+1,by omega,by omega,Weak.mk (by simp (disch:=omega) only [h5,K4,hsk,List.map_append,List.replicate,Nat.reduceAdd,List.set_cons_succ,List.set_cons_zero,Ve,Vf,Vo,Vd,Vp,V0,Uz,List.map_cons,List.map_nil,List.cons_append,List.nil_append,Zc,bgO,go_sem,seval])⟩
         ·have hsk:skpF x k= -1:=by simp [skpF,h2]
          simp (disch:=omega) only [Vt,List.length_map,go_sem,seval];rw [if_pos ⟨by omega,by omega⟩];simp (disch:=omega) only [List.set_cons_succ,List.set_cons_zero,Vt,List.length_map,List.length_append,List.length_cons,List.length_nil,Nat.zero_add,eq_self,decide_true,if_true,go_sem,seval];exact ⟨k+1,by omega,by omega,Weak.mk (by simp (disch:=omega) only [h5,K4,hsk,List.map_append,List.replicate,Nat.reduceAdd,List.set_cons_succ,List.set_cons_zero,Ve,Vf,Vo,Vd,Vp,V0,Uz,List.map_cons,List.map_nil,List.cons_append,List.nil_append,Zc,bgO,go_sem,seval])⟩
        ·have hkl:k=x.orders.length:=by omega
         clear hk h1;refine Zm (Weak.fz (o:=4+x.orders.length) (S:=1) (xs:=(skF x k).map eI) (by rw [h5];rfl)) ?_;refine Zd [] _ _ _ _ ?_;simp (disch:=omega) only [h5,List.map_cons,List.map_nil,List.set_cons_succ,List.set_cons_zero,List.length_map,Vt,Nat.zero_add,Nat.reduceAdd,eq_self,if_true,go_sem,seval];exact ⟨.tup [.ptr 2 0,.p (.int .i64 0)],_,Weak.mk (by simp (disch:=omega) only [hkl,h5,Xu,X6,shO,shVs,shV,List.replicate,Ve,Vf,Vo,Vd,Vp,List.map_cons,List.map_nil,go_sem,seval]),.inr (.inr ⟨by omega,hall,ys,⟨hC,hyl⟩,rfl,rfl⟩)⟩
theorem ZsZ : ∀S:Fin 16,0<S.val->sHas (S.val:Int) (tzN S.val)=true:=by decide+kernel
theorem ZeF {x:Inst} (hx:InstOk x) (i:Nat): -1<=skpF x i/\skpF x i<=18014398509481984:=by
 unfold skpF
 split
 ·rename_i h
  have hm:(unsF x i).1.cost<=1000000/\(unsF x i).1.moved<=1/\0<=(unsF x i).1.moved/\(unsF x i).1.other=0/\(unsF x i).1.work=0:=by
   unfold unsF
   split
   ·simp [zSco]
   ·split
    ·simp [zSco]
    ·split
     ·simp [zSco]
     ·have ha:=(hx.orders.2 (i:Int).toNat (by omega)).arg;simp only [argOk,rng,Bool.and_eq_true,decide_eq_true_eq] at ha;refine ⟨by simp only;omega,by simp only;split<;>omega,by simp only;split<;>omega,rfl,rfl⟩
  obtain ⟨_,h2⟩:=h;unfold W5 at h2 ⊢
  split at h2
  ·cases h2
  ·rename_i g1
   split at h2
   ·cases h2
   ·rename_i g2;rw [if_neg g1,if_neg g2];simp only;omega
 ·omega
theorem Zdg {x:Inst} {l ys:List Col} (hx:InstOk x) (hn:x.orders.length<=4) (hC:Cheap l ys) (hr: ∀c∈l,rightB x c=true) (hs: ∀c∈l,c.set<9223372036854775808):ChOk x.orders.length x (fstF x.orders.length ys) (skF x x.orders.length):=by
 refine ⟨fun i hi c hc=> ?_,?_,fun i hi=> ?_⟩
 ·have e:nth (fstF x.orders.length ys) i=Yc ys i:=by
   rw [fstF,Ze (by simpa using hi)];simp
  rw [e,Yc,List.mem_filter] at hc;obtain ⟨h1,h2⟩:=hc;simp only [decide_eq_true_eq] at h2;obtain ⟨j,hj,hjl,_⟩:=hC.bst c h1
  have hm:c∈l:=by rw [<- hjl];exact Zv hj
  obtain ⟨S,q1,q2,q3,_⟩:=Y6 (hr c hm) (hs c hm);have h16:S<16:=Nat.lt_of_lt_of_le q3 (Nat.pow_le_pow_right (n:=2) (by omega) hn);have hb:=ZsZ ⟨S,h16⟩ q2;have hr1:=hr c hm;simp only [rightB,Bool.and_eq_true,decide_eq_true_eq] at hr1;refine ⟨⟨hr1.1,hr1.2.1⟩,⟨S,q1,by omega⟩,?_,hr1.2.2.2.2.1,hr1.2.2.2.2.2⟩;rw [q1,Int.toNat_natCast] at h2;rw [q1,<- h2];exact hb
 ·have ht:=hx.types;simp only [typesOk,rng,Bool.and_eq_true,decide_eq_true_eq] at ht;refine ⟨by omega,fun t _=> ?_⟩;rcases Nat.lt_or_ge t x.types.length with h | h
  ·have:=ht.2 t h;unfold JN at this;have:=this.1.1.1.1.1.1.2;simp only [rng,Bool.and_eq_true,decide_eq_true_eq] at this;omega
  ·rw [show nth x.types t=default from by simp [nth,List.getD_eq_getElem?_getD,List.getElem?_eq_none h]]
   decide
 ·rw [skF,Ze (by simpa using hi)];simpa using ZeF hx i
def zSt : St:=⟨0,0,[0,0,0,0,0,0]⟩
def KJ (x:Inst) (ys:List Col):Int:=Wf x.orders.length ((Xt x x.orders.length:Nat):Int) x (fstF x.orders.length ys) (skF x x.orders.length) 20 (Vh x.orders.length ((Xt x x.orders.length:Nat):Int) zSt)
theorem ZoW (n:Nat):StV n zSt:=⟨rfl,⟨by decide,by simp [zSt]⟩,⟨0,rfl,by omega⟩,fun j hj=>by
 have:nth zSt.used j=0:=by
  have:j=0\/j=1\/j=2\/j=3\/j=4\/j=5:=by omega
  rcases this with rfl | rfl | rfl | rfl | rfl | rfl<;>rfl
 omega⟩
theorem Zky (x:Inst) (l:List Col) (lc:Bool) (hx:InstOk x) (hn:x.orders.length<=4) (ht:x.types.length<=1048576) (hs: ∀c∈l,c.set<9223372036854775808) (hl:l.length<=1048576) :
  ACalls Tryz.prog 18 [.p (Zt x),.p (.list lc (l.map Xa))] [] fun y H'=>H'= []/\((8192<l.length/\y= .tup [.p (.int .i64 0),.p (.int .i64 4)])\/(l.length<=8192/\(∃c∈l,rightB x c=false)/\y= .tup [.p (.int .i64 0),.p (.int .i64 2)]) \/
   (l.length<=8192/\(∀c∈l,rightB x c=true)/\ ∃ys,Cheap l ys/\ys.length<=l.length/\y= .tup [.p (.int .i64 (if KJ x ys<0 then 0 else KJ x ys)),.p (.int .i64 (if KJ x ys<0 then 24 else 0))])):=by
 refine Zb [] Tryz.func18 rfl ZBS ?_;simp (disch:=omega) only [Tryz.f18,go_sem,seval];refine ((Zbe x l lc hn ht (fun i=>WI (by omega) (K8 hx _)) hs hl).behind (by rfl) _).mono ?_;rintro y H' ⟨y1,H1,hq,rfl,rfl⟩;rcases hq with ⟨h1,rfl,rfl⟩ | ⟨h1,h2,rfl,rfl⟩ | ⟨h1,h2,ys,⟨hC,hyl⟩,rfl,rfl⟩
 ·simp (disch:=omega) only [shV,shVs,List.map_nil,go_sem,seval];exact ⟨_,[],wk,rfl,.inl ⟨h1,rfl⟩⟩
 ·simp (disch:=omega) only [shV,shVs,List.map_nil,go_sem,seval];exact ⟨_,[],wk,rfl,.inr (.inl ⟨h1,h2,rfl⟩)⟩
 ·simp (disch:=omega) only [shV,shVs,shO,Xu,X6,List.map_cons,List.map_nil,List.replicate,go_sem,seval];have hok:=Zdg hx hn hC h2 hs;obtain ⟨m,hm⟩: ∃m:Int,m=((Xt x x.orders.length:Nat):Int):=⟨_,rfl⟩;obtain ⟨B,hB⟩: ∃B,B=KJ x ys:=⟨_,rfl⟩;rw [<- hm];refine ACalls.mono ((Qs x (.list false ((fstF x.orders.length ys).map Yb)) (.list false ((skF x x.orders.length).map eI)) m [] zSt rfl (by decide) (by omega) (by decide)).back [Zc x,.cells (List.replicate 6 .junk)] (by rfl)) ?_;rintro y H' ⟨y1,H1,⟨rfl,rfl⟩,rfl,rfl⟩;obtain ⟨v1,_⟩:=Zay (m:=m) (ZoW x.orders.length)
  have hrg:=Yf (m:=m) hok 20 _ v1
  have hbb:B=Wf x.orders.length m x (fstF x.orders.length ys) (skF x x.orders.length) 20 (Vh x.orders.length m zSt):=by rw [hB,KJ,hm]
  rw [<- hbb] at hrg;obtain ⟨i,w,b0,b1,b2,b3,b4,b5,hw⟩:=Xl v1.len;rw [hw] at hbb v1 ⊢;simp (disch:=omega) only [shV,shVs,shO,Xu,X6,stO,List.map_cons,List.map_nil,List.replicate,List.cons_append,List.nil_append,go_sem,seval]
  refine ACalls.mono ((QP x (fstF x.orders.length ys) (skF x x.orders.length) false false m (by omega) (by simp [fstF]) (by simp [skF]) hok (fun r hr=>by
   obtain ⟨p,_,rfl⟩:=List.mem_map.1 hr;have:=List.length_filter_le (fun c:Col=>decide (tzN c.set.toNat=(p:Int))) ys
   simp only [Yc];omega) 20 _ [] (by omega) v1 (by have:=v1.ix;simp only at this ⊢;omega) (fun p hp=>by simp at hp)).back [Zc x,.cells (List.replicate 6 .junk)] (by rfl)) ?_
  rintro y H' ⟨y1,H1,⟨l',hl',rfl,rfl⟩,rfl,rfl⟩;rw [<- hbb];simp (disch:=omega) only [shV,shVs,shO,Xu,X6,stO,List.map_cons,List.map_nil,List.replicate,List.cons_append,List.nil_append,go_sem,seval];refine cD ?_ ?_<;>intro h3<;>simp (disch:=omega) only [Sh.out h3,go_sem,seval]
  ·exact ⟨.tup [.p (.int .i64 0),.p (.int .i64 24)],[],wk,rfl,.inr (.inr ⟨h1,h2,ys,hC,hyl,by rw [<- hB,if_pos h3,if_pos h3]⟩)⟩
  ·exact ⟨.tup [.p (.int .i64 B),.p (.int .i64 0)],[],wk,rfl,.inr (.inr ⟨h1,h2,ys,hC,hyl,by rw [<- hB,if_neg h3,if_neg h3]⟩)⟩
theorem UE {α:Type} {r:α->α->Prop} (irr: ∀a,¬r a a) (asy: ∀a b,r a b-> ¬r b a): ∀ {l l':List α},l.Pairwise r->l'.Pairwise r->(∀a,a∈l↔a∈l')->l=l'
 | [],[],_,_,_=>rfl
 | [],b::_,_,_,h=>by have:=(h b).2 (by simp);simp at this
 | a::_,[],_,_,h=>by have:=(h a).1 (by simp);simp at this
 | a::l,b::l',h1,h2,h=>by
  rw [List.pairwise_cons] at h1 h2
  have hab:a=b:=by
   rcases List.mem_cons.1 ((h a).1 (by simp)) with e | e
   ·exact e
   ·rcases List.mem_cons.1 ((h b).2 (by simp)) with e' | e'
    ·exact e'.symm
    ·exact absurd (h1.1 b e') (asy _ _ (h2.1 a e))
  subst hab
  rw [UE irr asy h1.2 h2.2 fun c=>⟨fun hc=>by
   rcases List.mem_cons.1 ((h c).1 (List.mem_cons_of_mem _ hc)) with e | e
   ·subst e;exact absurd (h1.1 c hc) (irr c)
   ·exact e,fun hc=>by
   rcases List.mem_cons.1 ((h c).2 (List.mem_cons_of_mem _ hc)) with e | e
   ·subst e;exact absurd (h2.1 c hc) (irr c)
   ·exact e⟩]
theorem Zjq {l ys:List Col} (h:Cheap l ys) {c:Col} (hc:c∈l): ∃d∈ys,kd d=kd c/\d.price<=c.price:=by
 obtain ⟨d,hd,e⟩:=h.all c hc;obtain ⟨j,hj,rfl⟩:=List.mem_iff_getElem.1 hc;obtain ⟨i,hi,_,h3⟩:=h.bst d hd;have:=h3 j hj (by rw [Ze hj];exact e.symm);rw [Ze hj] at this;exact ⟨d,hd,e,by omega⟩
theorem KW {l ys:List Col} (h:Cheap l ys) {d:Col} (hd:d∈ys):d∈l:=by
 obtain ⟨j,hj,e,_⟩:=h.bst d hd;rw [<- e];exact Zv hj
theorem ZeE {n i:Nat} {ys:List Col} :nth (fstF n ys) i=if i<n then Yc ys i else []:=by
 split
 ·rename_i h;rw [fstF,Ze (by simpa using h)];simp
 ·rename_i h;rw [nth,List.getD_eq_getElem?_getD,List.getElem?_eq_none (by simp [fstF];omega)];rfl
def leP (a b:Int):Prop:=b<0\/(0<=a/\a<=b)
theorem Zhu {x:Inst} {s:St} {r:Col->Int} (hr: ∀c,-1<=r c): ∀ {l:List Col} {a:Int},(∀c∈l,0<=c.price) ->
  leP (l.foldl (fun o c=>if YB x s c=true then Wb o c.price (r c) else o) a) a/\ ∀c∈l,YB x s c=true->0<=r c->leP (l.foldl (fun o c=>if YB x s c=true then Wb o c.price (r c) else o) a) (c.price+r c)
 | [],a,_=>⟨by unfold leP;simp;omega,fun c hc=>by simp at hc⟩
 | d::l,a,hp=>by
  have hd:=hp d (by simp);obtain ⟨g1,g2⟩:=Zhu (x:=x) (s:=s) hr (l:=l) (a:=if YB x s d=true then Wb a d.price (r d) else a) fun c hc=>hp c (List.mem_cons_of_mem _ hc);rw [List.foldl_cons];generalize l.foldl (fun o c=>if YB x s c=true then Wb o c.price (r c) else o) (if YB x s d=true then Wb a d.price (r d) else a)=M at g1 g2;refine ⟨?_,fun c hc hy h0=> ?_⟩
  ·split at g1
   ·unfold leP Wb at *
    split at g1<;>omega
   ·exact g1
  ·rcases List.mem_cons.1 hc with rfl | hc
   ·rw [if_pos hy] at g1
    unfold leP Wb at *
    split at g1<;>omega
   ·exact g2 c hc hy h0
theorem ZbJ {x:Inst} {s:St} {r:Col->Int} : ∀ {l:List Col} {a:Int},l.foldl (fun o c=>if YB x s c=true then Wb o c.price (r c) else o) a=a\/ ∃c∈l,YB x s c=true/\0<=r c/\l.foldl (fun o c=>if YB x s c=true then Wb o c.price (r c) else o) a=c.price+r c
 | [],a=> .inl rfl
 | d::l,a=>by
  rw [List.foldl_cons];rcases ZbJ (x:=x) (s:=s) (r:=r) (l:=l) (a:=if YB x s d=true then Wb a d.price (r d) else a) with h | ⟨c,h1,h2,h3,h4⟩
  ·rw [h]
   split
   ·rename_i hy;unfold Wb
    split
    ·rename_i hb;exact .inr ⟨d,by simp,hy,hb.1,rfl⟩
    ·exact .inl rfl
   ·exact .inl rfl
  ·exact .inr ⟨c,List.mem_cons_of_mem _ h1,h2,h3,h4⟩
abbrev Cm := { c:Col // ∃S:Nat,c.set=S/\0<S/\S<16 }
instance : Inhabited Cm := ⟨⟨⟨0, 1, 0, default⟩, 1, rfl, by decide, by decide⟩⟩
def lo (c:Col):Int:=tzN c.set.toNat
def cfC (a b:Col):Int:=orI [Uq a.typ b.typ,Uq (lo a) (lo b)]
theorem Uc {a b:Col} :cfC a b<0↔a.typ<b.typ\/(a.typ=b.typ/\lo a<lo b):=by
 unfold cfC;rw [Zch]
 split
 ·rename_i h;rw [Zec] at h;rw [ZeA];omega
 ·rename_i h;rw [Zec] at h;rw [ZeA];omega
def cfM (a b:Cm):Int:=cfC a.val b.val
theorem ZnQ : Go.Sort.SWO (ltOf cfM) where
 irrefl x:=by simp only [ltOf,cfM,decide_eq_false_iff_not,Uc];omega
 trans x y z h1 h2:=by simp only [ltOf,cfM,decide_eq_true_eq,Uc] at *;omega
 ntrans x y z h1 h2:=by simp only [ltOf,cfM,decide_eq_false_iff_not,Uc] at *;omega
theorem ZEY (c:Cm):PC 55 [.p (.int .i64 c.val.set)] (.int .i64 (lo c.val)):=by
 obtain ⟨c,S,h1,h2,h3⟩:=c;simp only [lo,h1];exact Zd4 S h2 h3
theorem Zh1 (a b:Cm):PC 54 [.p (Xa a.val),.p (Xa b.val)] (.int .i64 (cfM a b)):=by
 refine Za Tryz.func54 rfl ZAc ?_;simp (disch:=omega) only [Tryz.f54,go_sem,seval];refine Zg mixed (by kernel_rfl) (by kernel_rfl) ?_;simp (disch:=omega) only [go_sem,seval];refine Zj (Zfa a.val.typ b.val.typ) ?_;simp (disch:=omega) only [go_sem,seval];refine Zj (ZEY a) ?_;simp (disch:=omega) only [go_sem,seval];refine Zj (ZEY b) ?_;simp (disch:=omega) only [go_sem,seval];refine Zj (Zfa (lo a.val) (lo b.val)) ?_;simp (disch:=omega) only [go_sem,seval];refine Zj (ZBr [Uq a.val.typ b.val.typ,Uq (lo a.val) (lo b.val)] false (by simp)) ?_
 simp (disch:=omega) only [go_sem,seval]
 rfl
theorem Zok (xs:List Cm) (hl:xs.length<=1048576) {H:List AM.Obj} {o:Nat} (hH:H[o]? =some (.elems 7 (xs.map fun c=>Xa c.val))) :
  ACalls Tryz.prog 53 [.sl o 0 xs.length xs.length,.fn (.func 54) [] []] H fun y H'=>y= .tup []/\ ∃ys:List Cm,ys.Perm xs/\ys.Pairwise (fun a b=> ¬cfM b a<0)/\H'=H.set o (.elems 7 (ys.map fun c=>Xa c.val)) :=
 ACalls.sortFunc Zed Zrj 7 Tryz.isAgg58 Tryz.sizeOf58 (fun c:Cm=>Xa c.val) (fun x=>⟨_,rfl,rfl,rfl⟩) cfM ZnQ 54 Zh1 xs (by omega) hH
theorem Jr {n:Nat} {m:Int} {x:Inst} {fst:List (List Col)} {sk:List Int} : ∀(d:Nat) (s:St),∀c∈(Xw n m x fst sk d s).1,∃i,i<fst.length/\c∈nth fst i
 | 0,s,c,h=>by simp [Xw] at h
 | d+1,s,c,h=>by
  rw [Xw] at h
  split at h
  ·simp at h
  ·split at h
   ·rename_i c' hf;simp only [List.mem_cons] at h;rcases h with rfl | h
    ·refine ⟨s.ix.toNat,?_,List.mem_of_find?_eq_some hf⟩;rcases Nat.lt_or_ge s.ix.toNat fst.length with h | h
     ·exact h
     ·rw [show nth fst s.ix.toNat= [] from by simp [nth,List.getD_eq_getElem?_getD,List.getElem?_eq_none h];rfl] at hf;simp at hf
    ·exact Jr d _ c h
   ·exact Jr d _ c h
def zPlC : Pln:=⟨true,[],true,[]⟩
def Zzk (x:Inst) (l:List Col) (p:Pln) (c e:Int):Prop:=(8192<l.length/\p=zPlC/\c=0/\e=4)\/(l.length<=8192/\(∃c∈l,rightB x c=false)/\p=zPlC/\c=0/\e=2) \/
 (l.length<=8192/\(∀c∈l,rightB x c=true)/\ ∃ys,Cheap l ys/\ys.length<=l.length/\((KJ x ys<0/\p=zPlC/\c=0/\e=24)\/(0<=KJ x ys/\c=KJ x ys/\e=0 /\
  ∃zs:List Col,zs.Perm (Xw x.orders.length ((Xt x x.orders.length:Nat):Int) x (fstF x.orders.length ys) (skF x x.orders.length) 20 (Vh x.orders.length ((Xt x x.orders.length:Nat):Int) zSt)).1/\zs.Pairwise (fun a b=> ¬cfC b a<0) /\
   p=⟨false,zs.map (·.route),false,(Xw x.orders.length ((Xt x x.orders.length:Nat):Int) x (fstF x.orders.length ys) (skF x x.orders.length) 20 (Vh x.orders.length ((Xt x x.orders.length:Nat):Int) zSt)).2⟩)))
theorem Jw {n:Nat} {m:Int} {x:Inst} {fst:List (List Col)} {sk:List Int} : ∀(d:Nat) (s:St),(Xw n m x fst sk d s).1.length<=d/\(Xw n m x fst sk d s).2.length<=d
 | 0,s=>by simp [Xw]
 | d+1,s=>by
  rw [Xw]
  split
  ·simp
  ·split
   ·rename_i c' hf;have:=Jw (n:=n) (m:=m) (x:=x) (fst:=fst) (sk:=sk) d (We n m s c');simp;omega
   ·have:=Jw (n:=n) (m:=m) (x:=x) (fst:=fst) (sk:=sk) d (Zfd n m s);simp;omega
theorem Jh (x:Inst) (l:List Col) (lc:Bool) (hx:InstOk x) (hn:x.orders.length<=4) (ht:x.types.length<=1048576) (hs: ∀c∈l,c.set<9223372036854775808) (hl:l.length<=1048576) :
  ACalls Tryz.prog 17 [.p (Zt x),.p (.list lc (l.map Xa))] [] fun y H'=> ∃p c e,Zzk x l p c e/\y= .tup [.p (JG p),.p (.int .i64 c),.p (.int .i64 e)]/\H'= []:=by
 refine Zb [16] Tryz.func17 rfl ZBJ ?_;simp (disch:=omega) only [Tryz.f17,go_sem,seval];refine ((Zbe x l lc hn ht (fun i=>WI (by omega) (K8 hx _)) hs hl).behind (by rfl) _).mono ?_;rintro y H' ⟨y1,H1,hq,rfl,rfl⟩;rcases hq with ⟨h1,rfl,rfl⟩ | ⟨h1,h2,rfl,rfl⟩ | ⟨h1,h2,ys,⟨hC,hyl⟩,rfl,rfl⟩
 ·simp (disch:=omega) only [shV,shVs,List.map_nil,go_sem,seval];exact ⟨.tup [.p (JG zPlC),.p (.int .i64 0),.p (.int .i64 4)],[],Weak.mk (by simp (disch:=omega) only [zPlC,List.map_nil,go_sem,seval]),_,_,_,Or.inl ⟨h1,rfl,rfl,rfl⟩,rfl,rfl⟩
 ·simp (disch:=omega) only [shV,shVs,List.map_nil,go_sem,seval];exact ⟨.tup [.p (JG zPlC),.p (.int .i64 0),.p (.int .i64 2)],[],Weak.mk (by simp (disch:=omega) only [zPlC,List.map_nil,go_sem,seval]),_,_,_,Or.inr (Or.inl ⟨h1,h2,rfl,rfl,rfl⟩),rfl,rfl⟩
 ·have hok:=Zdg hx hn hC h2 hs
  have hcl: ∀r∈fstF x.orders.length ys,r.length<=1048576:=fun r hr=>by
   obtain ⟨p,_,rfl⟩:=List.mem_map.1 hr;have:=List.length_filter_le (fun c:Col=>decide (tzN c.set.toNat=(p:Int))) ys;simp only [Yc];omega
  obtain ⟨m,hm⟩: ∃m:Int,m=((Xt x x.orders.length:Nat):Int):=⟨_,rfl⟩;obtain ⟨B,hB⟩: ∃B,B=KJ x ys:=⟨_,rfl⟩;simp (disch:=omega) only [shV,shVs,shO,Xu,X6,stO,List.map_cons,List.map_nil,List.replicate,List.cons_append,List.nil_append,go_sem,seval];rw [<- hm];refine ACalls.mono ((Qs x (.list false ((fstF x.orders.length ys).map Yb)) (.list false ((skF x x.orders.length).map eI)) m [] zSt rfl (by decide) (by omega) (by decide)).back [Zc x,.cells [.p (.list true []),.p (.list true [])],.cells (List.replicate 6 .junk)] (by rfl)) ?_;rintro y H' ⟨y1,H1,⟨rfl,rfl⟩,rfl,rfl⟩
  obtain ⟨v1,_⟩:=Zay (m:=m) (ZoW x.orders.length);have hrg:=Yf (m:=m) hok 20 _ v1
  have hbb:B=Wf x.orders.length m x (fstF x.orders.length ys) (skF x x.orders.length) 20 (Vh x.orders.length m zSt):=by rw [hB,KJ,hm]
  rw [<- hbb] at hrg;obtain ⟨R,hR⟩: ∃R,R=Xw x.orders.length m x (fstF x.orders.length ys) (skF x x.orders.length) 20 (Vh x.orders.length m zSt):=⟨_,rfl⟩;obtain ⟨i,w,b0,b1,b2,b3,b4,b5,hw⟩:=Xl v1.len;have hRr:=hR;rw [hw] at hbb v1 hR ⊢;simp (disch:=omega) only [shV,shVs,shO,Xu,X6,stO,List.map_cons,List.map_nil,List.replicate,List.cons_append,List.nil_append,go_sem,seval];have c3:=((QP x (fstF x.orders.length ys) (skF x x.orders.length) false false m (by omega) (by simp [fstF]) (by simp [skF]) hok hcl 20 ⟨i,w,[b0,b1,b2,b3,b4,b5]⟩ [] (by omega) v1 (by have:=v1.ix;simp only at this ⊢;omega) (fun p hp=>by simp at hp)).mono (fun y H' hq=>(⟨hq,by obtain ⟨l',_,_,rfl⟩:=hq;rfl⟩:_/\H'.length=(Xu x (.list false ((fstF x.orders.length ys).map Yb)) (.list false ((skF x x.orders.length).map eI)) m []).length))).front (by rfl) (by rfl) [stO ⟨i,w,[b0,b1,b2,b3,b4,b5]⟩]
  refine ACalls.mono (c3.back [Zc x,.cells [.p (.list true []),.p (.list true [])],.cells (List.replicate 6 .junk)] (by rfl)) ?_;rintro y H' ⟨y1,H1,⟨H2,⟨l',hl',rfl,rfl⟩,rfl⟩,rfl,rfl⟩;rw [<- hbb];simp (disch:=omega) only [shV,shVs,shO,Xu,X6,stO,List.map_cons,List.map_nil,List.replicate,List.cons_append,List.nil_append,go_sem,seval];refine cD ?_ ?_<;>intro h3<;>simp (disch:=omega) only [Sh.out h3,go_sem,seval]
  ·exact ⟨.tup [.p (JG zPlC),.p (.int .i64 0),.p (.int .i64 24)],[],Weak.mk (by simp (disch:=omega) only [zPlC,List.map_nil,go_sem,seval]),_,_,_,Or.inr (Or.inr ⟨h1,h2,ys,hC,hyl,Or.inl ⟨by rw [<- hB];exact h3,rfl,rfl,rfl⟩⟩),rfl,rfl⟩
  ·refine ACalls.mono ((Zqx (stO ⟨i,w,[b0,b1,b2,b3,b4,b5]⟩) (by intro H n;simp (disch:=omega) only [stO,List.map_cons,List.map_nil,go_sem,seval]) (by intro o xs;rfl) x (fstF x.orders.length ys) (skF x x.orders.length) false false m (by omega) (by simp [fstF]) (by simp [skF]) hok hcl ⟨i,w,[b0,b1,b2,b3,b4,b5]⟩ l' v1 hl').back [Zc x,.cells [.p (.list true []),.p (.list true [])],.cells (List.replicate 6 .junk)] (by rfl)) ?_;rintro y H' ⟨y1,H1,⟨l2,A,U,hl2,hAU,rfl,rfl⟩,rfl,rfl⟩;rw [<- hR] at hAU;have hlen:=Jw (n:=x.orders.length) (m:=m) (x:=x) (fst:=fstF x.orders.length ys) (sk:=skF x x.orders.length) 20 (Vh x.orders.length m zSt)
   rw [<- hRr,<- hAU] at hlen
   have hA: ∀c∈A,∃S:Nat,c.set=S/\0<S/\S<16:=fun c hc=>by
    have hc':c∈(Xw x.orders.length m x (fstF x.orders.length ys) (skF x x.orders.length) 20 (Vh x.orders.length m zSt)).1:=by rw [<- hRr,<- hAU];exact hc
    obtain ⟨j,hj,hm2⟩:=Jr _ _ _ hc'
    have e:nth (fstF x.orders.length ys) j=Yc ys j:=by
     rw [fstF,Ze (by simpa [fstF] using hj)];simp
    rw [e,Yc,List.mem_filter] at hm2;obtain ⟨q,hq,hql,_⟩:=hC.bst c hm2.1
    have hmem:c∈l:=by rw [<- hql];exact Zv hq
    obtain ⟨S,q1,q2,q3,_⟩:=Y6 (h2 c hmem) (hs c hmem);exact ⟨S,q1,q2,Nat.lt_of_lt_of_le q3 (Nat.pow_le_pow_right (n:=2) (by omega) hn)⟩
   obtain ⟨L,hL⟩: ∃L:List Cm,L.map Subtype.val=A:=⟨A.pmap (fun c h=>⟨c,h⟩) hA,by simp [List.map_pmap]⟩;subst hL
   have hLl:(L.map Subtype.val).length=L.length:=by simp
   have hLe:(L.map Subtype.val).map Xa=L.map fun c=>Xa c.val:=by simp [List.map_map]
   simp only at hlen;rw [hLl] at hlen;simp (disch:=omega) only [shV,shVs,shO,Xu,X6,stO,List.map_cons,List.map_nil,List.replicate,List.cons_append,List.nil_append,hLl,hLe,go_sem,seval];refine ((Zok L (by omega) (H:=_) (o:=7) rfl)).mono ?_;rintro y H' ⟨rfl,zs,hp,hsr,rfl⟩;have hzl:zs.length=L.length:=hp.length_eq;rw [<- hzl] at hlen ⊢;simp (disch:=omega) only [List.set_cons_succ,List.set_cons_zero,go_sem,seval];obtain ⟨Z,hZ⟩: ∃Z,Z=zs.map Subtype.val:=⟨_,rfl⟩
   have hZl:Z.length=zs.length:=by rw [hZ];simp
   have hZe:Z.map Xa=zs.map fun c=>Xa c.val:=by rw [hZ];simp [List.map_map]
   rw [<- hZl] at hlen ⊢
   have htl: ∀k,k<=Z.length->(Z.take k).length=k:=fun k hk=>by simp;omega
   refine Zf [4,10,13,45,46] (fun k:Nat=> [(47,.p (.int .i64 k))]) (fun k=> [Zc x,.cells [.p (.list true []),.p (.list true [])],.cells (List.replicate 6 .junk),.map (l2.map (eKI eSt)),shO 3 (X6 x (.list false ((fstF x.orders.length ys).map Yb)) (.list false ((skF x x.orders.length).map eI)) m),stO ⟨i,w,[b0,b1,b2,b3,b4,b5]⟩,.cells (List.replicate 8 .junk),.elems 7 (Z.map Xa),.cells [.sl 9 0 k k,.p (.list false (U.map eI))],.elems 4 ((Z.take k).map fun c=>Wr c.route)]) (fun k=>k<=Z.length) (fun k=>Z.length-k) 0 (by omega) ((Weak.nilC (o:=8) (j:=0) 4 (by rfl) (by rfl) (by simp)).trans (Weak.mk ?_)) ?_
   ·simp (disch:=omega) only [hZe,List.take_zero,List.set_cons_succ,List.set_cons_zero,List.length_cons,List.length_nil,Nat.zero_add,Nat.reduceAdd,shV,shVs,shO,Xu,X6,stO,List.map_cons,List.map_nil,List.replicate,List.cons_append,List.nil_append,Zc,go_sem,seval]
   ·intro k hk;simp (disch:=omega) only [shV,shVs,shO,Xu,X6,stO,List.map_cons,List.map_nil,List.replicate,List.cons_append,List.nil_append,Zc,go_sem,seval];refine cD ?_ ?_<;>intro h4<;>simp (disch:=omega) only [Sh.out h4,go_sem,seval]
    ·have hk2:k<Z.length:=by omega
     simp (disch:=first | omega | (simp only [List.length_cons,List.length_nil,List.length_append,List.length_map,List.length_take,List.length_drop]<;>omega)) only [XJ hk2,hk2,go_sem,seval]
     have hsc:Z.take (k+1)=Z.take k++ [nth Z k]:=by rw [List.take_succ_eq_append_getElem hk2,Ze hk2]
     rw [if_pos ⟨htl k hk,by omega,by omega⟩];simp (disch:=omega) only [List.set_cons_succ,List.set_cons_zero,htl k hk,List.length_map,List.length_append,List.length_cons,List.length_nil,Nat.zero_add,eq_self,decide_true,if_true,go_sem,seval];exact ⟨k+1,by omega,by omega,Weak.mk (by simp (disch:=omega) only [hsc,List.map_append,shV,shVs,shO,Xu,X6,stO,List.map_cons,List.map_nil,List.replicate,List.cons_append,List.nil_append,Zc,go_sem,seval])⟩
    ·have hkl:k=Z.length:=by omega
     subst hkl;refine Zm (Weak.fz (o:=9) (by rfl)) ?_;refine Zd [] _ _ _ _ ?_;simp (disch:=omega) only [List.map_cons,List.map_nil,List.set_cons_succ,List.set_cons_zero,Zc,List.take_length,go_sem,seval];exact ⟨.tup [.p (JG ⟨false,Z.map (·.route),false,U⟩),.p (.int .i64 B),.p (.int .i64 0)],[],Weak.mk (by simp (disch:=omega) only [List.map_map,Function.comp_def,go_sem,seval]),_,_,_,Or.inr (Or.inr ⟨h1,h2,ys,hC,hyl,Or.inr ⟨by rw [<- hB];omega,hB,rfl,Z,by rw [<- hm,<- hRr,<- hAU,hZ];exact hp.map _,by rw [hZ];exact List.pairwise_map.2 hsr,by rw [<- hm,<- hRr,<- hAU]⟩⟩),rfl,rfl⟩
def ZDS (x:Inst) (l:List Col) (a e:Int):Prop:=(8192<l.length/\a=0/\e=4)\/(l.length<=8192/\(∃c∈l,rightB x c=false)/\a=0/\e=2) \/
 (l.length<=8192/\(∀c∈l,rightB x c=true)/\ ∃ys,Cheap l ys/\a=(if KJ x ys<0 then 0 else KJ x ys)/\e=(if KJ x ys<0 then 24 else 0))
theorem ZlU (x:Inst) (l:List Col) (lc:Bool) (hx:InstOk x) (hn:x.orders.length<=4) (ht:x.types.length<=1048576) (hs: ∀c∈l,c.set<9223372036854775808) (hl:l.length<=1048576) :
  ACalls Tryz.prog 18 [.p (Zt x),.p (.list lc (l.map Xa))] [] fun y H'=> ∃a e,ZDS x l a e/\y= .tup [.p (.int .i64 a),.p (.int .i64 e)]/\H'= [] :=
 (Zky x l lc hx hn ht hs hl).mono fun y H' hq=>by
  obtain ⟨rfl,h⟩:=hq;rcases h with ⟨g1,rfl⟩ | ⟨g1,g2,rfl⟩ | ⟨g1,g2,ys,g3,_,rfl⟩
  ·exact ⟨_,_,.inl ⟨g1,rfl,rfl⟩,rfl,rfl⟩
  ·exact ⟨_,_,.inr (.inl ⟨g1,g2,rfl,rfl⟩),rfl,rfl⟩
  ·exact ⟨_,_,.inr (.inr ⟨g1,g2,ys,g3,rfl,rfl⟩),rfl,rfl⟩
def smT (n:Int):Typ:= { name:= [118],count:=n,src:=0,dst:=0,cap_c:=false,cap:= [5],cls:=100,drive:=100,opn:=0,rest:=0,skills:=0,fixed:=0,perMile:=0,perTick:=0,prof:=0 }
def smO (s:UInt8):Ord:= { name:= [s],load_c:=false,load:= [1],pick:=⟨-1,0,0,0⟩,drp:=⟨0,0,50,0⟩,skills:=0,penalty:= -1,split:=1,last:= -1,now:= -1,off:=false }
def smX (n:Int):Inst:= { net:= { places_c:=false,places:= [[65]],arcs_c:=true,arcs:= [] },types_c:=false,types:= [smT n],orders_c:=false,orders:= [smO 111,smO 112],apart_c:=true,apart:= [],before_c:=true,before:= [] }
def smC (s p:Int) (t:Int):Col:=⟨0,s,p,⟨0,t,true,[],true,[]⟩⟩
def smL (k:Nat):List Col:= [smC 1 10 (if 0<k then 1 else 0),smC 2 20 (if 1<k then 2 else 0),smC 3 40 (if 2<k then 3 else 0)]
def smI (n:Int) (os:V):AM.Obj:= .cells [.p (.list false [.str [65]]),.p (.list true []),.p (.list false [U7 (smT n)]),os,.p (.list true []),.p (.list true [])]
theorem JW (n:Int) (hn:0<=n/\n<=10):PT 16 [.p (.int .i64 n)] [.p (Zt (smX n)),.p (.list false ((smL 3).map Xa))]:=by
 refine Zb [1,2,6,14] Tryz.func16 rfl ZzU ?_;simp (disch:=omega) only [Tryz.f16,go_sem,seval];refine XW (Zal 1 ?_);simp (disch:=omega) only [go_sem,seval];refine ⟨_,_,Weak.fz (o:=1) (by rfl),?_⟩;simp (disch:=omega) only [List.map_cons,List.map_nil,List.set_cons_succ,List.set_cons_zero,List.cons_append,List.nil_append,go_sem,seval];refine Zd [2,6,14] _ _ _ _ ?_;simp (disch:=omega) only [go_sem,seval];refine XW (Zkk 2 2 ?_);simp (disch:=omega) only [go_sem,seval];refine ⟨_,_,Weak.fz (o:=3) (by rfl),?_⟩;simp (disch:=omega) only [List.map_cons,List.map_nil,List.set_cons_succ,List.set_cons_zero,List.cons_append,List.nil_append,go_sem,seval]
 refine ⟨_,_,Weak.fz (o:=4) (by rfl),?_⟩;simp (disch:=omega) only [List.map_cons,List.map_nil,List.set_cons_succ,List.set_cons_zero,List.cons_append,List.nil_append,go_sem,seval];refine Zd [6,14] _ _ _ _ ?_;simp (disch:=omega) only [go_sem,seval];refine ZE [5,14] [2,4,17,18] (fun k:Nat=> [(19,.p (.int .i64 k))]) (fun k=> [.cells (List.replicate 6 (.p (.list true []))),.dead,smI n (.sl 6 0 k k),.dead,.dead,.elems 1 [.str [111],.str [112]],.elems 16 (([smO 111,smO 112].take k).map Ug)]) (fun k=>k<=2) (fun k=>2-k) 0 (by omega) ((Weak.nilC (o:=2) (j:=3) 16 (by rfl) (by rfl) (by simp)).trans (Weak.mk ?_)) ?_
 ·simp (disch:=omega) only [smI,smT,List.replicate,List.take_zero,List.length_cons,List.length_nil,Nat.zero_add,Nat.reduceAdd,List.map_cons,List.map_nil,List.set_cons_succ,List.set_cons_zero,List.cons_append,List.nil_append,go_sem,seval]
 ·intro k hk
  obtain rfl | rfl | rfl:k=0\/k=1\/k=2:=by omega
  ·simp (disch:=omega) only [smI,smT,smO,List.replicate,List.take_zero,List.length_cons,List.length_nil,Nat.zero_add,Nat.reduceAdd,List.map_cons,List.map_nil,List.set_cons_succ,List.set_cons_zero,List.cons_append,List.nil_append,go_sem,seval];refine XW (Q3 (XW (Zd [] _ _ _ _ ?_)));simp (disch:=first | omega | (simp only [List.length_cons,List.length_nil,List.length_append,List.length_map,List.length_take,List.length_drop]<;>omega)) only [elt,List.getD_cons_zero,List.getD_cons_succ,List.getElem?_cons_zero,List.getElem?_cons_succ,Option.getD_some,go_sem,seval]
   refine Zal 4 ?_;simp (disch:=omega) only [go_sem,seval];refine ⟨_,_,Weak.fz (o:=7) (by rfl),?_⟩;simp (disch:=omega) only [List.map_cons,List.map_nil,List.set_cons_succ,List.set_cons_zero,List.cons_append,List.nil_append,go_sem,seval];refine Zd [] _ _ _ _ ?_;simp (disch:=omega) only [go_sem,seval];exact ⟨1,by omega,by omega,Weak.mk (by simp (disch:=omega) only [smI,smT,smO,List.replicate,List.take,List.length_cons,List.length_nil,Nat.zero_add,Nat.reduceAdd,List.map_cons,List.map_nil,List.set_cons_succ,List.set_cons_zero,List.cons_append,List.nil_append,go_sem,seval])⟩
  ·simp (disch:=omega) only [smI,smT,smO,List.replicate,List.take,List.length_cons,List.length_nil,Nat.zero_add,Nat.reduceAdd,List.map_cons,List.map_nil,List.set_cons_succ,List.set_cons_zero,List.cons_append,List.nil_append,go_sem,seval];refine XW (Q3 (XW (Zd [] _ _ _ _ ?_)));simp (disch:=first | omega | (simp only [List.length_cons,List.length_nil,List.length_append,List.length_map,List.length_take,List.length_drop]<;>omega)) only [elt,List.getD_cons_zero,List.getD_cons_succ,List.getElem?_cons_zero,List.getElem?_cons_succ,Option.getD_some,go_sem,seval]
   refine Zal 4 ?_;simp (disch:=omega) only [go_sem,seval];refine ⟨_,_,Weak.fz (o:=7) (by rfl),?_⟩;simp (disch:=omega) only [List.map_cons,List.map_nil,List.set_cons_succ,List.set_cons_zero,List.cons_append,List.nil_append,go_sem,seval];refine Zd [] _ _ _ _ ?_;simp (disch:=omega) only [go_sem,seval];exact ⟨2,by omega,by omega,Weak.mk (by simp (disch:=omega) only [smI,smT,smO,List.replicate,List.take,List.length_cons,List.length_nil,Nat.zero_add,Nat.reduceAdd,List.map_cons,List.map_nil,List.set_cons_succ,List.set_cons_zero,List.cons_append,List.nil_append,go_sem,seval])⟩
  ·simp (disch:=omega) only [smI,smT,smO,List.replicate,List.take,List.length_cons,List.length_nil,Nat.zero_add,Nat.reduceAdd,List.map_cons,List.map_nil,List.set_cons_succ,List.set_cons_zero,List.cons_append,List.nil_append,go_sem,seval];refine Zf [2,4,7,39] (fun k:Nat=> [(40,.p (.int .i64 k))]) (fun k=> [.cells (List.replicate 6 (.p (.list true []))),.dead,smI n (.sl 6 0 2 2),.dead,.dead,.elems 1 [.str [111],.str [112]],.elems 16 ([smO 111,smO 112].map Ug),.elems 7 ((smL k).map Xa)]) (fun k=>k<=3) (fun k=>3-k) 0 (by omega) (Weak.mk ?_) ?_
   ·simp (disch:=omega) only [smL,smC,smI,smT,smO,List.replicate,List.take,List.length_cons,List.length_nil,Nat.zero_add,Nat.reduceAdd,List.map_cons,List.map_nil,List.set_cons_succ,List.set_cons_zero,List.cons_append,List.nil_append,go_sem,seval]
   ·intro k hk
    obtain rfl | rfl | rfl | rfl:k=0\/k=1\/k=2\/k=3:=by omega
    ·simp (disch:=first | omega | (simp only [List.length_cons,List.length_nil,List.length_append,List.length_map,List.length_take,List.length_drop]<;>omega)) only [smL,smC,smI,smT,smO,List.replicate,List.take,List.length_cons,List.length_nil,Nat.zero_add,Nat.reduceAdd,List.map_cons,List.map_nil,List.set_cons_succ,List.set_cons_zero,List.cons_append,List.nil_append,go_sem,seval];simp (disch:=first | omega | (simp only [List.length_cons,List.length_nil,List.length_append,List.length_map,List.length_take,List.length_drop]<;>omega)) only [Kc,elt,List.getD_cons_zero,List.getD_cons_succ,List.getElem?_cons_zero,List.getElem?_cons_succ,Option.getD_some,List.map_cons,List.map_nil,List.set_cons_succ,List.set_cons_zero,List.cons_append,List.nil_append,go_sem,seval]
     exact ⟨1,by omega,by omega,Weak.mk (by simp (disch:=omega) only [smL,smC,smI,smT,smO,List.replicate,List.take,List.length_cons,List.length_nil,Nat.zero_add,Nat.reduceAdd,List.map_cons,List.map_nil,List.set_cons_succ,List.set_cons_zero,List.cons_append,List.nil_append,go_sem,seval])⟩
    ·simp (disch:=first | omega | (simp only [List.length_cons,List.length_nil,List.length_append,List.length_map,List.length_take,List.length_drop]<;>omega)) only [smL,smC,smI,smT,smO,List.replicate,List.take,List.length_cons,List.length_nil,Nat.zero_add,Nat.reduceAdd,List.map_cons,List.map_nil,List.set_cons_succ,List.set_cons_zero,List.cons_append,List.nil_append,go_sem,seval];simp (disch:=first | omega | (simp only [List.length_cons,List.length_nil,List.length_append,List.length_map,List.length_take,List.length_drop]<;>omega)) only [Kc,elt,List.getD_cons_zero,List.getD_cons_succ,List.getElem?_cons_zero,List.getElem?_cons_succ,Option.getD_some,List.map_cons,List.map_nil,List.set_cons_succ,List.set_cons_zero,List.cons_append,List.nil_append,go_sem,seval]
     exact ⟨2,by omega,by omega,Weak.mk (by simp (disch:=omega) only [smL,smC,smI,smT,smO,List.replicate,List.take,List.length_cons,List.length_nil,Nat.zero_add,Nat.reduceAdd,List.map_cons,List.map_nil,List.set_cons_succ,List.set_cons_zero,List.cons_append,List.nil_append,go_sem,seval])⟩
    ·simp (disch:=first | omega | (simp only [List.length_cons,List.length_nil,List.length_append,List.length_map,List.length_take,List.length_drop]<;>omega)) only [smL,smC,smI,smT,smO,List.replicate,List.take,List.length_cons,List.length_nil,Nat.zero_add,Nat.reduceAdd,List.map_cons,List.map_nil,List.set_cons_succ,List.set_cons_zero,List.cons_append,List.nil_append,go_sem,seval];simp (disch:=first | omega | (simp only [List.length_cons,List.length_nil,List.length_append,List.length_map,List.length_take,List.length_drop]<;>omega)) only [Kc,elt,List.getD_cons_zero,List.getD_cons_succ,List.getElem?_cons_zero,List.getElem?_cons_succ,Option.getD_some,List.map_cons,List.map_nil,List.set_cons_succ,List.set_cons_zero,List.cons_append,List.nil_append,go_sem,seval]
     exact ⟨3,by omega,by omega,Weak.mk (by simp (disch:=omega) only [smL,smC,smI,smT,smO,List.replicate,List.take,List.length_cons,List.length_nil,Nat.zero_add,Nat.reduceAdd,List.map_cons,List.map_nil,List.set_cons_succ,List.set_cons_zero,List.cons_append,List.nil_append,go_sem,seval])⟩
    ·simp (disch:=first | omega | (simp only [List.length_cons,List.length_nil,List.length_append,List.length_map,List.length_take,List.length_drop]<;>omega)) only [smL,smC,smI,smT,smO,List.replicate,List.take,List.length_cons,List.length_nil,Nat.zero_add,Nat.reduceAdd,List.map_cons,List.map_nil,List.set_cons_succ,List.set_cons_zero,List.cons_append,List.nil_append,go_sem,seval];refine Zm (Weak.fz (o:=6) (by rfl)) ?_;refine Zm (Weak.fz (o:=7) (by rfl)) ?_;refine Zd [] _ _ _ _ ?_;simp (disch:=omega) only [List.map_cons,List.map_nil,List.set_cons_succ,List.set_cons_zero,go_sem,seval]
     exact ⟨.tup [.p (Zt (smX n)),.p (.list false ((smL 3).map Xa))],[],Weak.mk (by simp (disch:=omega) only [smX,smL,smC,smI,smT,smO,List.replicate,List.take,List.length_cons,List.length_nil,Nat.zero_add,Nat.reduceAdd,List.map_cons,List.map_nil,List.set_cons_succ,List.set_cons_zero,List.cons_append,List.nil_append,go_sem,seval]),rfl,rfl⟩
theorem ZyG (n:Int) (hn:0<=n/\n<=10):InstOk (smX n):=by
 refine ⟨⟨⟨⟨show (1:Nat)<=24 by decide,fun i hi=> ?_⟩,show (0:Nat)<=1024 by decide⟩,fun i hi=>by simp [smX] at hi⟩,⟨rfl,fun i hi=> ?_⟩,Q6.1 (by rfl),rfl⟩
 ·match i,hi with
  | 0,_=>exact ⟨rfl,fun k hk=>by omega⟩
 ·have:i=0:=by simp [smX] at hi;omega
  subst this
  have hc:rng n 0 10=true:=by simp [rng];omega
  exact ⟨⟨⟨⟨⟨⟨⟨⟨rfl,fun j hj=>by omega⟩,hc⟩,rfl,rfl⟩,rfl⟩,rfl⟩,rfl,show (100:Int)<=4096 by decide⟩,rfl,rfl⟩,rfl,rfl,rfl,rfl⟩
def c1 : Col:=smC 1 10 1
def c2 : Col:=smC 2 20 2
def c3 : Col:=smC 3 40 3
theorem J5 {l ys:List Col} (h:Cheap l ys) (ha:l.Pairwise fun a b=>cfK a b<0) (hd: ∀a∈l,∀b∈l,kd a=kd b->a=b):ys=l :=
 UE (r:=fun a b=>cfK a b<0) (fun a=>by rw [U2];omega) (fun a b=>by rw [U2,U2];omega) h.asc ha fun a=>⟨fun hh=>KW h hh,fun hh=>by
  obtain ⟨d,k1,k2⟩:=h.all a hh
  rw [<- hd d (KW h k1) a hh k2];exact k1⟩
theorem ZDo : [c1,c2,c3].Pairwise fun a b=>cfK a b<0:=by
 refine .cons (fun b hb=> ?_) (.cons (fun b hb=> ?_) (.cons (fun b hb=>by simp at hb) .nil))
 ·simp only [List.mem_cons,List.not_mem_nil,or_false] at hb;rcases hb with rfl | rfl<;>decide+kernel
 ·simp only [List.mem_cons,List.not_mem_nil,or_false] at hb;subst hb;decide+kernel
theorem ZDG : ∀a∈ [c1,c2,c3],∀b∈ [c1,c2,c3],kd a=kd b->a=b:=by
 intro a ha b hb e;simp only [List.mem_cons,List.not_mem_nil,or_false] at ha hb;rcases ha with rfl | rfl | rfl<;>rcases hb with rfl | rfl | rfl<;>first | rfl | (exfalso;revert e;decide)
theorem ZsS : KJ (smX 1) [c1,c2,c3]=40:=by decide+kernel
theorem ZqI : KJ (smX 2) [c1,c2,c3]=30:=by decide+kernel
theorem ZzB : KJ (smX 1) [c1,c2]= -1:=by decide+kernel
theorem Zl0 : ∀n:Int,∀c∈ [c1,c2,c3],rightB (smX n) c=true:=by
 intro n c hc;have:rightB (smX n) c=rightB (smX 1) c:=rfl;rw [this];simp only [List.mem_cons,List.not_mem_nil,or_false] at hc;rcases hc with rfl | rfl | rfl<;>decide+kernel
def pk (n:Int):List Col×List Int:=Xw (smX n).orders.length ((Xt (smX n) (smX n).orders.length:Nat):Int) (smX n) (fstF (smX n).orders.length [c1,c2,c3]) (skF (smX n) (smX n).orders.length) 20 (Vh (smX n).orders.length ((Xt (smX n) (smX n).orders.length:Nat):Int) zSt)
theorem pk1 : pk 1=([c3],[]):=by rfl
theorem pk2 : pk 2=([c1,c2],[]):=by rfl
theorem ZCh : ∀c∈ [c1,c2,c3],c.set<9223372036854775808:=by
 intro c hc;simp only [List.mem_cons,List.not_mem_nil,or_false] at hc;rcases hc with rfl | rfl | rfl<;>decide
theorem Zl6 {n:Int} {p:Pln} {c e:Int} (h:Zzk (smX n) [c1,c2,c3] p c e) (hb:0<=KJ (smX n) [c1,c2,c3]):c=KJ (smX n) [c1,c2,c3]/\e=0/\ ∃zs:List Col,zs.Perm (pk n).1/\zs.Pairwise (fun a b=> ¬cfC b a<0)/\p=⟨false,zs.map (·.route),false,(pk n).2⟩:=by
 rcases h with ⟨g1,_⟩ | ⟨_,⟨c,gc,g2⟩,_⟩ | ⟨_,_,ys,hC,_,h⟩
 ·simp at g1
 ·rw [Zl0 n c gc] at g2;cases g2
 ·obtain rfl:=J5 hC ZDo ZDG;rcases h with ⟨g,_⟩ | ⟨_,rfl,rfl,h⟩
  ·omega
  ·exact ⟨rfl,rfl,h⟩
def rt (t:Int):Rte:=⟨0,t,true,[],true,[]⟩
def rs1 : List Rte:= [rt 3]
def rs2 : List Rte:= [rt 1,rt 2]
theorem Zs7 : PT 17 [.p (Zt (smX 1)),.p (.list false ((smL 3).map Xa))] [.p (JG ⟨false,rs1,false,[]⟩),.p (.int .i64 40),.p (.int .i64 0)] :=
 (Jh (smX 1) [c1,c2,c3] false (ZyG 1 (by decide)) (by decide) (by decide) ZCh (by decide)).mono fun y H' hq=>by
  obtain ⟨p,c,e,h,rfl,rfl⟩:=hq;obtain ⟨rfl,rfl,zs,h1,_,rfl⟩:=Zl6 h (by rw [ZsS];decide);rw [pk1] at h1 ⊢;obtain rfl:=List.perm_singleton.1 h1;rw [ZsS];exact ⟨rfl,rfl⟩
theorem ZrZ : PT 17 [.p (Zt (smX 2)),.p (.list false ((smL 3).map Xa))] [.p (JG ⟨false,rs2,false,[]⟩),.p (.int .i64 30),.p (.int .i64 0)] :=
 (Jh (smX 2) [c1,c2,c3] false (ZyG 2 (by decide)) (by decide) (by decide) ZCh (by decide)).mono fun y H' hq=>by
  obtain ⟨p,c,e,h,rfl,rfl⟩:=hq;obtain ⟨rfl,rfl,zs,h1,h2,rfl⟩:=Zl6 h (by rw [ZqI];decide);rw [pk2] at h1 ⊢
  have hz:zs= [c1,c2]\/zs= [c2,c1]:=by
   have hl:=h1.length_eq
   have hne:c1≠c2:=fun e=>by have:=congrArg Col.set e;revert this;decide
   rcases zs with _ | ⟨a,_ | ⟨b,_ | ⟨d,r⟩⟩⟩
   ·simp at hl
   ·simp at hl
   ·have m1:c1∈ [a,b]:=h1.mem_iff.2 (by simp);have m2:c2∈ [a,b]:=h1.mem_iff.2 (by simp);simp only [List.mem_cons,List.not_mem_nil,or_false] at m1 m2;rcases m1 with e1 | e1<;>rcases m2 with e2 | e2
    ·exact absurd (e1.trans e2.symm) hne
    ·exact .inl (by rw [e1,e2])
    ·exact .inr (by rw [e1,e2])
    ·exact absurd (e1.trans e2.symm) hne
   ·simp at hl
  rcases hz with rfl | rfl
  ·rw [ZqI];exact ⟨rfl,rfl⟩
  ·have:=(List.pairwise_cons.1 h2).1 c1 (by simp);exact absurd (by decide+kernel) this
theorem Zrq : PT 18 [.p (Zt (smX 1)),.p (.list false ([c1,c2].map Xa))] [.p (.int .i64 0),.p (.int .i64 24)] :=
 (ZlU (smX 1) [c1,c2] false (ZyG 1 (by decide)) (by decide) (by decide) (fun c hc=>ZCh c (by simp at hc ⊢;rcases hc with rfl | rfl<;>simp)) (by decide)).mono fun y H' hq=>by
  obtain ⟨a,e,h,rfl,rfl⟩:=hq;rcases h with ⟨g1,_⟩ | ⟨_,⟨c,gc,g2⟩,_⟩ | ⟨_,_,ys,hC,rfl,rfl⟩
  ·simp at g1
  ·rw [Zl0 1 c (by simp at gc ⊢;rcases gc with rfl | rfl<;>simp)] at g2;cases g2
  ·have hp:=ZDo;obtain rfl:=J5 hC (hp.sublist (List.sublist_append_left [c1,c2] [c3])) (fun a ha b hb=>ZDG a (by simp at ha ⊢;rcases ha with rfl | rfl<;>simp) b (by simp at hb ⊢;rcases hb with rfl | rfl<;>simp));rw [ZzB];exact ⟨rfl,rfl⟩
def c4 : Col:=⟨0,4,0,⟨0,0,true,[],true,[]⟩⟩
theorem ZtV : PT 18 [.p (Zt (smX 1)),.p (.list false ([c4].map Xa))] [.p (.int .i64 0),.p (.int .i64 2)] :=
 (ZlU (smX 1) [c4] false (ZyG 1 (by decide)) (by decide) (by decide) (fun c hc=>by simp at hc;subst hc;decide) (by decide)).mono fun y H' hq=>by
  obtain ⟨a,e,h,rfl,rfl⟩:=hq;rcases h with ⟨g1,_⟩ | ⟨_,_,rfl,rfl⟩ | ⟨_,g,_⟩
  ·simp at g1
  ·exact ⟨rfl,rfl⟩
  ·have:=g c4 (by simp)
   have h4:rightB (smX 1) c4=false:=by decide+kernel
   rw [h4] at this;cases this
theorem Zmu {g:FuncId} {args:List V} {a b c:PV} {H:List AM.Obj} {K:V->List AM.Obj->Prop} (h:ACalls Tryz.prog g args [] fun x H'=>x= .tup [.p a,.p b,.p c]/\H'= []) (k:K (.tup [.p a,.p b,.p c]) H) (ha:ZU 0 args=true:=by rfl):ACalls Tryz.prog g args H K :=
 (h.behind ha H).mono fun x H' hq=>by
  obtain ⟨y,H1,⟨rfl,rfl⟩,rfl,rfl⟩:=hq;simpa [shV,shVs] using k
theorem Zbl : PC 7 [] (.bool true):=by
 refine WA [6] Tryz.func7 rfl ZFe ?_;simp (disch:=omega) only [Tryz.f7,go_sem,seval];have h3:(smL 3).length=3:=rfl;have r1:rs1.length=1:=rfl;have r2:rs2.length=2:=rfl;have r3:(nth rs1 0).start=3:=rfl;have r4:(nth rs2 0).start=1:=rfl;have r5:(nth rs2 1).start=2:=rfl;refine Ka (JW 1 (by decide)) ?_;simp (disch:=omega) only [go_sem,seval];refine Zmu Zs7 ?_;simp (disch:=omega) only [go_sem,seval];refine Ka (JW 2 (by decide)) ?_;simp (disch:=omega) only [go_sem,seval];refine Zmu ZrZ ?_;simp (disch:=omega) only [go_sem,seval]
 refine Zg mixed (by kernel_rfl) (by kernel_rfl) ?_;simp (disch:=omega) only [go_sem,seval];refine Wx Zrq ?_;simp (disch:=omega) only [go_sem,seval];refine XW (Zal 3 ?_);simp (disch:=omega) only [go_sem,seval];refine ⟨_,_,Weak.fz (o:=4) (by rfl),?_⟩;simp (disch:=omega) only [List.map_cons,List.map_nil,List.set_cons_succ,List.set_cons_zero,List.cons_append,List.nil_append,go_sem,seval];refine Ka ZtV ?_;simp (disch:=omega) only [go_sem,seval];refine Zd [] _ _ _ _ ?_;simp (maxSteps:=3000000) (disch:=omega) only [r1,r2,r3,r4,r5,Int.toNat_zero,Int.toNat_one,go_sem,seval]
def ky (l:List Col) (a:Int):Int×Int×Int:=if a<0 then (1,0,0) else (0,(nth l a.toNat).typ,(nth l a.toNat).set)
def Zup (a b:Int×Int×Int):Prop:=a.1<b.1\/(a.1=b.1/\(a.2.1<b.2.1\/(a.2.1=b.2.1/\a.2.2<b.2.2)))
def KE (n:Nat) (l:List Col) (a b:List Int):Prop:= ∀t,t<n->ky l (nth a t)=ky l (nth b t)/\nth a t<=nth b t
def KL (n:Nat) (l:List Col) (a b:List Int):Prop:=(∃i,i<n/\(∀t,t<i->ky l (nth a t)=ky l (nth b t))/\Zup (ky l (nth a i)) (ky l (nth b i)))\/KE n l a b
def mI (x:Inst):Int:=((Xt x x.orders.length:Nat):Int)
theorem Zb8 {x:Inst} (hn:x.orders.length<=4) {k:Nat} (hk:k<x.orders.length):sHas (mI x) k= !(nth x.orders k).off:=by
 rw [mI,XK _ _ (by omega),Y5];simp [hk]
theorem QV {n:Nat} {s:St} (h:StV n s) {k:Nat} (hk:k<=62):sHas s.cov k=s.cov.toNat.testBit k:=by
 obtain ⟨C,hC,_⟩:=h.cov;rw [hC,XK _ _ hk,Int.toNat_natCast]
structure Ctx (x:Inst) (l ys:List Col):Prop where
 n4:x.orders.length<=4
 t6:x.types.length<=6
 ch:Cheap l ys
 rt: ∀c∈l,rightB x c=true
 st: ∀c∈l,c.set<9223372036854775808
 ok:ChOk x.orders.length x (fstF x.orders.length ys) (skF x x.orders.length)
 sk: ∀k,k<x.orders.length->(nth x.orders k).off=false->(0<=(nth x.orders k).penalty↔0<=skpF x k)/\(0<=skpF x k->skpF x k=skR x k)
theorem ZqO : ∀S:Fin 16,0<S.val-> ∀k:Fin 4,(tzN S.val=(k.val:Int)↔(S.val.testBit k.val=true/\ ∀i:Fin 4,i.val<k.val->S.val.testBit i.val=false)):=by decide+kernel
theorem ZhY {S n k:Nat} (hS:0<S) (h:S<2^n) (hn:n<=4) (hk:k<n):tzN S=(k:Int)↔(S.testBit k=true/\ ∀i,i<n->S.testBit i=true->k<=i):=by
 have h16:S<16:=Nat.lt_of_lt_of_le h (Nat.pow_le_pow_right (n:=2) (by omega) hn);rw [show tzN S=(k:Int)↔_ from ZqO ⟨S,h16⟩ hS ⟨k,by omega⟩];refine and_congr_right fun _=>⟨fun g i hi hb=> ?_,fun g i hi=> ?_⟩
 ·rcases Nat.lt_or_ge i k with h1 | h1
  ·have:=g ⟨i,by omega⟩ h1;simp only at this;rw [this] at hb;cases hb
  ·exact h1
 ·cases hb:S.testBit i.val with
  | false=>rfl
  | true =>
   have hi':i.val<k:=hi;have:=g i.val (by omega) hb;omega
theorem Ctx.set {x:Inst} {l ys:List Col} (h:Ctx x l ys) {c:Col} (hc:c∈l):c.set=(c.set.toNat:Int)/\0<c.set.toNat/\c.set.toNat<2^x.orders.length/\ ∀i,c.set.toNat.testBit i=true->i<x.orders.length/\(nth x.orders i).off=false:=by
 obtain ⟨S,h1,h2,h3,h4⟩:=Y6 (h.rt c hc) (h.st c hc);rw [h1,Int.toNat_natCast];exact ⟨rfl,h2,h3,h4⟩
theorem Ctx.typ {x:Inst} {l ys:List Col} (h:Ctx x l ys) {c:Col} (hc:c∈l):(0<=c.typ/\c.typ<x.types.length)/\0<=c.price:=by
 have:=h.rt c hc;simp only [rightB,Bool.and_eq_true,decide_eq_true_eq] at this;exact ⟨⟨this.1,this.2.1⟩,this.2.2.2.2.1⟩
structure Nd (x:Inst) (l:List Col) (a:List Int) (s:St) (k:Nat):Prop where
 len:a.length=x.orders.length
 ix:s.ix=k
 v:StV x.orders.length s
 cov: ∀i,i<x.orders.length->s.cov.toNat.testBit i=decide (0<=nth a i)
 rng: ∀i,i<x.orders.length-> -1<=nth a i/\nth a i<l.length
 used: ∀T:Nat,T<6->nth s.used T=usdI l a T x.orders.length
 grp: ∀i,i<x.orders.length->0<=nth a i-> ∀t,t<x.orders.length->(nth l (nth a i).toNat).set.toNat.testBit t=true->nth a t=nth a i
 old: ∀i,i<x.orders.length->k<=i->0<=nth a i-> ∃t,t<k/\(nth l (nth a i).toNat).set.toNat.testBit t=true
 own: ∀i,i<x.orders.length->0<=nth a i->(nth l (nth a i).toNat).set.toNat.testBit i=true
def skS (s:St):St:= { s with ix:=s.ix+1 }
def nxS (s:St) (c:Col):St:=⟨s.ix+1,((s.cov.toNat|||c.set.toNat:Nat):Int),s.used.set c.typ.toNat (nth s.used c.typ.toNat+1)⟩
theorem Nd.skip {x:Inst} {l:List Col} {a:List Int} {s:St} {k:Nat} (h:Nd x l a s k) (hk:k<x.orders.length) (ho:0<=nth a k-> ∃t,t<k/\(nth l (nth a k).toNat).set.toNat.testBit t=true):Nd x l a (skS s) (k+1) :=
 ⟨h.len,by simp only [skS,h.ix];omega,⟨h.v.len,by have:=h.ix;simp only [skS];omega,h.v.cov,h.v.used⟩,h.cov,h.rng,h.used,h.grp,fun i hi hki h0=>by
  obtain ⟨t,h1,h2⟩:=h.old i hi (by omega) h0
  exact ⟨t,by omega,h2⟩,h.own⟩
theorem Nd.skip' {x:Inst} {l:List Col} {a:List Int} {s:St} {k:Nat} (h:Nd x l a s k) (hk:k<x.orders.length):Nd x l a (skS s) (k+1):=h.skip hk fun h0=>h.old k hk (Nat.le_refl _) h0
theorem Zhx {x:Inst} {l ys:List Col} (hc:Ctx x l ys) {a:List Int} {s:St} {k j:Nat} (h:Nd x l a s k) (hk:k<x.orders.length) (hj:j<l.length):ZfT x l a j k=true↔(YB x s (nth l j)=true/\tzN (nth l j).set.toNat=(k:Int)):=by
 obtain ⟨hS,hS0,hS1,hS2⟩:=hc.set (Zv hj);obtain ⟨⟨ht0,ht1⟩,_⟩:=hc.typ (Zv hj);have ht6:=hc.t6;have hu:=h.used (nth l j).typ.toNat (by omega);rw [show (((nth l j).typ.toNat:Nat):Int)=(nth l j).typ by omega] at hu;rw [ZhY hS0 hS1 hc.n4 hk];simp only [ZfT,YB,ZfQ,Bool.and_eq_true,decide_eq_true_eq,UD,h.len,hu]
 constructor
 ·rintro ⟨h1,h2,h3⟩;refine ⟨⟨Nat.eq_of_testBit_eq fun i=> ?_,h2⟩,h1,fun i hi hb=>(h3 i hi hb).2⟩;rw [Nat.testBit_and,Nat.zero_testBit]
  cases hb:(nth l j).set.toNat.testBit i with
  | false=>simp
  | true =>
   have hi:=(hS2 i hb).1;rw [h.cov i hi,Bool.and_true,decide_eq_false_iff_not];have:=(h3 i hi hb).1;omega
 ·rintro ⟨⟨h1,h2⟩,h3,h4⟩;refine ⟨h3,h2,fun i hi hb=>⟨?_,h4 i hi hb⟩⟩;have:=congrArg (fun z=>z.testBit i) h1;simp only [Nat.testBit_and,Nat.zero_testBit,hb,Bool.and_true] at this;rw [h.cov i hi,decide_eq_false_iff_not] at this;omega
theorem ZaK {x:Inst} {l:List Col} {a:List Int} {k:Nat} {S:Nat} {j:Nat} (hl:a.length=x.orders.length) (hk:k<x.orders.length) (hb:S.testBit k=true) (hneg: ∀i,i<x.orders.length->S.testBit i=true->nth a i<0/\k<=i) (hfr: ∀i,i<x.orders.length->S.testBit i=false->nth a i≠(j:Int)) (T:Int) :
  ∀m,m<=x.orders.length->usdI l (QX S a j) T m=usdI l a T m+(if k<m/\(nth l j).typ=T then 1 else 0)
 | 0,_=>by simp [usdI]
 | i+1,hm=>by
  have hi:i<a.length:=by omega
  rw [usdI,usdI,ZaK hl hk hb hneg hfr T i (by omega)];have ZJ: ∀t,t<i->nth (QX S a j) t=if S.testBit t=true then (j:Int) else nth a t:=fun t ht=>ZT (by omega)
  cases hs:S.testBit i with
  | false =>
   have e:ZdA l (QX S a j) T i=ZdA l a T i:=by
    rw [ZdA,ZdA,ZT hi,hs,if_neg (by simp)]
    by_cases h0:0<=nth a i
    ·have ef:Zpf (QX S a j) i=Zpf a i:=by
      rw [Bool.eq_iff_iff,K2,K2,ZT hi,hs,if_neg (by simp)];refine ⟨fun g t ht=> ?_,fun g t ht=> ?_⟩
      ·have:=g t ht;rw [ZJ t ht] at this
       split at this
       ·rename_i hst;have:=(hneg t (by omega) hst).1;omega
       ·exact this
      ·rw [ZJ t ht]
       split
       ·exact fun e=>hfr i (by omega) hs e.symm
       ·exact g t ht
     rw [ef]
    ·simp [h0]
   rw [e]
   have hne: ¬k=i:=fun e=>by rw [<- e,hb] at hs;cases hs
   have:(k<i+1/\(nth l j).typ=T)↔(k<i/\(nth l j).typ=T):=⟨fun g=>⟨by omega,g.2⟩,fun g=>⟨by omega,g.2⟩⟩;simp only [this];omega
  | true =>
   obtain ⟨hn,hki⟩:=hneg i (by omega) hs
   have e2:ZdA l a T i=false:=by
    rw [ZdA,decide_eq_false (by omega),Bool.false_and]
   have e1:ZdA l (QX S a j) T i=(decide ((nth l j).typ=T)&&decide (k=i)):=by
    rw [ZdA,ZT hi,hs,if_pos rfl,decide_eq_true (by omega),Bool.true_and,Int.toNat_natCast]
    congr 1
    rw [Bool.eq_iff_iff,K2,ZT hi,hs,if_pos rfl,decide_eq_true_eq];refine ⟨fun g=> ?_,fun g t ht=> ?_⟩
    ·rcases Nat.lt_or_ge k i with h1 | h1
     ·have:=g k h1;rw [ZJ k h1,hb,if_pos rfl] at this;exact absurd rfl this
     ·omega
    ·subst g
     have hst:S.testBit t=false:=by
      cases hst:S.testBit t with
      | false=>rfl
      | true=>have:=(hneg t (by omega) hst).2;omega
     rw [ZJ t ht,hst,if_neg (by simp)];exact hfr t (by omega) hst
   rw [e1,e2]
   by_cases hT:(nth l j).typ=T
   ·by_cases hk2:k=i
    ·simp [hT,hk2]
    ·have:k<i:=by omega
     have h3:k<i+1:=by omega
     simp [hT,hk2,this,h3]
   ·simp [hT]
theorem Nd.child {x:Inst} {l ys:List Col} (hc:Ctx x l ys) {a:List Int} {s:St} {k j:Nat} (h:Nd x l a s k) (hk:k<x.orders.length) (hj:j<l.length) (hcan:ZfT x l a j k=true):Nd x l (QX (nth l j).set.toNat a j) (nxS s (nth l j)) (k+1):=by
 obtain ⟨hS,hS0,hS1,hS2⟩:=hc.set (Zv hj);obtain ⟨⟨ht0,ht1⟩,_⟩:=hc.typ (Zv hj);have ht6:=hc.t6;have hl6:s.used.length=6:=h.v.len;have hu:=h.used (nth l j).typ.toNat (by omega);rw [show (((nth l j).typ.toNat:Nat):Int)=(nth l j).typ by omega] at hu;have hcan':=hcan;simp only [ZfT,Bool.and_eq_true,decide_eq_true_eq,UD,h.len] at hcan';obtain ⟨hb,hcnt,hneg⟩:=hcan';rw [<- hu] at hcnt;have hcount:=hc.ok.typ.2 (nth l j).typ.toNat (by omega);have hak:=(hneg k hk hb).1
 have hfr: ∀i,i<x.orders.length->(nth l j).set.toNat.testBit i=false->nth a i≠(j:Int):=fun i hi _ e=>by
  have:=h.grp i hi (by omega) k hk (by rw [e,Int.toNat_natCast];exact hb);omega
 obtain ⟨C,hC,hC2⟩:=h.v.cov;have hS10:(nth l j).set.toNat<1024:=Nat.lt_of_lt_of_le hS1 (Nat.pow_le_pow_right (n:=2) (by omega) (show x.orders.length<=10 by have:=hc.n4;omega));refine ⟨by rw [WP];exact h.len,by simp only [nxS,h.ix];omega,⟨by simp only [StR,nxS,List.length_set];exact hl6,by have:=h.ix;simp only [nxS];omega,⟨_,rfl,?_⟩,fun t ht=> ?_⟩,fun i hi=> ?_,fun i hi=> ?_,fun T hT=> ?_,fun i hi h0 t ht hbt=> ?_,fun i hi hki h0=> ?_,fun i hi h0=> ?_⟩
 ·rw [hC,Int.toNat_natCast];exact Nat.or_lt_two_pow (n:=10) hC2 hS10
 ·simp only [nxS];rw [Qj (by omega)]
  split
  ·have:=h.v.used (nth l j).typ.toNat (by omega);omega
  ·exact h.v.used t ht
 ·simp only [nxS,Int.toNat_natCast];rw [Nat.testBit_or,h.cov i hi,ZT (by rw [h.len];exact hi)]
  split
  ·rename_i hbi;simp [hbi]
  ·rename_i hbi;simp [hbi]
 ·rw [ZT (by rw [h.len];exact hi)]
  split
  ·omega
  ·exact h.rng i hi
 ·simp only [nxS];rw [Qj (by omega),ZaK h.len hk hb hneg hfr T _ (Nat.le_refl _),h.used T hT]
  by_cases e:(nth l j).typ=T
  ·rw [if_pos (by omega),if_pos ⟨hk,e⟩,hu,e];simp
  ·rw [if_neg (by omega),if_neg (fun g=>e g.2)];simp
 ·rw [ZT (i:=i) (by rw [h.len];exact hi)] at h0 hbt ⊢;rw [ZT (i:=t) (by rw [h.len];exact ht)]
  cases hbi:(nth l j).set.toNat.testBit i with
  | true =>
   rw [hbi,if_pos rfl,Int.toNat_natCast] at hbt;rw [hbt,if_pos rfl,if_pos rfl]
  | false =>
   rw [hbi,if_neg (by simp)] at h0 hbt;have e:=h.grp i hi h0 t ht hbt
   have:(nth l j).set.toNat.testBit t=false:=by
    cases hb2:(nth l j).set.toNat.testBit t with
    | false=>rfl
    | true=>have:=(hneg t ht hb2).1;omega
   rw [this,if_neg (by simp),if_neg (by simp)];exact e
 ·rw [ZT (by rw [h.len];exact hi)] at h0 ⊢
  cases hbi:(nth l j).set.toNat.testBit i with
  | true =>
   rw [if_pos rfl,Int.toNat_natCast];exact ⟨k,by omega,hb⟩
  | false =>
   rw [hbi,if_neg (by simp)] at h0;rw [if_neg (by simp)];obtain ⟨t,h1,h2⟩:=h.old i hi (by omega) h0;exact ⟨t,by omega,h2⟩
 ·rw [ZT (by rw [h.len];exact hi)] at h0 ⊢
  cases hbi:(nth l j).set.toNat.testBit i with
  | true=>rw [if_pos rfl,Int.toNat_natCast];exact hbi
  | false =>
   rw [hbi,if_neg (by simp)] at h0;rw [if_neg (by simp)];exact h.own i hi h0
def Lx (x:Inst) (ys:List Col) (D:Nat) (s:St):Int:=Wf x.orders.length (mI x) x (fstF x.orders.length ys) (skF x x.orders.length) D (Vh x.orders.length (mI x) s)
theorem ZmK {x:Inst} {ys:List Col} {D:Nat} {s:St} (h:s.ix=x.orders.length):Lx x ys D s=0:=by
 unfold Lx
 cases D with
 | zero=>rfl
 | succ D =>
  rw [Wf,if_pos];simp only [Vh];have:=Jg (n:=x.orders.length) (m:=mI x) (cov:=s.cov) (x.orders.length-s.ix.toNat) s.ix.toNat;omega
theorem JA {n:Nat} {m:Int} {s:St} {k:Nat} (hk:s.ix=k) (hkn:k<n) (hc:sHas m k=false\/sHas s.cov k=true):Vh n m s=Vh n m (skS s):=by
 obtain ⟨i,v,u⟩:=s;simp only at hk hc;subst hk;simp only [Vh,skS,St.mk.injEq,and_true,and_self];rw [show ((k:Int)+1).toNat=k+1 by omega,Int.toNat_natCast,KC hkn hc]
theorem Ji {n:Nat} {m:Int} {s:St} {k:Nat} (hk:s.ix=k) (h1:sHas m k=true) (h2:sHas s.cov k=false):Vh n m s=s:=by
 obtain ⟨i,v,u⟩:=s;simp only at hk h2;subst hk;simp only [Vh,St.mk.injEq,and_true];rw [Int.toNat_natCast,QK (by rw [h1,h2];simp)]
theorem Zab {n:Nat} {m:Int} {s:St} {c:Col} {k:Nat} (hk:s.ix=k) (hkn:k<n) (hn:n<=4) (hb:c.set.toNat.testBit k=true):We n m s c=Vh n m (nxS s c):=by
 have e:=JA (n:=n) (m:=m) (s:=⟨s.ix,((s.cov.toNat|||c.set.toNat:Nat):Int),s.used.set c.typ.toNat (nth s.used c.typ.toNat+1)⟩) (k:=k) hk hkn (.inr (by
  simp only
  rw [XK _ _ (by omega),Nat.testBit_or,hb,Bool.or_true]))
 exact e
theorem VV {x:Inst} {l ys:List Col} (hc:Ctx x l ys) {k:Nat} (hk:k<x.orders.length) {c:Col} (hm:c∈Yc ys k):c∈ys/\c∈l/\tzN c.set.toNat=(k:Int)/\c.set.toNat.testBit k=true:=by
 rw [Yc,List.mem_filter,decide_eq_true_eq] at hm;have hl:=KW hc.ch hm.1;obtain ⟨_,h0,h1,_⟩:=hc.set hl;exact ⟨hm.1,hl,hm.2,((ZhY h0 h1 hc.n4 hk).1 hm.2).1⟩
theorem Zh4 {x:Inst} {l ys:List Col} (hc:Ctx x l ys) {D:Nat} (hD:10<D) {s:St} {k:Nat} (hv:StV x.orders.length s) (hk:s.ix=k) (hkn:k<x.orders.length) (ho:(nth x.orders k).off=false) (hcv:s.cov.toNat.testBit k=false) :
  Lx x ys D s=if 0<=skpF x k then Wb ((Yc ys k).foldl (fun o c=>if YB x s c=true then Wb o c.price (Lx x ys D (nxS s c)) else o) (-1)) (skpF x k) (Lx x ys D (skS s)) else (Yc ys k).foldl (fun o c=>if YB x s c=true then Wb o c.price (Lx x ys D (nxS s c)) else o) (-1):=by
 have hn:=hc.n4
 have e1:Lx x ys D s=Wf x.orders.length (mI x) x (fstF x.orders.length ys) (skF x x.orders.length) (D+1) s:=by
  rw [Lx,Ji hk (by rw [Zb8 hn hkn,ho];rfl) (by rw [QV hv (by omega),hcv])];exact WB hc.ok _ _ s hv (by have:=hv.ix;omega) (by have:=hv.ix;omega)
 rw [e1,Wf,if_neg (by omega)]
 have e2:nth (fstF x.orders.length ys) s.ix.toNat=Yc ys k:=by rw [hk,Int.toNat_natCast,ZeE,if_pos hkn]
 have e3:nth (skF x x.orders.length) s.ix.toNat=skpF x k:=by rw [hk,Int.toNat_natCast,skF,Ze (by simpa using hkn)];simp
 have e4:(Yc ys k).foldl (fun o c=>if YB x s c=true then Wb o c.price (Wf x.orders.length (mI x) x (fstF x.orders.length ys) (skF x x.orders.length) D (We x.orders.length (mI x) s c)) else o) (-1)=(Yc ys k).foldl (fun o c=>if YB x s c=true then Wb o c.price (Lx x ys D (nxS s c)) else o) (-1) :=
  WY fun c hm o=>by rw [Zab hk hkn hn (VV hc hkn hm).2.2.2];rfl
 simp only [e2,e3,e4]
 rfl
def Zb3 (x:Inst) (ys:List Col) (D:Nat) (s:St) (c:Col):Bool:=YB x s c&&(decide (0<=Lx x ys D (nxS s c))&&decide (c.price+Lx x ys D (nxS s c)=Lx x ys D s))
noncomputable def ZcE (l:List Col) (d:Col):Nat:=open Classical in if h:Bst l l.length d then h.choose else 0
theorem Zht {l:List Col} {d:Col} (h:Bst l l.length d):ZcE l d<l.length/\nth l (ZcE l d)=d/\ ∀i,i<l.length->kd (nth l i)=kd d->d.price<(nth l i).price\/(d.price=(nth l i).price/\ZcE l d<=i):=by
 have e:ZcE l d=h.choose:=by rw [ZcE,dif_pos h]
 rw [e];exact h.choose_spec
noncomputable def gr (x:Inst) (l ys:List Col) (D:Nat):Nat->Nat->St->List Int->List Int
 | 0,_,_,a=>a
 | d+1,k,s,a=>if (nth x.orders k).off=true\/0<=nth a k then gr x l ys D d (k+1) (skS s) a else
  match (Yc ys k).find? (Zb3 x ys D s) with
  | some c=>gr x l ys D d (k+1) (nxS s c) (QX c.set.toNat a (ZcE l c))
  | none=>gr x l ys D d (k+1) (skS s) a
theorem VC {x:Inst} {l ys:List Col} (hc:Ctx x l ys) {a:List Int} {s:St} {k:Nat} (h:Nd x l a s k) (hk:k<x.orders.length) {c:Col} (hm:c∈Yc ys k) (hy:YB x s c=true):ZcE l c<l.length/\nth l (ZcE l c)=c/\ZfT x l a (ZcE l c) k=true:=by
 obtain ⟨h1,h2,h3,h4⟩:=VV hc hk hm;obtain ⟨p1,p2,_⟩:=Zht (hc.ch.bst c h1);exact ⟨p1,p2,(Zhx hc h hk p1).2 (by rw [p2];exact ⟨hy,h3⟩)⟩
theorem Jd {x:Inst} {l:List Col} {a:List Int} {k j:Nat} (hl:a.length=x.orders.length) (hcan:ZfT x l a j k=true):(nth l j).set.toNat.testBit k=true/\ ∀t,t<x.orders.length->(t<k\/0<=nth a t)->nth (QX (nth l j).set.toNat a j) t=nth a t:=by
 simp only [ZfT,Bool.and_eq_true,UD,hl] at hcan;refine ⟨hcan.1,fun t ht h=> ?_⟩;rw [ZT (by omega)]
 cases hb:(nth l j).set.toNat.testBit t with
 | false=>simp
 | true=>have:=hcan.2.2 t ht hb;omega
theorem J6 {x:Inst} {l ys:List Col} (hc:Ctx x l ys) {D:Nat} : ∀(d k:Nat) (s:St) (a:List Int),k+d=x.orders.length->Nd x l a s k->(gr x l ys D d k s a).length=x.orders.length/\ ∀t,t<x.orders.length->(t<k\/0<=nth a t)->nth (gr x l ys D d k s a) t=nth a t
 | 0,k,s,a,_,h=>⟨h.len,fun _ _ _=>rfl⟩
 | d+1,k,s,a,hd,h=>by
  have hk:k<x.orders.length:=by omega
  rw [gr];have skip:=J6 hc (D:=D) d (k+1) (skS s) a (by omega) (h.skip' hk)
  split
  ·exact ⟨skip.1,fun t ht hh=>skip.2 t ht (hh.imp (by omega) id)⟩
  ·split
   ·rename_i c hf;have hsel:=List.find?_some hf;simp only [Zb3,Bool.and_eq_true] at hsel;obtain ⟨p1,p2,p3⟩:=VC hc h hk (List.mem_of_find?_eq_some hf) hsel.1;have hch:=h.child hc hk p1 p3;rw [p2] at hch;have ho:=(Jd h.len p3).2;rw [p2] at ho;obtain ⟨g1,g2⟩:=J6 hc (D:=D) d (k+1) (nxS s c) _ (by omega) hch;refine ⟨g1,fun t ht hh=> ?_⟩
    rw [g2 t ht (by
     rcases hh with h1 | h1
     ·left;omega
     ·right;rw [ho t ht (.inr h1)];exact h1),ho t ht hh]
   ·exact ⟨skip.1,fun t ht hh=>skip.2 t ht (hh.imp (by omega) id)⟩
theorem QW {x:Inst} {l:List Col} : ∀(d:Nat) (a:List Int) (p:Int),d<=x.orders.length->a.length=x.orders.length-> ∀q∈lvs x l d a p,q.1.length=x.orders.length/\ ∀t,t<x.orders.length->(t<x.orders.length-d\/0<=nth a t)->nth q.1 t=nth a t
 | 0,a,p,_,h,q,hq=>by
  simp only [lvs,List.mem_cons,List.not_mem_nil,or_false] at hq;subst hq;exact ⟨h,fun _ _ _=>rfl⟩
 | d+1,a,p,hd,h,q,hq=>by
  rw [lvs] at hq
  split at hq
  ·obtain ⟨g1,g2⟩:=QW d a p (by omega) h q hq;exact ⟨g1,fun t ht hh=>g2 t ht (hh.imp (by omega) id)⟩
  ·rw [List.mem_append,List.mem_flatMap] at hq;rcases hq with ⟨j,hj,hq⟩ | hq
   ·split at hq
    ·rename_i hcan;have ho:=(Jd h hcan).2;obtain ⟨g1,g2⟩:=QW d _ _ (by omega) (by rw [WP];exact h) q hq;refine ⟨g1,fun t ht hh=> ?_⟩
     rw [g2 t ht (by
      rcases hh with h1 | h1
      ·left;omega
      ·right;rw [ho t ht (.inr h1)];exact h1),ho t ht hh]
    ·simp at hq
   ·split at hq
    ·obtain ⟨g1,g2⟩:=QW d a _ (by omega) h q hq;exact ⟨g1,fun t ht hh=>g2 t ht (hh.imp (by omega) id)⟩
    ·simp at hq
theorem KE.refl {n:Nat} {l:List Col} {a:List Int} :KE n l a a:=fun _ _=>⟨rfl,Int.le_refl _⟩
theorem Zsj {l:List Col} {a:Int} (h:a<0):ky l a=(1,0,0):=if_pos h
theorem ZaP {l:List Col} {a:Int} (h:0<=a):ky l a=(0,(nth l a.toNat).typ,(nth l a.toNat).set):=if_neg (by omega)
theorem ZAt {l:List Col} {i j:Nat} :ky l (i:Int)=ky l (j:Int)↔kd (nth l i)=kd (nth l j):=by
 rw [ZaP (by omega),ZaP (by omega)];simp [kd]
theorem Zk6 {x:Inst} {s:St} {r:Col->Int} {ls:List Col} (hp: ∀c∈ls,0<=c.price) (hr: ∀c∈ls,YB x s c=true-> -1<=r c) {c:Col} (hc:c∈ls) (hy:YB x s c=true) (h0:0<=r c) :
  leP (ls.foldl (fun o c=>if YB x s c=true then Wb o c.price (r c) else o) (-1)) (c.price+r c):=by
 have e:=WY (f:=fun o c=>if YB x s c=true then Wb o c.price (r c) else o) (g:=fun o c=>if YB x s c=true then Wb o c.price (max (-1) (r c)) else o) (l:=ls) (b:=(-1:Int)) fun c hc o=>by
  by_cases hy:YB x s c=true
  ·have:=hr c hc hy;simp only [hy,if_true]
   congr 1;omega
  ·simp only [hy];rfl
 rw [e];have:=(Zhu (x:=x) (s:=s) (r:=fun c=>max (-1) (r c)) (fun c=>by omega) (l:=ls) (a:= -1) hp).2 c hc hy (by omega);simpa only [show max (-1) (r c)=r c by omega] using this
theorem Zbw {x:Inst} {l ys:List Col} (hc:Ctx x l ys) {D:Nat} {s:St} (hv:StV x.orders.length s): -1<=Lx x ys D s:=(Yf (m:=mI x) hc.ok D _ (Zay hv).1).1
theorem Zgb {o p r:Int} (hr: -1<=r) (hp:0<=p):leP (Wb o p r) o/\(0<=r->leP (Wb o p r) (p+r)):=by
 unfold leP Wb
 split<;>omega
theorem ZqD {x:Inst} {l ys:List Col} (hc:Ctx x l ys) {D:Nat} (hD:10<D) {a:List Int} {s:St} {k:Nat} (h:Nd x l a s k) (hk:k<x.orders.length) (ho:(nth x.orders k).off=false) (hak:nth a k<0) {c:Col} (hm:c∈Yc ys k) (hy:YB x s c=true) (h0:0<=Lx x ys D (nxS s c)) :
  leP (Lx x ys D s) (c.price+Lx x ys D (nxS s c)):=by
 have hcv:s.cov.toNat.testBit k=false:=by rw [h.cov k hk];exact decide_eq_false (by omega)
 rw [Zh4 hc hD h.v h.ix hk ho hcv]
 have nd: ∀e∈Yc ys k,YB x s e=true->StV x.orders.length (nxS s e):=fun e he hye=>by
  obtain ⟨p1,p2,p3⟩:=VC hc h hk he hye;have:=(h.child hc hk p1 p3).v;rw [p2] at this;exact this
 have low:=Zk6 (x:=x) (s:=s) (r:=fun c=>Lx x ys D (nxS s c)) (ls:=Yc ys k) (fun e he=>(hc.typ (VV hc hk he).2.1).2) (fun e he hye=>Zbw hc (nd e he hye)) hm hy h0
 split
 ·rename_i hs;have b:=(Zgb (o:=(Yc ys k).foldl (fun o c=>if YB x s c=true then Wb o c.price (Lx x ys D (nxS s c)) else o) (-1)) (Zbw hc (D:=D) (h.skip' hk).v) hs).1;have hp:=(hc.typ (VV hc hk hm).2.1).2;unfold leP at *;omega
 ·exact low
theorem Zne {x:Inst} {l ys:List Col} (hc:Ctx x l ys) {D:Nat} (hD:10<D) {a:List Int} {s:St} {k:Nat} (h:Nd x l a s k) (hk:k<x.orders.length) (ho:(nth x.orders k).off=false) (hak:nth a k<0) (hs:0<=skpF x k) (h0:0<=Lx x ys D (skS s)) :
  leP (Lx x ys D s) (skpF x k+Lx x ys D (skS s)):=by
 have hcv:s.cov.toNat.testBit k=false:=by rw [h.cov k hk];exact decide_eq_false (by omega)
 rw [Zh4 hc hD h.v h.ix hk ho hcv,if_pos hs];exact (Zgb (Zbw hc (D:=D) (h.skip' hk).v) hs).2 h0
theorem ZiB {x:Inst} {l ys:List Col} (hc:Ctx x l ys) {D:Nat} {a:List Int} {s:St} {k:Nat} (h:Nd x l a s k) (hk:k<x.orders.length) (ho:(nth x.orders k).off=true\/0<=nth a k):Lx x ys D s=Lx x ys D (skS s):=by
 unfold Lx;rw [JA h.ix hk (ho.imp (fun e=>by rw [Zb8 hc.n4 hk,e];rfl) fun e=>by rw [QV h.v (by have:=hc.n4;omega),h.cov k hk];exact decide_eq_true e)]
theorem Jb {x:Inst} {l ys:List Col} (hc:Ctx x l ys) {D:Nat} (hD:10<D): ∀(d k:Nat) (s:St) (a b:List Int) (p:Int),k+d=x.orders.length->Nd x l a s k->Nd x l b s k->KE x.orders.length l a b-> ∀q∈lvs x l d b p,
  0<=Lx x ys D s/\p+Lx x ys D s<=q.2/\(q.2=p+Lx x ys D s->KL x.orders.length l (gr x l ys D d k s a) q.1)
 | 0,k,s,a,b,p,hd,ha,hb,he,q,hq=>by
  simp only [lvs,List.mem_cons,List.not_mem_nil,or_false] at hq;subst hq;rw [ZmK (by rw [ha.ix];omega)];exact ⟨by omega,by simp,fun _=> .inr he⟩
 | d+1,k,s,a,b,p,hd,ha,hb,he,q,hq=>by
  have hk:k<x.orders.length:=by omega
  have hkd:x.orders.length-(d+1)=k:=by omega
  have hneg: ∀t,t<x.orders.length->(0<=nth a t↔0<=nth b t):=fun t ht=>by
   have h1:=ha.cov t ht;rw [hb.cov t ht,decide_eq_decide] at h1;exact h1.symm
  rw [lvs,hkd] at hq;rw [gr]
  split at hq
  ·rename_i ho;have ho':(nth x.orders k).off=true\/0<=nth a k:=ho.imp id (hneg k hk).2;rw [if_pos ho',ZiB hc ha hk ho'];exact Jb hc hD d (k+1) (skS s) a b p (by omega) (ha.skip' hk) (hb.skip' hk) he q hq
  ·rename_i ho;have ho': ¬((nth x.orders k).off=true\/0<=nth a k):=fun g=>ho (g.imp id (hneg k hk).1);rw [if_neg ho']
   have hoff:(nth x.orders k).off=false:=by
    cases e:(nth x.orders k).off with
    | false=>rfl
    | true=>exact absurd (.inl e) ho
   have hbk:nth b k<0:=Int.not_le.1 fun g=>ho (.inr g);have hak:nth a k<0:=Int.not_le.1 fun g=>ho' (.inr g)
   -- what was picked stands at k
   have hpick: ∀c,(Yc ys k).find? (Zb3 x ys D s)=some c->YB x s c=true/\c∈ys/\(∀t,t<k->nth (gr x l ys D d (k+1) (nxS s c) (QX c.set.toNat a (ZcE l c))) t=nth a t)/\nth (gr x l ys D d (k+1) (nxS s c) (QX c.set.toNat a (ZcE l c))) k=ZcE l c/\nth l (ZcE l c)=c:=fun c hf=>by
    have hsel:=List.find?_some hf;simp only [Zb3,Bool.and_eq_true] at hsel;obtain ⟨p1,p2,p3⟩:=VC hc ha hk (List.mem_of_find?_eq_some hf) hsel.1;have hch:=ha.child hc hk p1 p3;obtain ⟨c1,c2⟩:=Jd ha.len p3;rw [p2] at hch c1 c2;have g2:=(J6 hc (D:=D) d (k+1) (nxS s c) _ (by omega) hch).2;refine ⟨hsel.1,(VV hc hk (List.mem_of_find?_eq_some hf)).1,fun t ht=> ?_,?_,p2⟩
    ·rw [g2 t (by omega) (.inl (by omega)),c2 t (by omega) (.inl ht)]
    ·rw [g2 k hk (.inl (by omega)),ZT (by rw [ha.len];exact hk),if_pos c1]
   rw [List.mem_append,List.mem_flatMap] at hq;rcases hq with ⟨j,hj,hq⟩ | hq
   ·have hj:=List.mem_range.1 hj
    split at hq
    ·rename_i hcan;obtain ⟨hy,htz⟩:=(Zhx hc hb hk hj).1 hcan;have hjl:=Zv hj;obtain ⟨d',hd',hkd',hpr⟩:=Zjq hc.ch hjl
     have hst:d'.set=(nth l j).set/\d'.typ=(nth l j).typ:=by
      simp only [kd,Kd.mk.injEq] at hkd';exact ⟨hkd'.2,hkd'.1⟩
     have hm:d'∈Yc ys k:=by
      rw [Yc,List.mem_filter,decide_eq_true_eq,hst.1];exact ⟨hd',htz⟩
     have hy':YB x s d'=true:=by simp only [YB,hst.1,hst.2] at hy ⊢;exact hy
     have hnx:nxS s d'=nxS s (nth l j):=by simp only [nxS,hst.1,hst.2]
     have hcb:=hb.child hc hk hj hcan;obtain ⟨cb1,cb2⟩:=Jd hb.len hcan;have hqo:=(QW d _ _ (by omega) (by rw [WP];exact hb.len) q hq).2
     have hqt: ∀t,t<k->nth q.1 t=nth b t:=fun t ht=>by rw [hqo t (by omega) (.inl (by omega)),cb2 t (by omega) (.inl ht)]
     have hqk:nth q.1 k=j:=by rw [hqo k hk (.inl (by omega)),ZT (by rw [hb.len];exact hk),if_pos cb1]
     obtain ⟨i1,i2,_⟩:=Jb hc hD d (k+1) _ _ _ _ (by omega) hcb hcb KE.refl q hq;rw [<- hnx] at i1 i2;have hle:=ZqD hc hD ha hk hoff hak hm hy' i1;have hp0:=(hc.typ (VV hc hk hm).2.1).2
     have hL0:0<=Lx x ys D s/\Lx x ys D s<=d'.price+Lx x ys D (nxS s d'):=by
      rcases hle with h | h
      ·-- the least price would be lacking: not so, azs the column leads on
       exfalso
       have hcv:s.cov.toNat.testBit k=false:=by rw [ha.cov k hk];exact decide_eq_false (by omega)
       have:=Zbw hc (D:=D) ha.v;omega
      ·exact h
     refine ⟨hL0.1,by omega,fun hqc=> ?_⟩
     have hpe:d'.price=(nth l j).price:=by omega
     have hLe:d'.price+Lx x ys D (nxS s d')=Lx x ys D s:=by omega
     have hsel:Zb3 x ys D s d'=true:=by simp only [Zb3,hy',decide_eq_true i1,decide_eq_true hLe,Bool.true_and]
     have hpos:=Zht (hc.ch.bst d' hd')
     have hpj:ZcE l d'<=j:=by
      rcases hpos.2.2 j hj hkd'.symm with h | h
      ·omega
      ·exact h.2
     cases hf:(Yc ys k).find? (Zb3 x ys D s) with
     | none=>rw [List.find?_eq_none] at hf;exact absurd hsel (hf d' hm)
     | some c =>
      obtain ⟨k1,k2,k3,k4,k5⟩:=hpick c hf;simp only
      by_cases hcd:c=d'
      ·subst hcd;obtain ⟨p1,p2,p3⟩:=VC hc ha hk hm hy';have hca:=ha.child hc hk p1 p3;rw [p2] at hca;rw [<- hnx] at hcb;refine (Jb hc hD d (k+1) _ _ _ _ (by omega) hca hcb (fun t ht=> ?_) q hq).2.2 (by omega);rw [hst.1,ZT (by rw [ha.len];exact ht),ZT (by rw [hb.len];exact ht)]
       cases hbt:(nth l j).set.toNat.testBit t with
       | true =>
        rw [if_pos rfl,if_pos rfl,ZAt,p2];exact ⟨hkd',by omega⟩
       | false =>
        rw [if_neg (by simp),if_neg (by simp)];exact he t ht
      ·-- an earlier kind
       have hlt:cfK c d'<0:=by
        have hpw:(Yc ys k).Pairwise fun a b=>cfK a b<0:=hc.ch.asc.filter _;obtain ⟨_,u,w,hab,hno⟩:=List.find?_eq_some_iff_append.1 hf;rw [hab] at hpw hm;rw [List.pairwise_append,List.pairwise_cons] at hpw;rcases List.mem_append.1 hm with h | h
        ·have:=hno d' h;rw [hsel] at this;simp at this
        ·rcases List.mem_cons.1 h with h | h
         ·exact absurd h.symm hcd
         ·exact hpw.2.1.1 d' h
       rw [U2] at hlt;refine .inl ⟨k,hk,fun t ht=> ?_,?_⟩
       ·rw [k3 t ht,hqt t ht];exact (he t (by omega)).1
       ·rw [k4,hqk,ZaP (by omega),ZaP (by omega),Int.toNat_natCast,Int.toNat_natCast,k5]
        right
        refine ⟨rfl,?_⟩;simp only [<- hst.1,<- hst.2];exact hlt
    ·simp at hq
   ·split at hq
    ·rename_i hpen;obtain ⟨s1,s2⟩:=hc.sk k hk hoff;have hs0:=s1.1 hpen;have hse:=s2 hs0;rw [<- hse] at hq;have hqo:=(QW d _ _ (by omega) hb.len q hq).2;obtain ⟨i1,i2,i3⟩:=Jb hc hD d (k+1) (skS s) a b _ (by omega) (ha.skip' hk) (hb.skip' hk) he q hq;have hle:=Zne hc hD ha hk hoff hak hs0 i1;have hrg:=Zbw hc (D:=D) ha.v
     have hL0:0<=Lx x ys D s/\Lx x ys D s<=skpF x k+Lx x ys D (skS s):=by
      rcases hle with h | h
      ·omega
      ·exact h
     refine ⟨hL0.1,by omega,fun hqc=> ?_⟩
     cases hf:(Yc ys k).find? (Zb3 x ys D s) with
     | none=>exact i3 (by omega)
     | some c =>
      obtain ⟨k1,k2,k3,k4,k5⟩:=hpick c hf;simp only;refine .inl ⟨k,hk,fun t ht=> ?_,?_⟩
      ·rw [k3 t ht,hqo t (by omega) (.inl (by omega))];exact (he t (by omega)).1
      ·rw [k4,hqo k hk (.inl (by omega)),ZaP (by omega),Zsj hbk]
       left;exact (by decide:(0:Int)<1)
    ·simp at hq
theorem ZjO {x:Inst} {S:Nat} (hn:x.orders.length<=4) (hS:S<9223372036854775808):Zqj S (Xt x x.orders.length)=(decide (S<2^x.orders.length)&&(List.range x.orders.length).all fun i=> !(S.testBit i&&(nth x.orders i).off)):=by
 rw [Bool.eq_iff_iff,Bool.and_eq_true,decide_eq_true_eq,Zqj,List.all_eq_true,List.all_eq_true]
 constructor
 ·intro h
  have key: ∀i,S.testBit i=true->i<x.orders.length/\(nth x.orders i).off=false:=fun i hi=>by
   have h63:i<63:=by
    rcases Nat.lt_or_ge i 63 with h | h
    ·exact h
    ·have:2^63<=2^i:=Nat.pow_le_pow_right (by omega) h;rw [Nat.testBit_lt_two_pow (by omega)] at hi;cases hi
   have:=h i (List.mem_range.2 h63);rw [hi,Y5] at this;simpa using this
  refine ⟨Nat.lt_pow_two_of_testBit _ fun i hi=> ?_,fun i _=> ?_⟩
  ·cases hb:S.testBit i with
   | false=>rfl
   | true=>have:=(key i hb).1;omega
  ·cases hb:S.testBit i with
   | false=>rfl
   | true=>rw [(key i hb).2];rfl
 ·rintro ⟨h1,h2⟩ i _
  cases hb:S.testBit i with
  | false=>rfl
  | true =>
   have hi:i<x.orders.length:=by
    rcases Nat.lt_or_ge i x.orders.length with h | h
    ·exact h
    ·have:2^x.orders.length<=2^i:=Nat.pow_le_pow_right (by omega) h;rw [Nat.testBit_lt_two_pow (by omega)] at hb;cases hb
   have:=h2 i (List.mem_range.2 hi);rw [hb] at this;rw [Y5];simp only [Bool.true_and,Bool.not_eq_true'] at this;simp [hi,this]
theorem ZgA (x:Inst) (c:Col) (hn:x.orders.length<=4) (ht:x.types.length<=1048576) (hs:c.set<9223372036854775808):PC 97 [.p (Zt x),.p (Xa c)] (.bool (rightB x c)):=by
 obtain ⟨B,hB⟩: ∃B,B=rightB x c:=⟨_,rfl⟩;rw [<- hB]
 have h54:((pw 54:Nat):Int)=18014398509481984:=by decide
 refine Za Tryz.func97 rfl ZAP ?_;simp (disch:=omega) only [Tryz.f97,go_sem,seval];refine Zg mixed (by kernel_rfl) (by kernel_rfl) ?_;simp (disch:=omega) only [go_sem,seval];refine gF ?_ ?_<;>intro h1<;>simp (disch:=omega) only [Sh.out h1,go_sem,seval]
 ·have e:B=false:=by rw [hB,rightB,decide_eq_false (by omega)];rfl
  rw [e]
 ·refine gF ?_ ?_<;>intro h2<;>simp (disch:=omega) only [Sh.out h2,go_sem,seval]
  ·have e:B=false:=by rw [hB,rightB,decide_eq_true (by omega),decide_eq_false (by omega)];rfl
   rw [e]
  ·refine gF ?_ ?_<;>intro h3<;>simp (disch:=omega) only [Sh.out h3,go_sem,seval]
   ·have e:B=false:=by rw [hB,rightB,decide_eq_true (by omega),decide_eq_true (by omega),decide_eq_false (by omega)];rfl
    rw [e]
   ·obtain ⟨S,hS⟩: ∃S:Nat,c.set=S:=⟨c.set.toNat,by omega⟩
    have e0:B=(decide (S<2^x.orders.length)&&((List.range x.orders.length).all fun i=> !(S.testBit i&&(nth x.orders i).off))&&(decide (0<=c.price)&&decide (c.price<=18014398509481984))):=by
     rw [hB,rightB,decide_eq_true (by omega),decide_eq_true (by omega),decide_eq_true (by omega),hS,Int.toNat_natCast,ZjO hn (by omega)];rfl
    rw [hS];refine Zj (Zdh x.orders.length (by omega)) ?_;simp (disch:=omega) only [go_sem,seval];have hpw:pw x.orders.length=2^x.orders.length:=rfl;refine gF ?_ ?_<;>intro h4<;>simp (disch:=omega) only [Sh.out h4,go_sem,seval]
    ·have e:B=false:=by rw [e0,decide_eq_false (by omega)];rfl
     rw [e]
    ·refine gF ?_ ?_<;>intro h5<;>simp (disch:=omega) only [Sh.out h5,go_sem,seval]
     ·have e:B=false:=by rw [e0,decide_eq_false (show ¬ 0<=c.price by omega)];simp
      rw [e]
     ·refine Zj (Zdh 54 (by omega)) ?_;simp (disch:=omega) only [go_sem,seval];rw [h54];refine cD ?_ ?_<;>intro h6<;>simp (disch:=omega) only [Sh.out h6,go_sem,seval]
      ·have e:B=false:=by rw [e0,decide_eq_false (show ¬c.price<=18014398509481984 by omega)];simp
       rw [e]
      ·have e1:B=((List.range x.orders.length).all fun i=> !(S.testBit i&&(nth x.orders i).off)):=by rw [e0,decide_eq_true (by omega),decide_eq_true (by omega),decide_eq_true (by omega)];simp
       refine Zf [2,3] (fun k:Nat=> [(5,.p (.int .i64 k))]) (fun _=> [Zc x,ZhQ c]) (fun k=>k<=x.orders.length/\ ∀j,j<k->(!(S.testBit j&&(nth x.orders j).off))=true) (fun k=>x.orders.length-k) 0 ⟨by simp,fun j hj=>by omega⟩ (Weak.mk ?_) ?_
       ·simp (disch:=omega) only [Zc,ZhQ,hS,go_sem,seval]
       ·rintro k ⟨hk,hno⟩;simp (disch:=omega) only [Zc,ZhQ,hS,go_sem,seval];refine cD ?_ ?_<;>intro h7<;>simp (disch:=omega) only [Sh.out h7,go_sem,seval]
        ·have hk2:k<x.orders.length:=by omega
         refine (ZcQ S k (by omega) (by omega)).use ?_;simp (disch:=omega) only [go_sem,seval];refine gT ?_ ?_<;>intro h8<;>simp (disch:=omega) only [Sh.out h8,go_sem,seval]
         ·refine cD ?_ ?_<;>intro h9<;>simp (disch:=omega) only [Sh.out h9,go_sem,seval]
          ·have e:B=false:=by
            rw [e1,List.all_eq_false];exact ⟨k,List.mem_range.2 hk2,by rw [h8,h9];simp⟩
           rw [e]
          ·exact ⟨k+1,⟨by omega,Xy hno (by rw [h8,h9];rfl)⟩,by omega,Weak.mk (by simp (disch:=omega) only [Zc,ZhQ,hS,go_sem,seval])⟩
         ·exact ⟨k+1,⟨by omega,Xy hno (by rw [h8];rfl)⟩,by omega,Weak.mk (by simp (disch:=omega) only [Zc,ZhQ,hS,go_sem,seval])⟩
        ·have e:B=true:=by
          rw [e1,List.all_eq_true];exact fun i hi=>hno i (by have:=List.mem_range.1 hi;omega)
         rw [e]
def zCh : Chc:=⟨false,[],0⟩
def Zp4 (b:Chc):PV:= .agg [.bool b.found,.list (!b.found) (b.places.map eI),.int .i64 b.price]
@[go_sem] theorem ZA9 (b:Chc):Zp4 b= .agg [.bool b.found,.list (!b.found) (b.places.map eI),.int .i64 b.price]:=Eq.trans rfl rfl
def chO (b:Chc):AM.Obj:= .cells [.p (.bool b.found),.p (.list (!b.found) (b.places.map eI)),.p (.int .i64 b.price)]
def Zlq (x:Inst) (l:List Col):Chc:=(lvs x l x.orders.length (List.replicate x.orders.length (-1)) 0).foldl (UN l) zCh
def ZBe (x:Inst) (l:List Col) (b:Chc) (e:Int):Prop:=(8192<l.length/\b=zCh/\e=4)\/(l.length<=8192/\(∃c∈l,rightB x c=false)/\b=zCh/\e=2) \/
 (l.length<=8192/\(∀c∈l,rightB x c=true)/\(((Zlq x l).found=false/\b=zCh/\e=24)\/((Zlq x l).found=true/\b=Zlq x l/\e=0)))
theorem ZcS {n i:Nat} (h:i<n):nth (List.replicate n (-1:Int)) i= -1:=by
 rw [Ze (by simpa using h)];simp
theorem ZhA {x:Inst} {l:List Col} :RngA x l (List.replicate x.orders.length (-1)):=⟨by simp,fun i hi=>by rw [ZcS hi];omega⟩
theorem Zen {x:Inst} {l:List Col} (h4:x.orders.length<=4) (h6:x.types.length<=6) (hl:l.length<=1048576) (hs: ∀c∈l,c.set<9223372036854775808) (hr: ∀c∈l,rightB x c=true)
  (hsk: ∀k,k<x.orders.length->(nth x.orders k).off=false->0<=(nth x.orders k).penalty->0<=skR x k/\skR x k<=18014398509481984) (hus: ∀i,scoR 1152921504606846976 (unsF x i).1):ColsR x l :=
 ⟨h4,h6,hl,fun c hc=>by
  obtain ⟨S,q1,q2,q3,_⟩:=Y6 (hr c hc) (hs c hc);have h:=hr c hc;simp only [rightB,Bool.and_eq_true,decide_eq_true_eq] at h
  exact ⟨⟨h.1,h.2.1⟩,h.2.2.2.2,S,q1,Nat.lt_of_lt_of_le q3 (Nat.pow_le_pow_right (n:=2) (by omega) h4)⟩,hsk,hus⟩
theorem Zfu (x:Inst) (l:List Col) (lc:Bool) (h4:x.orders.length<=4) (h6:x.types.length<=6) (hl:l.length<=1048576) (hs: ∀c∈l,c.set<9223372036854775808)
  (hsk: ∀k,k<x.orders.length->(nth x.orders k).off=false->0<=(nth x.orders k).penalty->0<=skR x k/\skR x k<=18014398509481984) (hus: ∀i,scoR 1152921504606846976 (unsF x i).1) :
  ACalls Tryz.prog 58 [.p (Zt x),.p (.list lc (l.map Xa))] [] fun y H'=> ∃b e,ZBe x l b e/\y= .tup [.p (Zp4 b),.p (.int .i64 e)]/\H'= []:=by
 refine Zb [14] Tryz.func58 rfl ZAb ?_;simp (disch:=omega) only [Tryz.f58,go_sem,seval];refine cD ?_ ?_<;>intro h1<;>simp (disch:=omega) only [Sh.out h1,go_sem,seval]
 ·exact ⟨.tup [.p (Zp4 zCh),.p (.int .i64 4)],[],Weak.mk (by simp (disch:=omega) only [zCh,Bool.not_false,List.map_nil,go_sem,seval]),_,_,.inl ⟨by omega,rfl,rfl⟩,rfl,rfl⟩
 ·refine Zf [1,2,4] (fun k:Nat=> [(6,.p (.int .i64 k))]) (fun _=> [Zc x,chO zCh]) (fun k=>k<=l.length/\ ∀j,j<k->rightB x (nth l j)=true) (fun k=>l.length-k) 0 ⟨by simp,fun j hj=>by omega⟩ (Weak.mk ?_) ?_
  ·simp (disch:=omega) only [Zc,chO,zCh,Bool.not_false,List.map_nil,go_sem,seval]
  ·rintro k ⟨hk,hno⟩;simp (disch:=omega) only [Zc,chO,zCh,Bool.not_false,List.map_nil,go_sem,seval];refine cD ?_ ?_<;>intro h2<;>simp (disch:=omega) only [Sh.out h2,go_sem,seval]
   ·have hk2:k<l.length:=by omega
    refine Zg mixed (by kernel_rfl) (by kernel_rfl) ?_;simp (disch:=omega) only [go_sem,seval];refine Zj (ZgA x (nth l k) h4 (by omega) (hs _ (Zv hk2))) ?_;simp (disch:=omega) only [go_sem,seval]
    cases hr:rightB x (nth l k) with
    | false =>
     simp (disch:=omega) only [hr,Bool.not_false,go_sem,seval];exact ⟨.tup [.p (Zp4 zCh),.p (.int .i64 2)],[],Weak.mk (by simp (disch:=omega) only [zCh,Bool.not_false,List.map_nil,go_sem,seval]),_,_,.inr (.inl ⟨by omega,⟨_,Zv hk2,hr⟩,rfl,rfl⟩),rfl,rfl⟩
    | true =>
     simp (disch:=omega) only [hr,Bool.not_true,go_sem,seval];exact ⟨k+1,⟨by omega,Xy hno hr⟩,by omega,Weak.mk (by simp (disch:=omega) only [Zc,chO,zCh,Bool.not_false,List.map_nil,go_sem,seval])⟩
   ·have hr: ∀c∈l,rightB x c=true:=fun c hc=>by
     obtain ⟨j,hj,rfl⟩:=List.mem_iff_getElem.1 hc;rw [<- Ze hj];exact hno j (by omega)
    have hC:=Zen h4 h6 hl hs hr hsk hus;clear hno hk h2;refine ZE [14] [2,4,7] (fun k:Nat=> [(8,.sl 3 0 k k),(9,.p (.int .i64 k))]) (fun k=> [Zc x,chO zCh,srO x lc l zCh,.elems 1 ((List.replicate k (-1:Int)).map eI)]) (fun k=>k<=x.orders.length) (fun k=>x.orders.length-k) 0 (by simp) (Weak.ofNil 8 1 (by simp (disch:=omega) only [go_sem,seval]) (by simp) (Weak.mk ?_)) ?_
    ·simp (disch:=omega) only [Zc,chO,srO,zCh,Bool.not_false,List.map_nil,List.replicate_zero,List.length_nil,go_sem,seval]
    ·intro k hk;simp (disch:=omega) only [Zc,chO,srO,zCh,Bool.not_false,List.map_nil,go_sem,seval];refine cD ?_ ?_<;>intro h2<;>simp (disch:=omega) only [Sh.out h2,go_sem,seval]
     ·have hk2:k<x.orders.length:=by omega
      have hrp:(List.replicate k (-1:Int))++ [-1]=List.replicate (k+1) (-1):=by rw [List.replicate_succ']
      simp (disch:=omega) only [List.length_map,List.length_replicate,go_sem,seval];rw [if_pos ⟨by omega,by omega⟩];simp (disch:=omega) only [go_sem,seval];exact ⟨k+1,by omega,by omega,Weak.mk (by simp (disch:=omega) only [<- hrp,List.map_append,List.map_cons,List.map_nil,Zc,chO,srO,zCh,Bool.not_false,go_sem,seval])⟩
     ·have hkn:k=x.orders.length:=by omega
      subst hkn;refine Zm (Weak.fz (o:=3) (by rfl)) ?_;refine Zd [] _ _ _ _ ?_;simp (disch:=omega) only [List.map_cons,List.map_nil,List.set_cons_succ,List.set_cons_zero,Zc,chO,srO,zCh,List.length_replicate,eq_self,if_true,go_sem,seval];have ht:=ZgU x lc l hC x.orders.length (List.replicate x.orders.length (-1)) 0 zCh (Nat.le_refl _) ZhA (by omega) (by omega) (fun h=>by cases h);rw [Nat.sub_self] at ht;obtain ⟨B,hB⟩: ∃B,B=Zlq x l:=⟨_,rfl⟩;rw [show (lvs x l x.orders.length (List.replicate x.orders.length (-1)) 0).foldl (UN l) zCh=B from hB.symm] at ht
      refine ACalls.mono (((ht.mono fun y H' hq=>(⟨hq,by rw [hq.2];rfl⟩:_/\H'.length= [srO x lc l zCh].length)).front (by rfl) (by rfl) [.dead]).back [Zc x,chO zCh] (by rfl)) ?_;rintro y H' ⟨y1,H1,⟨H2,⟨rfl,rfl⟩,rfl⟩,rfl,rfl⟩;obtain ⟨f,bp,bc⟩:=B
      cases f with
      | false =>
       simp (disch:=omega) only [shV,shVs,shO,srO,Zc,chO,zCh,List.map_cons,List.map_nil,List.cons_append,List.nil_append,Bool.not_false,go_sem,seval];exact ⟨.tup [.p (Zp4 zCh),.p (.int .i64 24)],[],Weak.mk (by simp (disch:=omega) only [zCh,Bool.not_false,List.map_nil,go_sem,seval]),_,_,.inr (.inr ⟨by omega,hr,.inl ⟨by rw [<- hB],rfl,rfl⟩⟩),rfl,rfl⟩
      | true =>
       simp (disch:=omega) only [shV,shVs,shO,srO,Zc,chO,zCh,List.map_cons,List.map_nil,List.cons_append,List.nil_append,Bool.not_true,go_sem,seval];exact ⟨.tup [.p (Zp4 ⟨true,bp,bc⟩),.p (.int .i64 0)],[],Weak.mk (by simp (disch:=omega) only [Bool.not_true,go_sem,seval]),_,_,.inr (.inr ⟨by omega,hr,.inr ⟨by rw [<- hB],hB,rfl⟩⟩),rfl,rfl⟩
theorem ZlR {l:List Col} {x y:Int} (hx: -1<=x) (hy: -1<=y) (h:ky l x=ky l y):(x<0->x=y)/\(y<0->x=y)/\(0<=x->0<=y/\(nth l x.toNat).typ=(nth l y.toNat).typ/\(nth l x.toNat).set=(nth l y.toNat).set):=by
 unfold ky at h
 split at h<;>split at h
 ·exact ⟨fun _=>by omega,fun _=>by omega,fun _=>by omega⟩
 ·simp at h
 ·simp at h
 ·simp only [Prod.mk.injEq,true_and] at h;exact ⟨fun _=>by omega,fun _=>by omega,fun _=>⟨by omega,h.1,h.2⟩⟩
theorem Jt {l:List Col} : ∀ {a b:List Int},a.length=b.length->(∀t,t<a.length-> -1<=nth a t/\ -1<=nth b t/\ky l (nth a t)=ky l (nth b t))->Zat l a b=none
 | [],[],_,_=>ZdP
 | [],_::_,h,_=>by simp at h
 | _::_,[],h,_=>by simp at h
 | x::a,y::b,hl,h=>by
  have ih:=Jt (l:=l) (a:=a) (b:=b) (by simpa using hl) fun t ht=>h (t+1) (by simpa using ht);obtain ⟨h1,h2,h3⟩:=h 0 (by simp);obtain ⟨k1,k2,k3⟩:=ZlR (show-1<=x from h1) (show-1<=y from h2) h3;rw [Zat]
  split
  ·exact ih
  ·rename_i hne;have hx:0<=x:=Int.not_lt.1 fun g=>hne (k1 g);obtain ⟨q1,q2,q3⟩:=k3 hx;rw [if_neg (by omega),if_neg (by rw [q2];simp),if_neg (by rw [q3];simp)];exact ih
theorem Zgj {l:List Col} : ∀ {a b:List Int} {i:Nat},a.length=b.length->i<a.length->(∀t,t<a.length-> -1<=nth a t/\ -1<=nth b t)->(∀t,t<i->ky l (nth a t)=ky l (nth b t))->Zup (ky l (nth a i)) (ky l (nth b i))->Zat l a b=some true/\Zat l b a=some false
 | [],_,_,_,h,_,_,_=>by simp at h
 | _::_,[],_,h,_,_,_,_=>by simp at h
 | x::a,y::b,0,_,_,hr,_,h=>by
  obtain ⟨h1,h2⟩:=hr 0 (by simp);have h':Zup (ky l x) (ky l y):=h
  have hne:x≠y:=fun e=>by subst e;unfold Zup at h';omega
  rw [Zat,Zat,if_neg hne,if_neg (Ne.symm hne)];unfold ky Zup at h'
  split at h'<;>split at h'
  ·simp at h'
  ·simp at h'
  ·rename_i hx hy;rw [if_pos (.inr hy),if_pos (.inl hy),decide_eq_true (by omega),decide_eq_false (by omega)];exact ⟨rfl,rfl⟩
  ·rename_i hx hy;simp only [true_and,Int.lt_irrefl,false_or] at h'
   by_cases ht:(nth l x.toNat).typ=(nth l y.toNat).typ
   ·have hs:(nth l x.toNat).set<(nth l y.toNat).set:=by omega
    exact ⟨by rw [if_neg (by omega),if_neg (by rw [ht];simp),if_pos (by omega),decide_eq_true hs],by rw [if_neg (by omega),if_neg (by rw [ht];simp),if_pos (by omega),decide_eq_false (by omega)]⟩
   ·have hs:(nth l x.toNat).typ<(nth l y.toNat).typ:=by omega
    exact ⟨by rw [if_neg (by omega),if_pos ht,decide_eq_true hs],by rw [if_neg (by omega),if_pos (Ne.symm ht),decide_eq_false (by omega)]⟩
 | x::a,y::b,i+1,hl,hi,hr,he,h=>by
  have ih:=Zgj (l:=l) (a:=a) (b:=b) (i:=i) (by simpa using hl) (by simpa using hi) (fun t ht=>hr (t+1) (by simpa using ht)) (fun t ht=>he (t+1) (by omega)) h;obtain ⟨h1,h2⟩:=hr 0 (by simp);have h3:ky l x=ky l y:=he 0 (by omega);obtain ⟨k1,k2,k3⟩:=ZlR (show-1<=x from h1) (show-1<=y from h2) h3;rw [Zat,Zat]
  by_cases hxy:x=y
  ·rw [if_pos hxy,if_pos hxy.symm];exact ih
  ·have hx:0<=x:=Int.not_lt.1 fun g=>hxy (k1 g);obtain ⟨q1,q2,q3⟩:=k3 hx;exact ⟨by rw [if_neg hxy,if_neg (by omega),if_neg (by rw [q2];simp),if_neg (by rw [q3];simp)];exact ih.1,by rw [if_neg (Ne.symm hxy),if_neg (by omega),if_neg (by rw [q2];simp),if_neg (by rw [q3];simp)];exact ih.2⟩
theorem Zia : ∀ {a b:List Int},a.length=b.length->(∀t,t<a.length->nth a t<=nth b t)->a=b\/(ZfU a b=true/\ZfU b a=false)
 | [],[],_,_=> .inl rfl
 | [],_::_,h,_=>by simp at h
 | _::_,[],h,_=>by simp at h
 | x::a,y::b,hl,h=>by
  have h0:x<=y:=h 0 (by simp);rw [ZfU,ZfU]
  by_cases hxy:x=y
  ·subst hxy;rw [if_pos rfl,if_pos rfl];rcases Zia (a:=a) (b:=b) (by simpa using hl) (fun t ht=>h (t+1) (by simpa using ht)) with e | e
   ·exact .inl (by rw [e])
   ·exact .inr e
  ·rw [if_neg hxy,if_neg (Ne.symm hxy),decide_eq_true (by omega),decide_eq_false (by omega)];exact .inr ⟨rfl,rfl⟩
theorem Zsy {x:Inst} {l:List Col} {a b:List Int} (ha:RngA x l a) (hb:RngA x l b) (h:KL x.orders.length l a b):a=b\/(ZfP l a b=true/\ZfP l b a=false):=by
 have hl:a.length=b.length:=by rw [ha.1,hb.1]
 have hr: ∀t,t<a.length-> -1<=nth a t/\ -1<=nth b t:=fun t ht=>⟨(ha.2 t (by rw [<- ha.1];exact ht)).1,(hb.2 t (by rw [<- ha.1];exact ht)).1⟩;rcases h with ⟨i,hi,he,hlt⟩ | h
 ·obtain ⟨h1,h2⟩:=Zgj hl (by rw [ha.1];exact hi) hr he hlt;exact .inr ⟨Wa h1,Wa h2⟩
 ·have h1:=Jt (l:=l) hl fun t ht=>⟨(hr t ht).1,(hr t ht).2,(h t (by rw [<- ha.1];exact ht)).1⟩;have h2:=Jt (l:=l) hl.symm fun t ht=>⟨(hr t (by rw [hl];exact ht)).2,(hr t (by rw [hl];exact ht)).1,((h t (by rw [<- hb.1];exact ht)).1).symm⟩;rcases Zia hl fun t ht=>(h t (by rw [<- ha.1];exact ht)).2 with e | ⟨e1,e2⟩
  ·exact .inl e
  ·exact .inr ⟨by rw [JB h1];exact e1,by rw [JB h2];exact e2⟩
def Prf (l:List Col) (P:List Int) (W:Int) (q:List Int×Int):Prop:=W<=q.2/\(q.2=W->P=q.1\/(ZfP l P q.1=true/\ZfP l q.1 P=false))
theorem Zd6 {l:List Col} {P:List Int} {W:Int} : ∀ {L:List (List Int×Int)},(∀q∈L,Prf l P W q)->L.foldl (UN l) ⟨true,P,W⟩=⟨true,P,W⟩
 | [],_=>rfl
 | q::L,h=>by
  have e:UN l ⟨true,P,W⟩ q=⟨true,P,W⟩:=by
   obtain ⟨h1,h2⟩:=h q (by simp);unfold UN
   split
   ·rename_i hc;rcases hc with hc | hc | ⟨hc,hd⟩
    ·cases hc
    ·simp only at hc;omega
    ·simp only at hc hd;rcases h2 hc with e | ⟨_,e⟩
     ·rw [<- e,hc]
     ·rw [e] at hd;cases hd
   ·rfl
  rw [List.foldl_cons,e];exact Zd6 fun q hq=>h q (List.mem_cons_of_mem _ hq)
theorem Zbv {l:List Col} {P:List Int} {W:Int} : ∀ {L:List (List Int×Int)} {b:Chc},(b.found=false\/Prf l P W (b.places,b.price))->(∀q∈L,Prf l P W q)->(P,W)∈L->L.foldl (UN l) b=⟨true,P,W⟩
 | [],_,_,_,hm=>by simp at hm
 | q::L,b,hb,h,hm=>by
  rw [List.foldl_cons];have hq:=h q (by simp);have hL: ∀q∈L,Prf l P W q:=fun q hq=>h q (List.mem_cons_of_mem _ hq)
  by_cases e:q=(P,W)
  ·have:UN l b q=⟨true,P,W⟩:=by
    subst e;unfold UN
    split
    ·rfl
    ·rename_i hc;rcases hb with hb | ⟨h1,h2⟩
     ·exact absurd (.inl hb) hc
     ·simp only at h1 h2 hc
      have h3:b.price=W:=by
       have: ¬W<b.price:=fun g=>hc (.inr (.inl g));omega
      rcases h2 h3 with e | ⟨e,_⟩
      ·obtain ⟨f,bp,bc⟩:=b;simp only at e h3;subst e;subst h3
       cases f
       ·exact absurd (.inl rfl) hc
       ·rfl
      ·exact absurd (.inr (.inr ⟨h3.symm,e⟩)) hc
   rw [this];exact Zd6 hL
  ·refine Zbv ?_ hL (by
    rcases List.mem_cons.1 hm with h | h
    ·exact absurd h.symm e
    ·exact h)
   unfold UN
   split
   ·exact .inr hq
   ·exact hb
theorem Zlu {x:Inst} {l ys:List Col} (hc:Ctx x l ys) {D:Nat} (hD:10<D): ∀(d k:Nat) (s:St) (a:List Int) (p:Int),k+d=x.orders.length->Nd x l a s k->0<=Lx x ys D s->(gr x l ys D d k s a,p+Lx x ys D s)∈lvs x l d a p
 | 0,k,s,a,p,hd,ha,h0=>by
  rw [ZmK (by rw [ha.ix];omega),Int.add_zero,gr,lvs];simp
 | d+1,k,s,a,p,hd,ha,h0=>by
  have hk:k<x.orders.length:=by omega
  have hkd:x.orders.length-(d+1)=k:=by omega
  rw [lvs,hkd,gr]
  split
  ·rename_i ho;rw [ZiB hc ha hk ho] at h0 ⊢;exact Zlu hc hD d (k+1) _ a p (by omega) (ha.skip' hk) h0
  ·rename_i ho
   have hoff:(nth x.orders k).off=false:=by
    cases e:(nth x.orders k).off with
    | false=>rfl
    | true=>exact absurd (.inl e) ho
   have hak:nth a k<0:=Int.not_le.1 fun g=>ho (.inr g)
   have hcv:s.cov.toNat.testBit k=false:=by rw [ha.cov k hk];exact decide_eq_false (by omega)
   rw [List.mem_append,List.mem_flatMap]
   cases hf:(Yc ys k).find? (Zb3 x ys D s) with
   | some c =>
    left
    have hsel:=List.find?_some hf;simp only [Zb3,Bool.and_eq_true,decide_eq_true_eq] at hsel;obtain ⟨p1,p2,p3⟩:=VC hc ha hk (List.mem_of_find?_eq_some hf) hsel.1;have hch:=ha.child hc hk p1 p3;rw [p2] at hch;refine ⟨ZcE l c,List.mem_range.2 p1,?_⟩;rw [if_pos p3,p2];have:=Zlu hc hD d (k+1) _ _ (p+c.price) (by omega) hch hsel.2.1;rw [show p+c.price+Lx x ys D (nxS s c)=p+Lx x ys D s by omega] at this;exact this
   | none =>
    right
    rw [List.find?_eq_none] at hf;have hdec:=Zh4 hc hD ha.v ha.ix hk hoff hcv;have hno: ∀c∈Yc ys k,YB x s c=true->0<=Lx x ys D (nxS s c)->c.price+Lx x ys D (nxS s c)≠Lx x ys D s:=fun c hm hy hL e=>hf c hm (by simp only [Zb3,hy,decide_eq_true hL,decide_eq_true e,Bool.and_self]);obtain ⟨s1,s2⟩:=hc.sk k hk hoff;have hfold:=ZbJ (x:=x) (s:=s) (r:=fun c=>Lx x ys D (nxS s c)) (l:=Yc ys k) (a:= -1)
    by_cases hs:0<=skpF x k
    ·rw [if_pos (s1.2 hs),<- s2 hs];rw [if_pos hs] at hdec;unfold Wb at hdec
     split at hdec
     ·rename_i hb;have:=Zlu hc hD d (k+1) _ a (p+skpF x k) (by omega) (ha.skip' hk) hb.1;rw [show p+skpF x k+Lx x ys D (skS s)=p+Lx x ys D s by omega] at this;exact this
     ·exfalso;rcases hfold with e | ⟨c,h1,h2,h3,h4⟩
      ·unfold Wb at e;omega
      ·exact hno c h1 h2 h3 (by rw [hdec];exact h4.symm)
    ·exfalso;rw [if_neg hs] at hdec;rcases hfold with e | ⟨c,h1,h2,h3,h4⟩
     ·omega
     ·exact hno c h1 h2 h3 (by rw [hdec];exact h4.symm)
def rtI (l:List Col) (g:List Int) (T:Nat):Nat->List Col
 | 0=> []
 | i+1=>rtI l g T i++(if 0<=nth g i/\(nth l (nth g i).toNat).typ=T/\(nth l (nth g i).toNat).set%(pw i:Nat)=0 then [nth l (nth g i).toNat] else [])
def rtK (l:List Col) (g:List Int) (n:Nat):Nat->List Col
 | 0=> []
 | T+1=>rtK l g n T++rtI l g T n
def unI (x:Inst) (g:List Int):Nat->List Int
 | 0=> []
 | i+1=>unI x g i++(if nth g i<0/\(nth x.orders i).off=false then [(i:Int)] else [])
theorem Zdj {l:List Col} {g:List Int} {T:Nat} : ∀k,(rtI l g T k).length<=k
 | 0=>Nat.le_refl _
 | k+1=>by
  have:=Zdj (l:=l) (g:=g) (T:=T) k;rw [rtI,List.length_append];split<;>simp<;>omega
theorem ZcD {l:List Col} {g:List Int} {n:Nat} : ∀T,(rtK l g n T).length<=T*n
 | 0=>by simp [rtK]
 | T+1=>by
  have:=ZcD (l:=l) (g:=g) (n:=n) T;have:=Zdj (l:=l) (g:=g) (T:=T) n;rw [rtK,List.length_append,Nat.add_mul];omega
theorem ZcY {x:Inst} {g:List Int} : ∀k,(unI x g k).length<=k
 | 0=>Nat.le_refl _
 | k+1=>by
  have:=ZcY (x:=x) (g:=g) k;rw [unI,List.length_append];split<;>simp<;>omega
def ZBf (x:Inst) (l:List Col) (p:Pln) (c e:Int):Prop:= ∃b,ZBe x l b e/\(e≠0->p=zPlC/\c=0)/\(e=0->c=b.price/\p=⟨false,(rtK l b.places b.places.length x.types.length).map (·.route),false,unI x b.places b.places.length⟩)
def rwO (v w:V):AM.Obj:= .cells [v,w]
theorem ZcW (x:Inst) (l:List Col) (lc:Bool) (h4:x.orders.length<=4) (h6:x.types.length<=6) (hl:l.length<=1048576) (hs: ∀c∈l,c.set<9223372036854775808)
  (hsk: ∀k,k<x.orders.length->(nth x.orders k).off=false->0<=(nth x.orders k).penalty->0<=skR x k/\skR x k<=18014398509481984) (hus: ∀i,scoR 1152921504606846976 (unsF x i).1) :
  ACalls Tryz.prog 21 [.p (Zt x),.p (.list lc (l.map Xa))] [] fun y H'=> ∃p c e,ZBf x l p c e/\y= .tup [.p (JG p),.p (.int .i64 c),.p (.int .i64 e)]/\H'= []:=by
 refine Zb [18] Tryz.func21 rfl ZB6 ?_;simp (disch:=omega) only [Tryz.f21,go_sem,seval];refine ((Zfu x l lc h4 h6 hl hs hsk hus).behind (by rfl) _).mono ?_;rintro y H' ⟨y1,H1,⟨b,e,hb,rfl,rfl⟩,rfl,rfl⟩;simp (disch:=omega) only [shV,shVs,List.map_nil,go_sem,seval];refine cD ?_ ?_<;>intro h1<;>simp (disch:=omega) only [Sh.out h1,go_sem,seval]
 ·exact ⟨.tup [.p (JG zPlC),.p (.int .i64 0),.p (.int .i64 e)],[],Weak.mk (by simp (disch:=omega) only [zPlC,List.map_nil,go_sem,seval]),_,_,_,⟨b,hb,fun _=>⟨rfl,rfl⟩,fun h=>absurd h h1⟩,rfl,rfl⟩
 ·have he:e=0:=by omega
  subst he;have hcv:=hb;rcases hb with ⟨_,_,h⟩ | ⟨_,_,_,h⟩ | ⟨hl2,hr,⟨_,_,h⟩ | ⟨hf,rfl,_⟩⟩
  ·cases h
  ·cases h
  ·cases h
  ·have hC:=Zen h4 h6 hl hs hr hsk hus;have hrg:RngA x l (Zlq x l).places:=(ZcJ (x:=x) (l:=l) (b:=zCh) (fun h=>by cases h) (Uk x.orders.length ZhA)) hf;obtain ⟨⟨f,g,c⟩,hB⟩: ∃B,B=Zlq x l:=⟨_,rfl⟩;rw [<- hB] at hcv hf hrg ⊢;simp only at hf hrg;subst hf;have hgl:g.length=x.orders.length:=hrg.1;refine Zf [1,2,4,7,9] (fun T:Nat=> [(10,.p (.int .i64 T))]) (fun T=> [Zc x,rwO (.p (.list true [])) (.p (.list true [])),chO ⟨true,g,c⟩,rwO (.sl 4 0 (rtK l g g.length T).length (rtK l g g.length T).length) (.p (.list true [])),.elems 4 ((rtK l g g.length T).map fun c=>Wr c.route)]) (fun T=>T<=x.types.length) (fun T=>x.types.length-T) 0 (by simp) ((Weak.nilC (o:=3) (j:=0) 4 (by rfl) (by rfl) (by simp)).trans (Weak.mk ?_)) ?_
   ·simp (disch:=omega) only [Zc,rwO,chO,Bool.not_true,rtK,List.map_nil,List.length_nil,List.set_cons_succ,List.set_cons_zero,go_sem,seval]
   ·intro T hT;obtain ⟨R,hR⟩: ∃R,R=rtK l g g.length T:=⟨_,rfl⟩;have hRl:=ZcD (l:=l) (g:=g) (n:=g.length) T;rw [<- hR] at hRl ⊢
    have hRs:rtK l g g.length (T+1)=R++rtI l g T g.length:=by rw [hR];rfl
    have hTn:T*g.length<=6*4:=Nat.mul_le_mul (by omega) (by omega);simp (disch:=omega) only [Zc,rwO,chO,Bool.not_true,go_sem,seval];refine cD ?_ ?_<;>intro h2<;>simp (disch:=omega) only [Sh.out h2,go_sem,seval]
    ·obtain ⟨W,hW⟩: ∃W:Nat->List Col,W=fun i=>R++rtI l g T i:=⟨_,rfl⟩
     have hW0:W 0=R:=by rw [hW];simp [rtI]
     have hWn:rtK l g g.length (T+1)=W g.length:=by rw [hRs,hW]
     have hWl: ∀i,(W i).length<=R.length+i:=fun i=>by
      have:=Zdj (l:=l) (g:=g) (T:=T) i;rw [hW];simp only [List.length_append];omega
     have hWs: ∀i,W (i+1)=W i++(if 0<=nth g i/\(nth l (nth g i).toNat).typ=T/\(nth l (nth g i).toNat).set%(pw i:Nat)=0 then [nth l (nth g i).toNat] else []):=fun i=>by rw [hW];simp only [rtI,List.append_assoc]
     clear hW hRs;refine Zf [1,2,4,7,9,10] (fun i:Nat=> [(11,.p (.int .i64 i))]) (fun i=> [Zc x,rwO (.p (.list true [])) (.p (.list true [])),chO ⟨true,g,c⟩,rwO (.sl 4 0 (W i).length (W i).length) (.p (.list true [])),.elems 4 ((W i).map fun c=>Wr c.route)]) (fun i=>i<=g.length) (fun i=>g.length-i) 0 (by simp) (Weak.mk ?_) ?_
     ·simp (disch:=omega) only [Zc,rwO,chO,Bool.not_true,hW0,go_sem,seval]
     ·intro i hi
      have hQl:(W i).length<=28:=by have:=hWl i;omega
      have hQs:=hWs i;simp (disch:=omega) only [Zc,rwO,chO,Bool.not_true,go_sem,seval];refine cD ?_ ?_<;>intro h3<;>simp (disch:=omega) only [Sh.out h3,go_sem,seval]
      ·have hi2:i<g.length:=by omega
       have hri:=hrg.2 i (by omega);refine Zg mixed (by kernel_rfl) (by kernel_rfl) ?_;simp (disch:=omega) only [go_sem,seval];refine gT ?_ ?_<;>intro h5<;>simp (disch:=omega) only [Sh.out h5,go_sem,seval]
       ·have hj:(nth g i).toNat<l.length:=by omega
        obtain ⟨⟨t0,t1⟩,⟨c0,c1⟩,S,hS,hS2⟩:=hC.col _ (Zv hj);refine gT ?_ ?_<;>intro h7<;>simp (disch:=omega) only [Sh.out h7,go_sem,seval]
        ·have hpp:0<pw i/\pw i<=pw 4:=⟨Kh i,U5 (by omega)⟩;refine Zj (Zdh i (by omega)) ?_;simp (disch:=omega) only [go_sem,seval];rw [hS];refine cD ?_ ?_<;>intro h8<;>simp (disch:=omega) only [Sh.out h8,go_sem,seval]
         ·rw [if_pos ⟨h5,h7,by rw [hS];exact h8⟩] at hQs;refine Zn 12 mixed (by kernel_rfl) (by kernel_rfl) ?_;simp (disch:=omega) only [go_sem,seval];exact ⟨i+1,by omega,by omega,Weak.mk (by simp (disch:=omega) only [hQs,List.map_append,List.map_cons,List.map_nil,List.length_append,List.length_cons,List.length_nil,Nat.zero_add,List.set_cons_succ,List.set_cons_zero,Zc,rwO,chO,Bool.not_true,go_sem,seval])⟩
         ·rw [if_neg (fun h=>h8 (by rw [<- hS];exact h.2.2)),List.append_nil] at hQs;exact ⟨i+1,by omega,by omega,Weak.mk (by simp (disch:=omega) only [hQs,Zc,rwO,chO,Bool.not_true,go_sem,seval])⟩
        ·rw [if_neg (fun h=>h7 h.2.1),List.append_nil] at hQs;exact ⟨i+1,by omega,by omega,Weak.mk (by simp (disch:=omega) only [hQs,Zc,rwO,chO,Bool.not_true,go_sem,seval])⟩
       ·rw [if_neg (fun h=>h5 h.1),List.append_nil] at hQs;exact ⟨i+1,by omega,by omega,Weak.mk (by simp (disch:=omega) only [hQs,Zc,rwO,chO,Bool.not_true,go_sem,seval])⟩
      ·have hig:i=g.length:=by omega
       subst hig;exact ⟨T+1,by omega,by omega,Weak.mk (by simp (disch:=omega) only [hWn,Zc,rwO,chO,Bool.not_true,go_sem,seval])⟩
    ·have hTt:T=x.types.length:=by omega
     subst hTt;refine ZE [18] [2,4,7,9] (fun i:Nat=> [(12,.p (.int .i64 i))]) (fun i=> [Zc x,rwO (.p (.list true [])) (.p (.list true [])),chO ⟨true,g,c⟩,rwO (.sl 4 0 R.length R.length) (.sl 5 0 (unI x g i).length (unI x g i).length),.elems 4 (R.map fun c=>Wr c.route),.elems 1 ((unI x g i).map eI)]) (fun i=>i<=g.length) (fun i=>g.length-i) 0 (by simp) ((Weak.nilC (o:=3) (j:=1) 1 (by rfl) (by rfl) (by simp)).trans (Weak.mk ?_)) ?_
     ·simp (disch:=omega) only [Zc,rwO,chO,Bool.not_true,unI,List.map_nil,List.length_nil,List.set_cons_succ,List.set_cons_zero,go_sem,seval]
     ·intro i hi;obtain ⟨U,hU⟩: ∃U,U=unI x g i:=⟨_,rfl⟩;have hUl:=ZcY (x:=x) (g:=g) i
      have hUs:unI x g (i+1)=U++(if nth g i<0/\(nth x.orders i).off=false then [(i:Int)] else []):=by rw [hU];rfl
      rw [<- hU] at hUl ⊢;simp (disch:=omega) only [Zc,rwO,chO,Bool.not_true,go_sem,seval];refine cD ?_ ?_<;>intro h3<;>simp (disch:=omega) only [Sh.out h3,go_sem,seval]
      ·have hi2:i<g.length:=by omega
       refine gT ?_ ?_<;>intro h5<;>simp (disch:=omega) only [Sh.out h5,go_sem,seval]
       ·cases ho:(nth x.orders i).off with
        | true =>
         rw [if_neg (by rw [ho];simp),List.append_nil] at hUs;simp (disch:=omega) only [ho,Bool.not_true,go_sem,seval];exact ⟨i+1,by omega,by omega,Weak.mk (by simp (disch:=omega) only [hUs,Zc,rwO,chO,Bool.not_true,go_sem,seval])⟩
        | false =>
         rw [if_pos ⟨h5,ho⟩] at hUs;simp (disch:=omega) only [ho,Bool.not_false,go_sem,seval];exact ⟨i+1,by omega,by omega,Weak.mk (by simp (disch:=omega) only [hUs,List.map_append,List.map_cons,List.map_nil,List.length_append,List.length_cons,List.length_nil,Nat.zero_add,List.set_cons_succ,List.set_cons_zero,Zc,rwO,chO,Bool.not_true,go_sem,seval])⟩
       ·rw [if_neg (fun h=>h5 h.1),List.append_nil] at hUs;exact ⟨i+1,by omega,by omega,Weak.mk (by simp (disch:=omega) only [hUs,Zc,rwO,chO,Bool.not_true,go_sem,seval])⟩
      ·have hig:i=g.length:=by omega
       subst hig;refine Zm (Weak.fz (o:=4) (by rfl)) ?_;refine Zm (Weak.fz (o:=5) (by rfl)) ?_;refine Zd [] _ _ _ _ ?_;simp (disch:=omega) only [List.map_cons,List.map_nil,List.set_cons_succ,List.set_cons_zero,Zc,rwO,chO,Bool.not_true,List.length_map,eq_self,if_true,go_sem,seval];refine Us [3] [1,2] [2] 4 mixed (by kernel_rfl) (by kernel_rfl) (by kernel_rfl) (by kernel_rfl) (by simp) ?_;simp (disch:=omega) only [go_sem,seval];refine ⟨fun q hq p' hp=> ?_,?_⟩
       ·simp only [List.mem_cons,List.not_mem_nil,or_false] at hq;rcases hq with rfl | rfl
        ·obtain rfl:7=p':=Option.some.inj hp;exact Ys (by decide)
        ·obtain rfl:114=p':=Option.some.inj hp;exact Ys (by decide)
       ·refine Zdu 3 _ _ (by kernel_rfl) (by simp (disch:=omega) only [go_sem,seval];exact ⟨rfl,rfl⟩) ?_;refine ⟨fun k hk=>by simp at hk;subst hk;rfl,ZcK ?_⟩;simp (disch:=omega) only [List.set_cons_succ,List.set_cons_zero,go_sem,seval];exact ⟨.tup [.p (JG ⟨false,R.map (·.route),false,U⟩),.p (.int .i64 c),.p (.int .i64 0)],[],Weak.mk (by simp (disch:=omega) only [List.map_map,Function.comp_def,go_sem,seval]),_,_,_,⟨_,hcv,fun h=>absurd rfl h,fun _=>⟨rfl,by rw [hR,hU]⟩⟩,rfl,rfl⟩
theorem J0 {α:Type} {p q:α->Bool} : ∀ {l:List α},(∀a∈l,p a=q a)->l.find? p=l.find? q
 | [],_=>rfl
 | a::l,h=>by
  rw [List.find?_cons,List.find?_cons,h a (by simp),J0 fun a ha=>h a (List.mem_cons_of_mem _ ha)]
def RA (l:List Col) (g:List Int):Nat->Nat->List Col
 | 0,_=> []
 | d+1,k=>(if 0<=nth g k/\tzN (nth l (nth g k).toNat).set.toNat=(k:Int) then [nth l (nth g k).toNat] else [])++RA l g d (k+1)
def UA (x:Inst) (g:List Int):Nat->Nat->List Int
 | 0,_=> []
 | d+1,k=>(if nth g k<0/\(nth x.orders k).off=false then [(k:Int)] else [])++UA x g d (k+1)
theorem ZoP {x:Inst} {l ys:List Col} (hc:Ctx x l ys) {D:Nat} (hD:D=20) {s:St} {k:Nat} (hv:StV x.orders.length s) (hk:s.ix=k) (hkn:k<x.orders.length) (ho:(nth x.orders k).off=false) (hcv:s.cov.toNat.testBit k=false) {c:Col} (hm:c∈Yc ys k) :
  Zkh x.orders.length (mI x) x (fstF x.orders.length ys) (skF x x.orders.length) s c=Zb3 x ys D s c:=by
 have hn:=hc.n4;have e1:=Ji (n:=x.orders.length) hk (m:=mI x) (by rw [Zb8 hn hkn,ho];rfl) (by rw [QV hv (by omega),hcv]);have e2:=Zab (m:=mI x) hk hkn hn (VV hc hkn hm).2.2.2;unfold Zkh Zb3 Lx;rw [e1,e2,<- hD]
theorem KO {x:Inst} {l ys:List Col} (hc:Ctx x l ys) {D:Nat} (hD:D=20): ∀(d k:Nat) (s:St) (a:List Int) (f:Nat),k+d=x.orders.length->d<f->Nd x l a s k ->
  Xw x.orders.length (mI x) x (fstF x.orders.length ys) (skF x x.orders.length) f (Vh x.orders.length (mI x) s)=(RA l (gr x l ys D d k s a) d k,UA x (gr x l ys D d k s a) d k)
 | 0,k,s,a,0,_,hf,_=>by omega
 | 0,k,s,a,f+1,hd,_,h=>by
  rw [Xw,if_pos,RA,UA];simp only [Vh];have:=Jg (n:=x.orders.length) (m:=mI x) (cov:=s.cov) (x.orders.length-s.ix.toNat) s.ix.toNat;have:=h.ix;omega
 | d+1,k,s,a,0,_,hf,_=>by omega
 | d+1,k,s,a,f+1,hd,hf,h=>by
  have hk:k<x.orders.length:=by omega
  have hn:=hc.n4;rw [gr]
  split
  ·rename_i ho;have hsk:=ho.imp (fun e=>show sHas (mI x) k=false by rw [Zb8 hc.n4 hk,e];rfl) (fun e=>show sHas s.cov k=true by rw [QV h.v (by omega),h.cov k hk];exact decide_eq_true e);rw [JA h.ix hk hsk,KO hc hD d (k+1) (skS s) a (f+1) (by omega) (by omega) (h.skip' hk)];have hg:=(J6 hc (D:=D) d (k+1) (skS s) a (by omega) (h.skip' hk)).2 k hk (.inl (by omega));rw [RA,UA,hg,if_neg,if_neg,List.nil_append,List.nil_append]
   ·rintro ⟨g1,g2⟩;rcases ho with ho | ho
    ·rw [ho] at g2;cases g2
    ·omega
   ·rintro ⟨g1,g2⟩;obtain ⟨t,t1,t2⟩:=h.old k hk (Nat.le_refl _) g1;have hr:=h.rng k hk;obtain ⟨_,s0,s1,_⟩:=hc.set (Zv (l:=l) (i:=(nth a k).toNat) (by omega));have:=((ZhY s0 s1 hn hk).1 g2).2 t (by omega) t2;omega
  ·rename_i ho
   have hoff:(nth x.orders k).off=false:=by
    cases e:(nth x.orders k).off with
    | false=>rfl
    | true=>exact absurd (.inl e) ho
   have hak:nth a k<0:=Int.not_le.1 fun g=>ho (.inr g)
   have hcv:s.cov.toNat.testBit k=false:=by rw [h.cov k hk];exact decide_eq_false (by omega)
   rw [Ji h.ix (by rw [Zb8 hn hk,hoff];rfl) (by rw [QV h.v (by omega),hcv]),Xw,if_neg (by rw [h.ix];omega)]
   have e2:nth (fstF x.orders.length ys) s.ix.toNat=Yc ys k:=by rw [h.ix,Int.toNat_natCast,ZeE,if_pos hk]
   rw [e2,J0 (q:=Zb3 x ys D s) fun c hm=>ZoP hc hD h.v h.ix hk hoff hcv hm]
   cases hfd:(Yc ys k).find? (Zb3 x ys D s) with
   | some c =>
    have hsel:=List.find?_some hfd;have hm:=List.mem_of_find?_eq_some hfd;simp only [Zb3,Bool.and_eq_true] at hsel;obtain ⟨p1,p2,p3⟩:=VC hc h hk hm hsel.1;have hch:=h.child hc hk p1 p3;obtain ⟨c1,c2⟩:=Jd h.len p3;rw [p2] at hch c1 c2;have hg:=(J6 hc (D:=D) d (k+1) (nxS s c) _ (by omega) hch).2 k hk (.inl (by omega));rw [ZT (by rw [h.len];exact hk),if_pos c1] at hg;simp only;rw [Zab h.ix hk hn (VV hc hk hm).2.2.2,KO hc hD d (k+1) (nxS s c) _ f (by omega) (by omega) hch,RA,UA,hg,if_pos ⟨by omega,by rw [Int.toNat_natCast,p2];exact (VV hc hk hm).2.2.1⟩,if_neg (by omega),Int.toNat_natCast,p2]
    rfl
   | none =>
    have hg:=(J6 hc (D:=D) d (k+1) (skS s) a (by omega) (h.skip' hk)).2 k hk (.inl (by omega));simp only;have e3:Zfd x.orders.length (mI x) s=Vh x.orders.length (mI x) (skS s):=rfl;rw [e3,KO hc hD d (k+1) (skS s) a f (by omega) (by omega) (h.skip' hk),RA,UA,hg,if_neg (by omega),if_pos ⟨hak,hoff⟩,h.ix]
    rfl
theorem ZeQ {l:List Col} {g:List Int} {c:Col} : ∀(d k:Nat),c∈RA l g d k↔ ∃i,k<=i/\i<k+d/\0<=nth g i/\tzN (nth l (nth g i).toNat).set.toNat=(i:Int)/\c=nth l (nth g i).toNat
 | 0,k=>by simp [RA];omega
 | d+1,k=>by
  rw [RA,List.mem_append,ZeQ d (k+1)]
  constructor
  ·rintro (h | ⟨i,h1,h2,h3⟩)
   ·split at h
    ·rename_i hh;exact ⟨k,by omega,by omega,hh.1,hh.2,by simpa using h⟩
    ·simp at h
   ·exact ⟨i,by omega,by omega,h3⟩
  ·rintro ⟨i,h1,h2,h3,h4,h5⟩;rcases Nat.lt_or_ge k i with h | h
   ·exact .inr ⟨i,by omega,by omega,h3,h4,h5⟩
   ·obtain rfl:i=k:=by omega
    rw [if_pos ⟨h3,h4⟩];exact .inl (by simp [h5])
theorem ZlL {l:List Col} {g:List Int} : ∀(d k:Nat),(RA l g d k).Pairwise fun a b=>tzN a.set.toNat<tzN b.set.toNat
 | 0,k=> .nil
 | d+1,k=>by
  rw [RA,List.pairwise_append];refine ⟨?_,ZlL d (k+1),fun a ha b hb=> ?_⟩
  ·split<;>simp
  ·split at ha
   ·rename_i hh;obtain ⟨i,h1,h2,h3,h4,rfl⟩:=(ZeQ _ _).1 hb
    obtain rfl:a=nth l (nth g k).toNat:=by simpa using ha
    rw [hh.2,h4];omega
   ·simp at ha
theorem Zip {x:Inst} {g:List Int} : ∀(d k:Nat),UA x g (d+1) k=UA x g d k++(if nth g (k+d)<0/\(nth x.orders (k+d)).off=false then [((k+d:Nat):Int)] else [])
 | 0,k=>by simp [UA]
 | d+1,k=>by
  rw [UA,Zip d (k+1),UA,List.append_assoc,show k+1+d=k+(d+1) by omega]
theorem Zmy {x:Inst} {g:List Int} : ∀n,UA x g n 0=unI x g n
 | 0=>rfl
 | n+1=>by rw [Zip,Zmy n,unI,Nat.zero_add]
theorem Zwv : ∀S:Fin 16,0<S.val-> ∀i:Fin 4,S.val.testBit i.val=true->((S.val:Int)%(pw i.val:Nat)=0↔tzN S.val=(i.val:Int)):=by decide+kernel
theorem Uu {l:List Col} {g:List Int} {T:Nat} {c:Col} : ∀k,c∈rtI l g T k↔ ∃i,i<k/\0<=nth g i/\(nth l (nth g i).toNat).typ=T/\(nth l (nth g i).toNat).set%(pw i:Nat)=0/\c=nth l (nth g i).toNat
 | 0=>by simp [rtI]
 | k+1=>by
  rw [rtI,List.mem_append,Uu k]
  constructor
  ·rintro (⟨i,h1,h2⟩ | h)
   ·exact ⟨i,by omega,h2⟩
   ·split at h
    ·rename_i hh;exact ⟨k,by omega,hh.1,hh.2.1,hh.2.2,by simpa using h⟩
    ·simp at h
  ·rintro ⟨i,h1,h2,h3,h4,h5⟩;rcases Nat.lt_or_ge i k with h | h
   ·exact .inl ⟨i,h,h2,h3,h4,h5⟩
   ·obtain rfl:i=k:=by omega
    rw [if_pos ⟨h2,h3,h4⟩];exact .inr (by simp [h5])
theorem ZcB {l:List Col} {g:List Int} {n:Nat} {c:Col} : ∀T,c∈rtK l g n T↔ ∃t,t<T/\c∈rtI l g t n
 | 0=>by simp [rtK]
 | T+1=>by
  rw [rtK,List.mem_append,ZcB T]
  constructor
  ·rintro (⟨t,h1,h2⟩ | h)
   ·exact ⟨t,by omega,h2⟩
   ·exact ⟨T,by omega,h⟩
  ·rintro ⟨t,h1,h2⟩;rcases Nat.lt_or_ge t T with h | h
   ·exact .inl ⟨t,h,h2⟩
   ·obtain rfl:t=T:=by omega
    exact .inr h2
theorem Zqg {x:Inst} (hx:InstOk x) {k:Nat} (hk:k<x.orders.length) (ho:(nth x.orders k).off=false):(0<=(nth x.orders k).penalty↔0<=skpF x k)/\(0<=skpF x k->skpF x k=skR x k):=by
 have ha:=(hx.orders.2 k hk).arg;simp only [argOk,rng,Bool.and_eq_true,decide_eq_true_eq] at ha
 have e:unsF x k=if (nth x.orders k).penalty= -1 then (zSco,23) else (⟨(nth x.orders k).penalty,if (nth x.orders k).now= -1 then 0 else 1,0,0⟩,0):=by
  rw [unsF,if_neg (by omega),Int.toNat_natCast,ho,if_neg (by simp)]
 by_cases hp:(nth x.orders k).penalty= -1
 ·have e2:skpF x k= -1:=by
   rw [skpF,e,if_pos hp,if_neg (fun h=>by have:=h.1;cases this)]
  rw [e2];exact ⟨⟨fun h=>by omega,fun h=>by omega⟩,fun h=>by omega⟩
 ·have hm:(if (nth x.orders k).now= -1 then (0:Int) else 1)=0\/(if (nth x.orders k).now= -1 then (0:Int) else 1)=1:=by split<;>simp
  have e2:skpF x k=skR x k/\0<=skR x k:=by
   rw [skpF,skR,e,if_neg hp];generalize (if (nth x.orders k).now= -1 then (0:Int) else 1)=m at hm
   have:W5 ⟨(nth x.orders k).penalty,m,0,0⟩=((((nth x.orders k).penalty*16+m)*16+0)*65536+0,0):=by
    rw [W5,if_neg (by simp only;omega),if_neg (by simp only;omega)]
   simp only [this,and_self,if_true,true_and];omega
  rw [e2.1];exact ⟨⟨fun _=>e2.2,fun _=>by omega⟩,fun _=>rfl⟩
theorem Zmf {x:Inst} {l ys:List Col} (hx:InstOk x) (hn:x.orders.length<=4) (hC:Cheap l ys) (hr: ∀c∈l,rightB x c=true) (hs: ∀c∈l,c.set<9223372036854775808):Ctx x l ys :=
 have hok:=Zdg hx hn hC hr hs
 ⟨hn,hok.typ.1,hC,hr,hs,hok,fun _ hk ho=>Zqg hx hk ho⟩
theorem Zha {l:List Col} {n:Nat} {T:Int} : ∀m,m<=n->usdI l (List.replicate n (-1)) T m=0
 | 0,_=>rfl
 | m+1,h=>by
  rw [usdI,Zha m (by omega),ZdA,ZcS (by omega),decide_eq_false (by omega)];rfl
theorem Zh7 (x:Inst) (l:List Col):Nd x l (List.replicate x.orders.length (-1)) zSt 0:=by
 have hz: ∀i,i<x.orders.length->nth (List.replicate x.orders.length (-1:Int)) i= -1:=fun i hi=>ZcS hi;refine ⟨by simp,rfl,ZoW _,fun i hi=> ?_,fun i hi=>by rw [hz i hi];omega,fun T hT=> ?_,fun i hi h=>by rw [hz i hi] at h;omega,fun i hi _ h=>by rw [hz i hi] at h;omega,fun i hi h=>by rw [hz i hi] at h;omega⟩
 ·rw [hz i hi,decide_eq_false (by omega)];simp [zSt]
 ·rw [Zha _ (Nat.le_refl _)]
  have:T=0\/T=1\/T=2\/T=3\/T=4\/T=5:=by omega
  rcases this with rfl | rfl | rfl | rfl | rfl | rfl<;>rfl
theorem Nd.RngA {x:Inst} {l:List Col} {a:List Int} {s:St} {k:Nat} (h:Nd x l a s k):RngA x l a:=⟨h.len,h.rng⟩
theorem Zgu {x:Inst} {l ys:List Col} (hc:Ctx x l ys) {D:Nat} : ∀(d k:Nat) (s:St) (a:List Int),k+d=x.orders.length->Nd x l a s k-> ∃s',Nd x l (gr x l ys D d k s a) s' x.orders.length
 | 0,k,s,a,hd,h=>⟨s,by rw [gr,<- hd];exact h⟩
 | d+1,k,s,a,hd,h=>by
  have hk:k<x.orders.length:=by omega
  rw [gr]
  split
  ·exact Zgu hc d (k+1) _ _ (by omega) (h.skip' hk)
  ·split
   ·rename_i c hf;have hsel:=List.find?_some hf;simp only [Zb3,Bool.and_eq_true] at hsel;obtain ⟨p1,p2,p3⟩:=VC hc h hk (List.mem_of_find?_eq_some hf) hsel.1;have hch:=h.child hc hk p1 p3;rw [p2] at hch;exact Zgu hc d (k+1) _ _ (by omega) hch
   ·exact Zgu hc d (k+1) _ _ (by omega) (h.skip' hk)
theorem Ziz {x:Inst} {l ys:List Col} (hc:Ctx x l ys) {D:Nat} (hD:10<D) :
  (Lx x ys D zSt<0->(Zlq x l).found=false)/\(0<=Lx x ys D zSt->Zlq x l=⟨true,gr x l ys D x.orders.length 0 zSt (List.replicate x.orders.length (-1)),Lx x ys D zSt⟩):=by
 have hz:=Zh7 x l;have hb:=Jb hc hD x.orders.length 0 zSt _ _ 0 (by omega) hz hz KE.refl;obtain ⟨s',hg⟩:=Zgu hc (D:=D) x.orders.length 0 zSt _ (by omega) hz
 constructor
 ·intro h
  have:lvs x l x.orders.length (List.replicate x.orders.length (-1)) 0= []:=by
   cases e:lvs x l x.orders.length (List.replicate x.orders.length (-1)) 0 with
   | nil=>rfl
   | cons q L=>have:=(hb q (by rw [e];simp)).1;omega
  rw [Zlq,this];rfl
 ·intro h;have hin:=Zlu hc hD x.orders.length 0 zSt _ 0 (by omega) hz h;rw [Int.zero_add] at hin;refine Zbv (.inl rfl) (fun q hq=> ?_) hin;obtain ⟨_,h2,h3⟩:=hb q hq;rw [Int.zero_add] at h2 h3;exact ⟨h2,fun e=>Zsy hg.RngA (Uk _ hz.RngA q hq) (h3 e)⟩
theorem ZgB {l:List Col} {g:List Int} {T n:Nat} (hdv: ∀i,i<n->0<=nth g i->((nth l (nth g i).toNat).set%(pw i:Nat)=0↔tzN (nth l (nth g i).toNat).set.toNat=(i:Int))): ∀k,k<=n->(rtI l g T k).Pairwise fun a b=>cfC a b<0
 | 0,_=> .nil
 | k+1,hk=>by
  rw [rtI,List.pairwise_append];refine ⟨ZgB hdv k (by omega),by split<;>simp,fun a ha b hb=> ?_⟩
  split at hb
  ·rename_i hh
   obtain rfl:b=nth l (nth g k).toNat:=by simpa using hb
   obtain ⟨i,h1,h2,h3,h4,rfl⟩:=(Uu _).1 ha;rw [Uc,h3,hh.2.1]
   right
   refine ⟨rfl,?_⟩
   show tzN _<tzN _
   rw [(hdv i (by omega) h2).1 h4,(hdv k (by omega) hh.1).1 hh.2.2];omega
  ·simp at hb
theorem Zir {l:List Col} {g:List Int} {n:Nat} (hdv: ∀i,i<n->0<=nth g i->((nth l (nth g i).toNat).set%(pw i:Nat)=0↔tzN (nth l (nth g i).toNat).set.toNat=(i:Int))): ∀T,(rtK l g n T).Pairwise fun a b=>cfC a b<0
 | 0=> .nil
 | T+1=>by
  rw [rtK,List.pairwise_append];refine ⟨Zir hdv T,ZgB hdv n (Nat.le_refl _),fun a ha b hb=> ?_⟩;obtain ⟨t,h1,h2⟩:=(ZcB _).1 ha;obtain ⟨i,_,_,h3,_,rfl⟩:=(Uu _).1 h2;obtain ⟨j,_,_,h5,_,rfl⟩:=(Uu _).1 hb;rw [Uc,h3,h5];omega
theorem ZgJ {x:Inst} {l ys:List Col} (hc:Ctx x l ys) {g:List Int} {s:St} (hg:Nd x l g s x.orders.length) {zs:List Col} (hp:zs.Perm (RA l g x.orders.length 0)) (ha:zs.Pairwise fun a b=> ¬cfC b a<0):zs=rtK l g x.orders.length x.types.length:=by
 have hn:=hc.n4;have hin: ∀i,i<x.orders.length->0<=nth g i->nth l (nth g i).toNat∈l:=fun i hi h0=>Zv (by have:=hg.rng i hi;omega)
 have hdv: ∀i,i<x.orders.length->0<=nth g i->((nth l (nth g i).toNat).set%(pw i:Nat)=0↔tzN (nth l (nth g i).toNat).set.toNat=(i:Int)):=fun i hi h0=>by
  obtain ⟨e,s0,s1,_⟩:=hc.set (hin i hi h0);have h16:(nth l (nth g i).toNat).set.toNat<16:=Nat.lt_of_lt_of_le s1 (Nat.pow_le_pow_right (n:=2) (by omega) hn);have:=Zwv ⟨_,h16⟩ s0 ⟨i,by omega⟩ (hg.own i hi h0);simp only at this;rw [e,Int.toNat_natCast];exact this
 have hne:zs.Pairwise fun a b=>lo a≠lo b:=by
  have h1:(RA l g x.orders.length 0).Pairwise fun a b=>lo a≠lo b:=(ZlL _ _).imp fun {a b} h e=>by
   have e':tzN a.set.toNat=tzN b.set.toNat:=e;omega
  exact (hp.pairwise_iff fun h e=>h e.symm).2 h1
 have hz:zs.Pairwise fun a b=>cfC a b<0:=(hne.and ha).imp fun {a b} h=>by
  have h1:=h.1;have h2:=h.2;rw [Uc] at h2 ⊢;omega
 refine UE (r:=fun a b=>cfC a b<0) (fun a=>by rw [Uc];omega) (fun a b=>by rw [Uc,Uc];omega) hz (Zir hdv _) fun c=> ?_;rw [hp.mem_iff,ZeQ,ZcB]
 constructor
 ·rintro ⟨i,_,h1,h2,h3,rfl⟩;have ht:=(hc.typ (hin i (by omega) h2)).1;exact ⟨(nth l (nth g i).toNat).typ.toNat,by omega,(Uu _).2 ⟨i,by omega,h2,by omega,(hdv i (by omega) h2).2 h3,rfl⟩⟩
 ·rintro ⟨t,_,h⟩;obtain ⟨i,h1,h2,h3,h4,rfl⟩:=(Uu _).1 h;exact ⟨i,by omega,by omega,h2,(hdv i h1 h2).1 h4,rfl⟩
theorem Zee {x:Inst} {ys:List Col} {D:Nat} (hD:D=20):KJ x ys=Lx x ys D zSt:=by subst hD;rfl
theorem Zxt {x:Inst} {l:List Col} {a e e':Int} {b:Chc} (hx:InstOk x) (hn:x.orders.length<=4) (hs: ∀c∈l,c.set<9223372036854775808) (h:ZDS x l a e) (h':ZBe x l b e'):a=b.price/\e=e':=by
 rcases h with ⟨g1,rfl,rfl⟩ | ⟨g1,⟨c,gc,g2⟩,rfl,rfl⟩ | ⟨g1,g2,ys,g3,rfl,rfl⟩<;>rcases h' with ⟨k1,rfl,rfl⟩ | ⟨k1,⟨c',kc,k2⟩,rfl,rfl⟩ | ⟨k1,k2,k3⟩
 ·exact ⟨rfl,rfl⟩
 ·omega
 ·omega
 ·omega
 ·exact ⟨rfl,rfl⟩
 ·rw [k2 c gc] at g2;cases g2
 ·omega
 ·rw [g2 c' kc] at k2;cases k2
 ·obtain ⟨D,hD⟩: ∃D:Nat,D=20:=⟨20,rfl⟩;rw [Zee hD];obtain ⟨q1,q2⟩:=Ziz (Zmf hx hn g3 g2 hs) (D:=D) (by omega);rcases k3 with ⟨f,rfl,rfl⟩ | ⟨f,rfl,rfl⟩
  ·have:Lx x ys D zSt<0:=Int.not_le.1 fun h0=>by rw [q2 h0] at f;cases f
   rw [if_pos this,if_pos this];exact ⟨rfl,rfl⟩
  ·have: ¬Lx x ys D zSt<0:=fun h0=>by rw [q1 h0] at f;cases f
   rw [if_neg this,if_neg this,q2 (by omega)];exact ⟨rfl,rfl⟩
theorem Zkf {x:Inst} {l:List Col} {p q:Pln} {c e c' e':Int} (hx:InstOk x) (hn:x.orders.length<=4) (hs: ∀c∈l,c.set<9223372036854775808) (h:Zzk x l p c e) (h':ZBf x l q c' e'):c=c'/\e=e'/\p.routes=q.routes/\p.unserved=q.unserved/\p.routes.length<=24/\p.unserved.length<=24/\ ∀r∈p.routes,∃c∈l,r=c.route:=by
 obtain ⟨b,hb,h1,h2⟩:=h';have z:zPlC.routes.length<=24/\zPlC.unserved.length<=24/\ ∀r∈zPlC.routes,∃c∈l,r=c.route:=⟨by simp [zPlC],by simp [zPlC],fun r hr=>by simp [zPlC] at hr⟩;rcases h with ⟨g1,rfl,rfl,rfl⟩ | ⟨g1,⟨c,gc,g2⟩,rfl,rfl,rfl⟩ | ⟨g1,g2,ys,g3,g4,g5⟩<;>rcases hb with ⟨k1,rfl,rfl⟩ | ⟨k1,⟨c',kc,k2⟩,rfl,rfl⟩ | ⟨k1,k2,k3⟩
 ·obtain ⟨rfl,rfl⟩:=h1 (by decide);exact ⟨rfl,rfl,rfl,rfl,z⟩
 ·omega
 ·omega
 ·omega
 ·obtain ⟨rfl,rfl⟩:=h1 (by decide);exact ⟨rfl,rfl,rfl,rfl,z⟩
 ·rw [k2 c gc] at g2;cases g2
 ·omega
 ·rw [g2 c' kc] at k2;cases k2
 ·obtain ⟨D,hD⟩: ∃D:Nat,D=20:=⟨20,rfl⟩;have hc:=Zmf hx hn g3 g2 hs;obtain ⟨q1,q2⟩:=Ziz hc (D:=D) (by omega);rw [Zee hD] at g5;rcases g5 with ⟨g6,rfl,rfl,rfl⟩ | ⟨g6,rfl,rfl,zs,hp,ha,rfl⟩
  ·rcases k3 with ⟨f,rfl,rfl⟩ | ⟨f,rfl,rfl⟩
   ·obtain ⟨rfl,rfl⟩:=h1 (by decide);exact ⟨rfl,rfl,rfl,rfl,z⟩
   ·rw [q1 g6] at f;cases f
  ·rcases k3 with ⟨f,rfl,rfl⟩ | ⟨f,rfl,rfl⟩
   ·rw [q2 g6] at f;cases f
   ·obtain ⟨rfl,rfl⟩:=h2 rfl;have hz:=Zh7 x l;have hpk:=KO hc hD x.orders.length 0 zSt _ 20 (by omega) (by omega) hz;obtain ⟨s',hg⟩:=Zgu hc (D:=D) x.orders.length 0 zSt _ (by omega) hz;rw [q2 g6];simp only [mI] at hpk;rw [hpk] at hp ⊢;simp only at hp ⊢;have hzs:=ZgJ hc hg hp ha;rw [hg.len,Zmy,hzs];have l1:=ZcD (l:=l) (g:=gr x l ys D x.orders.length 0 zSt (List.replicate x.orders.length (-1))) (n:=x.orders.length) x.types.length;have l2:=ZcY (x:=x) (g:=gr x l ys D x.orders.length 0 zSt (List.replicate x.orders.length (-1))) x.orders.length
    have l3:x.types.length*x.orders.length<=6*4:=Nat.mul_le_mul hc.t6 hn;refine ⟨trivial,trivial,rfl,rfl,by rw [List.length_map];omega,by omega,fun r hr=> ?_⟩;obtain ⟨c,hcm,rfl⟩:=List.mem_map.1 hr;rw [<- hzs,hp.mem_iff,ZeQ] at hcm;obtain ⟨i,_,i1,i2,_,rfl⟩:=hcm;exact ⟨_,Zv (by have:=hg.rng i (by omega);omega),rfl⟩
theorem Zjt (p q:Pln) (hp:p.routes.length<=1048576/\p.unserved.length<=1048576/\ ∀r∈p.routes,Zi3 r) (hq:q.routes.length<=1048576/\q.unserved.length<=1048576/\ ∀r∈q.routes,Zi3 r) :
  PC 10 [.p (JG p),.p (JG q)] (.bool (Zax p q)):=by
 refine Za Tryz.func10 rfl Zz1 ?_;simp (disch:=omega) only [Tryz.f10,go_sem,seval];refine (Zlp p q hp hq).use ?_;simp (disch:=omega) only [go_sem,seval]
theorem Zew {g:FuncId} {args:List V} {R:Pln->Int->Int->Prop} {H:List AM.Obj} {K:V->List AM.Obj->Prop} (h:ACalls Tryz.prog g args [] fun y H'=> ∃p c e,R p c e/\y= .tup [.p (JG p),.p (.int .i64 c),.p (.int .i64 e)]/\H'= []) (k: ∀p c e,R p c e->K (.tup [.p (JG p),.p (.int .i64 c),.p (.int .i64 e)]) H) (ha:ZU 0 args=true:=by rfl):ACalls Tryz.prog g args H K :=
 (h.behind ha H).mono fun x H' hq=>by
  obtain ⟨y,H1,⟨p,c,e,hr,rfl,rfl⟩,rfl,rfl⟩:=hq;simpa [shV,shVs] using k p c e hr
theorem Zb0 {ok:List Vis->Bool} {col:List Vis->Col} {better:Col->Col->Bool} : ∀(L:List (List Vis)) (b:Col×Bool),(L.foldl (X1 ok col better) b).2=true->(b.2=true/\(L.foldl (X1 ok col better) b).1=b.1)\/ ∃m∈L,ok m=true/\(L.foldl (X1 ok col better) b).1=col m
 | [],b,h=> .inl ⟨h,rfl⟩
 | l::L,b,h=>by
  rw [List.foldl_cons] at h ⊢;rcases Zb0 L _ h with ⟨h1,h2⟩ | ⟨m,h1,h2,h3⟩
  ·rw [h2];unfold X1 at h1 ⊢
   split
   ·rename_i hc;exact .inr ⟨l,by simp,hc.1,rfl⟩
   ·rename_i hc;rw [if_neg hc] at h1;exact .inl ⟨h1,rfl⟩
  ·exact .inr ⟨m,List.mem_cons_of_mem _ h1,h2,h3⟩
theorem Zig {x:Inst} {k:Int} {S:Nat} (h:(Q1 x k S).2=0): ∃m,m∈lvP x k S (Vn x S) [] (st0 (nth x.types k.toNat))/\okV x k m=true/\(Q1 x k S).1=Y1 x k S m:=by
 unfold Q1 at h ⊢
 split at h
 ·rename_i hc;rw [if_pos hc];rcases Zb0 _ _ hc.2 with ⟨h1,_⟩ | ⟨m,h1,h2,h3⟩
  ·cases h1
  ·exact ⟨m,h1,h2,h3⟩
 ·cases h
theorem Zel {one:Nat->List Col} {c:Col} : ∀q,c∈ZbF one q↔ ∃S,1<=S/\S<=q/\c∈one S
 | 0=>by simp [ZbF];omega
 | q+1=>by
  rw [ZbF,List.mem_append,Zel q]
  constructor
  ·rintro (⟨S,h1,h2,h3⟩ | h)
   ·exact ⟨S,h1,by omega,h3⟩
   ·exact ⟨q+1,by omega,by omega,h⟩
  ·rintro ⟨S,h1,h2,h3⟩;rcases Nat.lt_or_ge q S with h | h
   ·obtain rfl:S=q+1:=by omega
    exact .inr h3
   ·exact .inl ⟨S,h1,h,h3⟩
theorem Zd0 {one:Nat->Nat->List Col} {N:Nat} {c:Col} : ∀K,c∈UT one N K↔ ∃k S,k<K/\1<=S/\S<=N/\c∈one k S
 | 0=>by simp [UT]
 | K+1=>by
  rw [UT,List.mem_append,Zd0 K,Zel]
  constructor
  ·rintro (⟨k,S,h1,h2⟩ | ⟨S,h1,h2,h3⟩)
   ·exact ⟨k,S,by omega,h2⟩
   ·exact ⟨K,S,by omega,h1,h2,h3⟩
  ·rintro ⟨k,S,h1,h2,h3,h4⟩;rcases Nat.lt_or_ge k K with h | h
   ·exact .inl ⟨k,S,h,h2,h3,h4⟩
   ·obtain rfl:k=K:=by omega
    exact .inr ⟨S,h2,h3,h4⟩
noncomputable def ZeP (x:Inst):List Col:=UT (Vm x) (2^x.orders.length-1) x.types.length
theorem ZkX {x:Inst} {c:Col} :c∈ZeP x↔ ∃k S,k<x.types.length/\0<S/\S<2^x.orders.length/\(Q1 x (k:Int) S).2=0/\c=(Q1 x (k:Int) S).1:=by
 have hp1:1<=2^x.orders.length:=Nat.one_le_two_pow;rw [ZeP,Zd0]
 constructor
 ·rintro ⟨k,S,h1,h2,h3,h4⟩;unfold Vm at h4
  split at h4
  ·rename_i hz;exact ⟨k,S,h1,by omega,by omega,hz,by simpa using h4⟩
  ·simp at h4
 ·rintro ⟨k,S,h1,h2,h3,h4,h5⟩;exact ⟨k,S,h1,by omega,by omega,by rw [Vm,if_pos h4,h5];simp⟩
theorem ZkH {x:Inst} {c:Col} (h:c∈ZeP x): ∃(k S:Nat) (m:List Vis),k<x.types.length/\0<S/\S<2^x.orders.length/\m.length=Vn x S/\okV x k m=true/\c=Y1 x k S m:=by
 obtain ⟨k,S,h1,h2,h3,h4,rfl⟩:=ZkX.1 h;obtain ⟨m,m1,m2,m3⟩:=Zig h4;exact ⟨k,S,m,h1,h2,h3,by have:=Zde _ _ _ m m1;simpa using this,m2,m3⟩
theorem Zc3 {x:Inst} (hn:x.orders.length<=4) (h6:x.types.length<=6):(ZeP x).length<=96/\ ∀c∈ZeP x,c.set<9223372036854775808/\Zi3 c.route:=by
 have hp2:2^x.orders.length<=2^4:=Nat.pow_le_pow_right (by omega) hn;refine ⟨?_,fun c hc=> ?_⟩
 ·have h1:=Qc (N:=2^x.orders.length-1) (VJ (x:=x)) x.types.length;have h2:x.types.length*(2^x.orders.length-1)<=6*16:=Nat.mul_le_mul (by omega) (by omega);unfold ZeP;omega
 ·obtain ⟨k,S,m,_,_,h3,h4,_,rfl⟩:=ZkH hc;have:=Jj x S x.orders.length;unfold Vn at h4;exact ⟨by simp only [Y1];omega,by simp only [Y1,rtV];omega,by simp [Y1,rtV]⟩
theorem ZoM (x:Inst) (hx:InstOk x) (hn:x.orders.length<=4) (h6:x.types.length<=6) (hbl:x.before.length<=1048576) (hal:x.apart.length<=1048576) :
  ACalls Tryz.prog 8 [.p (Zt x)] [] fun y H'=> ∃p c e,Zzk x (ZeP x) p c e/\y= .tup [.p (JG p),.p (.int .i64 c),.p (.int .i64 e)]/\H'= []:=by
 obtain ⟨hl,hc⟩:=Zc3 hn h6;have ca:=Zdf x hx hn h6 hbl hal;have cc:=Jh x (ZeP x) false hx hn (by omega) (fun c h=>(hc c h).1) (by omega);rw [show UT (Vm x) (2^x.orders.length-1) x.types.length=ZeP x from rfl] at ca;generalize ZeP x=L at ca cc ⊢;refine Zb [] Tryz.func8 rfl ZFc ?_;simp (disch:=omega) only [Tryz.f8,go_sem,seval];refine Ka ca ?_;simp (disch:=omega) only [go_sem,seval];refine Zew cc fun p c e hR=> ?_;simp (disch:=omega) only [go_sem,seval];exact ⟨.tup [.p (JG p),.p (.int .i64 c),.p (.int .i64 e)],[],wk,p,c,e,hR,rfl,rfl⟩
theorem Zhr (x:Inst) (hx:InstOk x) (hn:x.orders.length<=4) (h6:x.types.length<=6) (hbl:x.before.length<=1048576)
  (hsk: ∀k,k<x.orders.length->(nth x.orders k).off=false->0<=(nth x.orders k).penalty->0<=skR x k/\skR x k<=18014398509481984) (hus: ∀i,scoR 1152921504606846976 (unsF x i).1) :
  ACalls Tryz.prog 9 [.p (Zt x)] [] fun y H'=> ∃p c e,ZBf x (ZeP x) p c e/\y= .tup [.p (JG p),.p (.int .i64 c),.p (.int .i64 e)]/\H'= []:=by
 obtain ⟨hl,hc⟩:=Zc3 hn h6;have ca:=ZoD x hx hn h6 hbl;have cc:=ZcW x (ZeP x) false hn h6 (by omega) (fun c h=>(hc c h).1) hsk hus;rw [show UT (Vm x) (2^x.orders.length-1) x.types.length=ZeP x from rfl] at ca;generalize ZeP x=L at ca cc ⊢;refine Zb [] Tryz.func9 rfl ZFP ?_;simp (disch:=omega) only [Tryz.f9,go_sem,seval];refine Ka ca ?_;simp (disch:=omega) only [go_sem,seval];refine Zew cc fun p c e hR=> ?_;simp (disch:=omega) only [go_sem,seval];exact ⟨.tup [.p (JG p),.p (.int .i64 c),.p (.int .i64 e)],[],wk,p,c,e,hR,rfl,rfl⟩
def ZBv (x:Inst):Prop:=x.orders.length<=4/\x.types.length<=2/\InstOk x
theorem Zdi (x:Inst) (hw:x.wf 1048576):ACalls Tryz.prog 6 [.p (Zt x)] [] fun y H'=> ∃b:Bool,(b=true↔ZBv x)/\y= .p (.bool b)/\H'= []:=by
 have ht:x.types.length<=1048576:=hw.2.1;have ho:x.orders.length<=1048576:=hw.2.2.2.1;refine Zb [] Tryz.func6 rfl ZFg ?_;simp (disch:=omega) only [Tryz.f6,go_sem,seval];refine gT ?_ ?_<;>intro h1<;>simp (disch:=omega) only [Sh.out h1,go_sem,seval]
 ·refine gT ?_ ?_<;>intro h2<;>simp (disch:=omega) only [Sh.out h2,go_sem,seval]
  ·refine ((Zwx x hw).frozenE).useV fun m hm=> ?_;simp (disch:=omega) only [go_sem,seval];refine ⟨.p (.bool (decide ((m.length:Int)=0))),[],wk,_,?_,rfl,rfl⟩;rw [decide_eq_true_eq];exact ⟨fun h=>⟨by omega,by omega,hm.emp.1 (List.length_eq_zero_iff.1 (by omega))⟩,fun h=>by rw [hm.emp.2 h.2.2];rfl⟩
  ·exact ⟨.p (.bool false),[],wk,false,⟨fun h=>(by cases h),fun h=>by have:=h.2.1;omega⟩,rfl,rfl⟩
 ·exact ⟨.p (.bool false),[],wk,false,⟨fun h=>(by cases h),fun h=>by have:=h.1;omega⟩,rfl,rfl⟩
theorem ZB7 {g:FuncId} {args:List V} {R:Bool->Prop} {H:List AM.Obj} {K:V->List AM.Obj->Prop} (h:ACalls Tryz.prog g args [] fun y H'=> ∃b:Bool,R b/\y= .p (.bool b)/\H'= []) (k: ∀b,R b->K (.p (.bool b)) H) (ha:ZU 0 args=true:=by rfl):ACalls Tryz.prog g args H K :=
 (h.behind ha H).mono fun x H' hq=>by
  obtain ⟨y,H1,⟨b,hr,rfl,rfl⟩,rfl,rfl⟩:=hq;simpa [AM.shV,AM.shVs] using k b hr
theorem Zlj {x:Inst} (hx:InstOk x):(∀k,k<x.orders.length->(nth x.orders k).off=false->0<=(nth x.orders k).penalty->0<=skR x k/\skR x k<=18014398509481984)/\ ∀i,scoR 1152921504606846976 (unsF x i).1 :=
 ⟨fun k hk hof hp=>by
  obtain ⟨s1,s2⟩:=Zqg hx hk hof;have:=ZeF hx k;have e:=s2 (s1.1 hp);have:=s1.1 hp
  omega,fun i=>WI (by omega) (K8 hx i)⟩
theorem ZcU (haw:PC 7 [] (.bool true)) (x:Inst) (hw:x.wf 1048576) :
  PC 3 [.p (Zt x)] (.bool true):=by
 have hal:x.apart.length<=1048576:=hw.2.2.2.2.2.1;have hbl:x.before.length<=1048576:=hw.2.2.2.2.2.2.2.1;refine WA [] Tryz.func3 rfl ZFy ?_;simp (disch:=omega) only [Tryz.f3,go_sem,seval];refine ZB7 (Zdi x hw) fun r hr=> ?_
 cases r with
 | false =>
  simp (disch:=omega) only [Bool.not_false,go_sem,seval];refine (haw).use ?_;simp (disch:=omega) only [go_sem,seval]
 | true =>
  simp (disch:=omega) only [Bool.not_true,go_sem,seval];obtain ⟨h4,h2,hx⟩:=hr.1 rfl;obtain ⟨hsk,hus⟩:=Zlj hx;obtain ⟨hl,hc⟩:=Zc3 h4 (show x.types.length<=6 by omega);refine Zew (ZoM x hx h4 (by omega) hbl hal) fun p c e hP=> ?_;simp (disch:=omega) only [go_sem,seval];refine Zew (Zhr x hx h4 (by omega) hbl hsk hus) fun q d f hQ=> ?_;simp (disch:=omega) only [go_sem,seval];obtain ⟨rfl,rfl,r1,r2,r3,r4,r5⟩:=Zkf hx h4 (fun c h=>(hc c h).1) hP hQ
  have hpr: ∀r∈p.routes,Zi3 r:=fun r hr=>by
   obtain ⟨c,hcm,rfl⟩:=r5 r hr;exact (hc c hcm).2
  have hsm:Zax p q=true:=Zbd (by rw [r1]) (fun k _=>by rw [r1];exact QL.2 ⟨rfl,rfl,rfl,rfl⟩) r2;simp (disch:=omega) only [eq_self,decide_true,go_sem,seval];refine (Zjt p q ⟨by omega,by omega,hpr⟩ ⟨by rw [<- r1];omega,by rw [<- r2];omega,by rw [<- r1];exact hpr⟩).use ?_;simp (disch:=omega) only [go_sem,seval];simp (disch:=omega) only [hsm,go_sem,seval];refine (haw).use ?_;simp (disch:=omega) only [go_sem,seval]
  try simp [hsm]
end Go.Proofs.YthmplgaldjpgiaaGreatDoor.K
