/- Declarations that the closing texts need, part 18: joined by tools/slim.py. -/
import Derived.Test.YthmplgaldjpgiaaGreatDoorZ17
import Derived.Shelf.SlSortCmp.NoneTotal
set_option linter.unusedVariables false
set_option linter.unusedSimpArgs false
namespace Go.AM
open Go.RowKit Go.Shelf Go.Lib Go.Sort Go.Proofs
theorem ZkH {W w':World} {H':List AM.Obj} {ι':List (Option Nat)} (g:Good Zcy [] [] W H' ι' w'): ∃q os',w'=grow (W.drewN q) os':=by
 refine ⟨w'.drawn-W.drawn,w'.heap.extract W.heap.size w'.heap.size,?_⟩
 have h1:w'.heap=W.heap++w'.heap.extract W.heap.size w'.heap.size:=by
  apply Array.ext_getElem?;intro i
  by_cases hi:i<W.heap.size
  ·rw [Array.getElem?_append_left hi];exact g.keep i hi (by simp)
  ·rw [Array.getElem?_append_right (by omega)];have:=g.size;rw [Array.getElem?_extract]
   split
   ·congr 1;omega
   ·rw [Array.getElem?_eq_none (by omega)]
 have h2:W.drawn<=w'.drawn:=g.tape.2.resolve_right fun h=>h;have h3:=g.tape.1;have h4:=g.os;have h5:=g.output
 cases w'
 simp only [grow,World.drewN] at *
 congr 1
 omega
def ZmZ (c:Array Value) (k i:Nat):List Value:=(List.range k).map fun j=>c.getD (i*k+j) undef
theorem ZaO (c k i):(ZmZ c k i).length=k:=by simp [ZmZ]
theorem Qr {c k i j} (h:j<k):(ZmZ c k i)[j]! =c.getD (i*k+j) undef:=by
 rw [List.getElem!_eq_getElem?_getD,ZmZ,List.getElem?_map,List.getElem?_range h];rfl
theorem ACalls.sortFunc {P : Program} {ρ : Ren} (L : SlLaysF0.n6 P ρ) (hg : Zf P (ρ.f 6)) (k : Nat) (aE : ∀ w, (isAgg (ρ.t 24)).run P w = .ok true w) (zE : ∀ w, (Go.sizeOf (ρ.t 24)).run P w = .ok k w)
    {β : Type} [Inhabited β] (f : β -> PV) (hf : ∀ x, ∃ cs, f x = .agg cs /\ cs.length = k /\ cs.all (·.one) = true) (cf : β -> β -> Int) (hO : SWO (ltOf cf)) (g : FuncId)
    (hcmp : ∀ x y, ACalls P g [.p (f x), .p (f y)] [] fun r H' => r = .p (.int .i64 (cf x y)) /\ H' = []) (xs : List β) (hlen : xs.length < 4611686018427387904) {H : List AM.Obj} {o : Nat} (hHo : H[o]? = some (.elems k (xs.map f))) :
    ACalls P (ρ.f 6) [.sl o 0 xs.length xs.length, .fn (.func g) [] []] H fun y H' => y = .tup [] /\ ∃ ys : List β, ys.Perm xs /\ ys.Pairwise (fun a b => ¬ cf b a < 0) /\ H' = H.set o (.elems k (ys.map f)) := by
  refine ⟨hg, fun F ι w vs hr hv => ?_⟩;obtain ⟨hv1, hv2⟩ := hv;have h0 := hv2 0 _ rfl;have h1 := hv2 1 _ rfl
  have hvs : vs = #[vs.getD 0 undef, vs.getD 1 undef] := by
    apply Array.ext
    · simpa using hv1
    · intro i h2 h3
      have : i = 0 \/ i = 1 := by simp at hv1; omega
      rcases this with rfl | rfl <;> simp [Array.getD, h2]
  rw [hvs];generalize vs.getD 0 undef = v0 at h0 ⊢;generalize vs.getD 1 undef = v1 at h1 ⊢;clear hvs hv1 hv2
  cases h1 with | fn _ _ _ a e hs ht _ _ =>
  have ea : a = #[] := Array.eq_empty_of_size_eq_zero (by simpa using hs);have ee : e = #[] := Array.eq_empty_of_size_eq_zero (by simpa using ht);subst ea; subst ee;generalize hL : xs.length = n at h0 hlen
  by_cases hz : n = 0
  · subst hz
    obtain rfl : xs = [] := List.length_eq_zero_iff.1 hL
    have e1 : H.set o (.elems k (([] : List β).map f)) = H := by
      apply List.ext_getElem?;intro i;rw [List.getElem?_set]
      split
      · rename_i hi; subst hi; rw [hHo]; simp [(List.getElem?_eq_some_iff.1 hHo).1]
      · rfl
    obtain ⟨ad, cap, rfl⟩ : ∃ ad cap, v0 = .slice ad 0 cap := by
      cases h0 with
      | slNil => exact ⟨_, _, rfl⟩
      | sl => exact ⟨_, _, rfl⟩
      | slD _ _ _ _ _ hd => rw [hHo] at hd; cases hd
      | slS _ _ _ _ _ S2 xs2 hd hne => rw [hHo] at hd; simp at hd; obtain ⟨_, rfl⟩ := hd; simp at hne
      | slC _ _ _ _ _ _ hd => rw [hHo] at hd; cases hd
    refine (AnyF.slices_SortFunc_none L ad cap _ w).mono ?_;rintro e w' ⟨rfl, rfl⟩;exact ⟨.tup [], _, ι, _, rfl, ⟨rfl, [], .refl _, .nil, e1.symm⟩, Good.refl hr, .tup [] #[] (by simp) (by simp)⟩
  have hn : 0 < n := by omega
  cases h0 with
  | slNil => omega
  | slD _ _ _ _ _ hd => rw [hHo] at hd; cases hd
  | slS _ _ _ _ _ S ys hd hlt => rw [hHo] at hd; simp at hd; obtain ⟨_, rfl⟩ := hd; simp at hlt; omega
  | slC _ _ _ _ _ _ hd => rw [hHo] at hd; cases hd
  | sl _ _ _ _ b S cap t ys c hι hH ht2 hw hcap hl hle hm =>
  rw [hHo] at hH;simp at hH;obtain ⟨rfl, rfl⟩ := hH;rcases hr.elm o k (xs.map f) hHo with ⟨e1, _⟩ | ⟨b2, c2, t2, cap2, e1, e2, e3, e4, e5, e6, e7⟩
  · rw [hι] at e1; cases e1
  rw [hι] at e1;simp at e1; subst e1;rw [hw] at e2;simp at e2;obtain ⟨rfl, rfl⟩ := e2;have hbs : b < w.heap.size := (hr.avo o b hι).2;have hbF : ¬ F b := (hr.avo o b hι).1
  -- an index, made one that there is
  let ix : Nat -> Nat := fun i => if i < n then i else 0
  have hix : ∀ i, ix i < n := fun i => by simp only [ix]; split <;> omega
  have hixe : ∀ i, i < n -> ix i = i := fun i hi => by simp only [ix]; rw [if_pos hi]
  let enc : Nat -> List Value := fun i => ZmZ c k (ix i)
  have hk : ∀ x, (enc x).length = k := fun x => ZaO _ _ _
  -- one cell of an element
  have cell : ∀ i, i < n -> ∃ cs, f (nth xs i) = .agg cs /\ cs.length = k /\ ∀ (j : Nat) (y : PV), cs[j]? = some y -> y.one = true /\ RP (Own F ι) w y (c.getD (i * k + j) undef) := fun i hi => by
    obtain ⟨cs, q1, q2, q3⟩ := hf (nth xs i);refine ⟨cs, q1, q2, fun j y hj => ⟨List.all_eq_true.1 q3 y (List.mem_of_getElem? hj), ?_⟩⟩;refine e7 i (f (nth xs i)) j y ?_ (by rw [q1]; exact hj);rw [List.getElem?_map, List.getElem?_eq_getElem (by omega), Zd (by omega)]; rfl
  have one : ∀ x, ∀ v ∈ enc x, v.oneCell' = true := fun x v hv => by
    obtain ⟨j, hj, rfl⟩ := List.mem_iff_getElem.1 hv
    have hjk : j < k := by rw [hk] at hj; exact hj
    obtain ⟨cs, q1, q2, q3⟩ := cell (ix x) (hix x);have hg := q3 j (cs[j]'(by omega)) (by simp)
    have e9 : (enc x)[j] = c.getD (ix x * k + j) undef := by
      have := Qr (c := c) (i := ix x) hjk;rw [List.getElem!_eq_getElem?_getD, List.getElem?_eq_getElem (by rw [ZaO]; exact hjk)] at this;exact this
    rw [e9];exact hg.2.oneCell hg.1
  let d : Array Nat := Array.range n
  have hd : d.size = n := by simp [d]
  let cf' : Nat -> Nat -> Int := fun i j => cf (nth xs (ix i)) (nth xs (ix j))
  have hO' : SWO (ltOf cf') := ⟨fun x => hO.irrefl _, fun x y z h1 h2 => hO.trans _ _ _ h1 h2, fun x y z h1 h2 => hO.ntrans _ _ _ h1 h2⟩
  have hsz : n * k <= c.size := by
    rw [e3]; exact Nat.mul_le_mul_right k (by simpa [hL] using e4)
  have hcell : ∀ j, j < c.size -> w.cell? ⟨b, j, none⟩ = some (c.getD j undef) := fun j hj => by
    simp [World.cell?, hw, hj]
  have hHolds : HoldsK enc k w b (0 * k) d := fun j hj => by
    have hj2 : j < n * k := by simpa [hd] using hj
    have k0 : 0 < k := by rcases Nat.eq_zero_or_pos k with h | h; · subst h; simp at hj2
                          · exact h
    rw [get_flatK enc k d j (by rw [hd]; exact hj2)];have hdj : j / k < n := Nat.div_lt_of_lt_mul (by rw [Nat.mul_comm]; exact hj2)
    have hde : d[j / k]! = j / k := by simp [d, hdj]
    rw [hde]
    have e9 : (enc (j / k))[j % k]! = c.getD j undef := by
      show (ZmZ c k (ix (j / k)))[j % k]! = _
      rw [hixe _ hdj, Qr (Nat.mod_lt _ k0), Nat.div_add_mod']
    rw [e9, Nat.zero_mul, Nat.zero_add];exact ⟨hcell j (by omega), by simp [World.frozen?, hw]⟩
  have hcmp' : CmpLays P g #[] enc k cf' b (0 * k) d.size w := fun m os dk hdk x y => by
    generalize hW : sortWorldK enc k w b (0 * k) m dk os = W
    have hKeep : Keeps (Own F ι) w Zcy W := fun b' hb' hs' => by
      have hne : b' ≠ b := fun e => hb' (.inr (e ▸ List.mem_of_getElem? hι));refine ⟨fun h => h, ?_, ?_⟩
      · rw [<- hW]; simp [sortWorldK, grow, putRowK, putRow, mapBlock, ahead]; omega
      · rw [<- hW]
        simp only [sortWorldK, grow, putRowK, putRow, mapBlock, ahead];rw [Array.getElem?_append_left (by simpa using hs'), Array.getElem?_modify, if_neg (fun e => hne e.symm)]
        rfl
    have heW : Env Zcy [] W := (hr.env.of (w' := W) (ι' := ι) (by rw [<- hW]; simp [sortWorldK, grow, putRowK, putRow, mapBlock, ahead]) (fun b' hb' hni => by
      have hne : b' ≠ b := fun e => hni (e ▸ List.mem_of_getElem? hι);rw [<- hW];simp only [sortWorldK, grow, putRowK, putRow, mapBlock, ahead];rw [Array.getElem?_append_left (by simpa using hb'), Array.getElem?_modify, if_neg (fun e => hne e.symm)]
      rfl) (fun _ _ h => h)).noth
    have arg : ∀ i, RV Zcy [] [] W (.p (f (nth xs (ix i)))) (.agg (enc i).toArray) := fun i => by
      obtain ⟨cs, q1, q2, q3⟩ := cell (ix i) (hix i);refine .p _ _ ?_;rw [q1]
      refine (RP.agg cs (enc i).toArray (by simp [hk, q2]) fun j y hj => ?_ : RP Zcy W _ _).weaker fun b hb => by
        rcases hb with hb | hb
        · exact hb
        · simp at hb
      have hjk : j < k := by rw [<- q2]; exact (List.getElem?_eq_some_iff.1 hj).1
      have e9 : (enc i).toArray.getD j undef = c.getD (ix i * k + j) undef := by
        have := Qr (c := c) (i := ix i) hjk;rw [List.getElem!_eq_getElem?_getD, List.getElem?_eq_getElem (by rw [ZaO]; exact hjk)] at this;simp only [Array.getD_eq_getD_getElem?, List.getElem?_toArray];rw [List.getElem?_eq_getElem (by rw [hk]; exact hjk), Option.getD_some];rw [Option.getD_some] at this;simpa only [Array.getD_eq_getD_getElem?] using this
      rw [e9];exact (q3 j y hj).2.ext hKeep
    refine ((hcmp (nth xs (ix x)) (nth xs (ix y))).2 Zcy [] W _ (KW heW) ⟨rfl, fun j q hj => ?_⟩).mono ?_
    · cases j with
      | zero => simp at hj; subst hj; exact arg x
      | succ j => cases j with
        | zero => simp at hj; subst hj; exact arg y
        | succ j => simp at hj
    · rintro e' w' ⟨x', H', ι', v, rfl, ⟨rfl, rfl⟩, gd, rv⟩
      cases rv with | p _ _ rp =>
      rw [rp.int_inv];exact ⟨rfl, ZkH gd⟩
  have eg := (hcmp default default).1;have main := AnyQ.slices_SortFunc L k aE zE enc hk one cf' hO' g #[] b (0 * k) cap d w (fun args w => eg args w) hcmp' hHolds hbs (by rw [hd]; exact hlen);rw [hd] at main;refine main.mono ?_;rintro e' w' ⟨rfl, d', m, os, hp, hso, rfl⟩;obtain ⟨p1, _, p3⟩ := hp;rw [hd] at p1
  have hperm : d'.toList.Perm (List.range n) := by
    have e8 : (d'.extract 0 n).toList = d'.toList := by rw [<- p1]; simp
    have e9 : (d.extract 0 n).toList = List.range n := by
      have : d.extract 0 n = d := by rw [<- hd]; simp
      rw [this]; simp [d]
    rw [e8, e9] at p3; exact p3
  have hlt : ∀ i ∈ d'.toList, i < n := fun i hi => by simpa using hperm.mem_iff.1 hi
  have hlt2 : ∀ i, i < n -> d'.toList[i]?.isSome = true := fun i hi => by simp [p1, hi]
  have hget : ∀ i (hi : i < n), d'[i]! = d'.toList[i]'(by simp [p1, hi]) := fun i hi => by
    rw [getElem!_pos d' i (by omega)]; simp
  let ys : List β := d'.toList.map (nth xs)
  have hyl : ys.length = n := by simp [ys, p1]
  have hys : ∀ i (hi : i < n), ys[i]'(by omega) = nth xs d'[i]! := fun i hi => by
    simp only [ys, List.getElem_map]; rw [hget i hi]
  have hdl : ∀ i, i < n -> d'[i]! < n := fun i hi => by rw [hget i hi]; exact hlt _ (List.getElem_mem _)
  have yperm : ys.Perm xs := by
    have h9 : (List.range n).map (nth xs) = xs := by
      refine List.ext_getElem (by simp [hL]) fun i h1 h2 => ?_;simp only [List.getElem_map, List.getElem_range];rw [Zd h2]
    have := hperm.map (nth xs);rw [h9] at this; exact this
  have ysort : ys.Pairwise fun a b => ¬ cf b a < 0 := by
    rw [List.pairwise_iff_getElem];intro i j hi hj hij;rw [hys i (by omega), hys j (by omega)];have h9 := hso i j (Nat.zero_le _) hij (by omega);simp only [ltOf, cf', decide_eq_false_iff_not] at h9;rwa [hixe _ (hdl j (by omega)), hixe _ (hdl i (by omega))] at h9
  let c' : Array Value := putCells id (0 * k) (flatK enc k d') c
  have hcs : c'.size = c.size := by simp [c', putCells]
  have hat : (sortWorldK enc k w b (0 * k) m d' os).heap[b]? = some (.cells c' t (0, 0)) := by
    simp only [sortWorldK, grow, putRowK, putRow, mapBlock, ahead];rw [Array.getElem?_append_left (by simpa using hbs), Array.getElem?_modify, if_pos rfl]
    show Option.map _ w.heap[b]? = _
    rw [hw]; rfl
  have hoth : ∀ q, q < w.heap.size -> q ≠ b -> (sortWorldK enc k w b (0 * k) m d' os).heap[q]? = w.heap[q]? := fun q hq hne => by
    simp only [sortWorldK, grow, putRowK, putRow, mapBlock, ahead];rw [Array.getElem?_append_left (by simpa using hq), Array.getElem?_modify, if_neg (fun e => hne e.symm)]
    rfl
  have hc' : ∀ i j, i < n -> j < k -> c'.getD (i * k + j) undef = c.getD (d'[i]! * k + j) undef := fun i j hi hj => by
    have hb1 : i * k + j < n * k := by
      have := Nat.mul_le_mul_right k (show i + 1 <= n from hi);rw [Nat.add_mul, Nat.one_mul] at this; omega
    have e8 : (flatK enc k d')[i * k + j]! = c.getD (d'[i]! * k + j) undef := by
      rw [get_flatK enc k d' _ (by rw [p1]; exact hb1)]
      have q1 : (i * k + j) / k = i := by rw [Nat.mul_comm, Nat.mul_add_div (by omega), Nat.div_eq_of_lt hj]; omega
      have q2 : (i * k + j) % k = j := by rw [Nat.mul_comm, Nat.mul_add_mod, Nat.mod_eq_of_lt hj]
      rw [q1, q2]
      show (ZmZ c k (ix d'[i]!))[j]! = _
      rw [Qr hj, hixe _ (hdl i hi)]
    have e9 : c'[i * k + j]? = some ((flatK enc k d')[i * k + j]!) := by
      simp only [c', putCells, Array.getElem?_mapIdx];rw [Array.getElem?_eq_getElem (by omega)];simp only [Option.map_some, Nat.zero_mul, Nat.zero_le, true_and, Nat.zero_add, size_flatK, p1, hb1, if_true, Nat.sub_zero, id]
    rw [Array.getD_eq_getD_getElem?, e9, Option.getD_some, e8]
  have good := ZY (w' := sortWorldK enc k w b (0 * k) m d' os) (c := c') (t := t) (xs' := ys.map f) (cap := cap2) (b' := b) hr (o := o) (S := k) (xs := xs.map f) hHo rfl (Tp.of rfl (by simp [sortWorldK, grow, putRowK, putRow, mapBlock, ahead])) rfl
    (fun c0 t0 h => by rw [hw] at h; simp at h; obtain ⟨rfl, rfl⟩ := h; exact ⟨rfl, hcs⟩) (by simp [sortWorldK, grow, putRowK, putRow, mapBlock, ahead]) hat hoth (.inl ⟨hι, .inl ⟨by simp [hyl, hL], fun c0 t0 h => by rw [hw] at h; simp at h; obtain ⟨rfl, rfl⟩ := h; exact ⟨rfl, hcs⟩⟩⟩)
    (by rw [hcs]; exact e3) (by simp only [List.length_map, hyl]; simpa [hL] using e4) e5
    (fun i x hi => by
      rw [List.getElem?_map, Option.map_eq_some_iff] at hi;obtain ⟨y, _, rfl⟩ := hi;obtain ⟨cs, q1, q2, _⟩ := hf y
      rw [q1]; exact q2)
    (fun i x j y hi hj => by
      rw [List.getElem?_map, Option.map_eq_some_iff] at hi;obtain ⟨z, hz, rfl⟩ := hi
      have hin : i < n := by have := (List.getElem?_eq_some_iff.1 hz).1; omega
      have e8 : z = nth xs d'[i]! := by
        obtain ⟨h9, h10⟩ := List.getElem?_eq_some_iff.1 hz;rw [<- h10]; exact hys i hin
      obtain ⟨cs, q1, q2, q3⟩ := cell _ (hdl i hin);rw [e8, q1] at hj
      have hjk : j < k := by rw [<- q2]; exact (List.getElem?_eq_some_iff.1 hj).1
      rw [hc' i j hin hjk]
      exact (q3 j y hj).2)
  have Zx : ι.set o (some b) = ι := by
    refine List.ext_getElem? fun i => ?_;rw [List.getElem?_set]
    split
    · rename_i e; subst e
      have := (List.getElem?_eq_some_iff.1 hι).1;rw [if_pos this, hι]
    · rfl
  rw [Zx] at good;exact ⟨.tup [], _, ι, .tuple #[], rfl, ⟨rfl, ys, yperm, ysort, rfl⟩, good, .tup [] #[] rfl (fun j c hj => by simp at hj)⟩
end Go.AM
set_option linter.unusedVariables false
set_option linter.unusedSimpArgs false
namespace Go.Proofs.YthmplgaldjpgiaaGreatDoor.K
open Go Go.AM Go.Proofs
set_option maxRecDepth 60000
set_option maxHeartbeats 8000000
theorem ZhY {α:Type} [Inhabited α] {l:List α} {i j:Nat} {a:α} (h:i<l.length):nth (l.set i a) j=if i=j then a else nth l j:=by
 unfold nth
 by_cases e:i=j
 ·subst e;simp [h]
 ·simp [e,List.getD_eq_getElem?_getD,List.getElem?_set_ne e]
theorem Zdg {α:Type} [Inhabited α] {l:List α} {j:Nat} {a:α} (h:j<l.length):nth (l++ [a]) j=nth l j:=by
 unfold nth;simp [List.getD_eq_getElem?_getD,List.getElem?_append_left h]
theorem ZcS {α:Type} [Inhabited α] {l:List α} {a:α} :nth (l++ [a]) l.length=a:=by
 unfold nth;simp [List.getD_eq_getElem?_getD]
def cfK (a b:Col):Int:=orI [Vk a.typ b.typ,Vk a.set b.set]
theorem Zeb {a b:Int} :Vk a b<0↔a<b:=by unfold Vk;split<;>(try split)<;>omega
theorem Zdz {a b:Int} :Vk a b=0↔a=b:=by unfold Vk;split<;>(try split)<;>omega
theorem U2 {a b:Col} :cfK a b<0↔a.typ<b.typ\/(a.typ=b.typ/\a.set<b.set):=by
 unfold cfK;rw [KR]
 split
 ·rename_i h;rw [Zdz] at h;rw [Zeb];omega
 ·rename_i h;rw [Zdz] at h;rw [Zeb];omega
theorem Znw : Go.Sort.SWO (ltOf cfK) where
 irrefl x:=by simp only [ltOf,decide_eq_false_iff_not,U2];omega
 trans x y z h1 h2:=by simp only [ltOf,decide_eq_true_eq,U2] at *;omega
 ntrans x y z h1 h2:=by simp only [ltOf,decide_eq_false_iff_not,U2] at *;omega
theorem ZcD (a b:Col):PC 130 [.p (XT a),.p (XT b)] (.int .i64 (cfK a b)):=by
 refine Za Tryz.func130 rfl Zrt ?_;simp (disch:=omega) only [Tryz.f130,go_sem,seval];refine Zh mixed (by kernel_rfl) (by kernel_rfl) ?_;simp (disch:=omega) only [go_sem,seval];refine Zk (Zab a.typ b.typ) ?_;simp (disch:=omega) only [go_sem,seval];refine Zk (Zab a.set b.set) ?_;simp (disch:=omega) only [go_sem,seval];refine Zk (Zwi [Vk a.typ b.typ,Vk a.set b.set] false (by simp)) ?_;simp (disch:=omega) only [go_sem,seval]
 rfl
theorem ZnR (xs:List Col) (hl:xs.length<=1048576) {H:List AM.Obj} {o:Nat} (hH:H[o]? =some (.elems 7 (xs.map XT))) :
  ACalls Tryz.prog 53 [.sl o 0 xs.length xs.length,.fn (.func 130) [] []] H fun y H'=>y= .tup []/\ ∃ys:List Col,ys.Perm xs/\ys.Pairwise (fun a b=> ¬cfK b a<0)/\H'=H.set o (.elems 7 (ys.map XT)) :=
 ACalls.sortFunc ZeO Zss 7 Tryz.isAgg58 Tryz.sizeOf58 XT (fun x=>⟨_,rfl,rfl,rfl⟩) cfK Znw 130 ZcD xs (by omega) hH
def kd (c:Col):Kd:=⟨c.typ,c.set⟩
def Bst (l:List Col) (k:Nat) (d:Col):Prop:= ∃j,j<k/\nth l j=d/\ ∀i,i<k->kd (nth l i)=kd d->d.price<(nth l i).price\/(d.price=(nth l i).price/\j<=i)
structure Chp (l:List Col) (k:Nat) (m:List (Kd×Int)) (out:List Col):Prop where
 len:out.length<=k
 at1: ∀i,i<out.length->mq m (kd (nth out i))=some (i:Int)
 at2: ∀q v,mq m q=some v-> ∃i,i<out.length/\v=i/\kd (nth out i)=q
 bst: ∀i,i<out.length->Bst l k (nth out i)
 all: ∀j,j<k-> ∃i,i<out.length/\kd (nth out i)=kd (nth l j)
theorem Zi4 (l:List Col):Chp l 0 [] []:=⟨by simp,fun i h=>by simp at h,fun q v h=>by simp [mq] at h,fun i h=>by simp at h,fun j h=>by simp at h⟩
theorem Znu {l:List Col} {k:Nat} {m m':List (Kd×Int)} {out:List Col} (h:Chp l k m out) (hn:mq m (kd (nth l k))=none) (hm: ∀q,mq m' q=if q=kd (nth l k) then some (out.length:Int) else mq m q):Chp l (k+1) m' (out++ [nth l k]):=by
 have hno: ∀i,i<out.length->kd (nth out i)≠kd (nth l k):=fun i hi e=>by
  have:=h.at1 i hi;rw [e,hn] at this;cases this
 have split: ∀i,i<(out++ [nth l k]).length->(i<out.length/\nth (out++ [nth l k]) i=nth out i)\/(i=out.length/\nth (out++ [nth l k]) i=nth l k):=fun i hi=>by
  simp only [List.length_append,List.length_cons,List.length_nil] at hi;rcases Nat.lt_or_ge i out.length with h1 | h1
  ·exact .inl ⟨h1,Zdg h1⟩
  ·obtain rfl:i=out.length:=by omega
   exact .inr ⟨rfl,ZcS⟩
 refine ⟨by have:=h.len;simp;omega,fun i hi=> ?_,fun q v hq=> ?_,fun i hi=> ?_,fun j hj=> ?_⟩
 ·rcases split i hi with ⟨h1,e⟩ | ⟨rfl,e⟩
  ·rw [e,hm,if_neg (hno i h1)];exact h.at1 i h1
  ·rw [e,hm,if_pos rfl]
 ·rw [hm] at hq
  split at hq
  ·rename_i e;simp only [Option.some.injEq] at hq;exact ⟨out.length,by simp,hq.symm,by rw [ZcS,e]⟩
  ·obtain ⟨i,h1,h2,h3⟩:=h.at2 q v hq;exact ⟨i,by simp;omega,h2,by rw [Zdg h1];exact h3⟩
 ·rcases split i hi with ⟨h1,e⟩ | ⟨rfl,e⟩
  ·rw [e];obtain ⟨j,h2,h3,h4⟩:=h.bst i h1;refine ⟨j,by omega,h3,fun p hp he=> ?_⟩;rcases Nat.lt_succ_iff_lt_or_eq.1 hp with h5 | rfl
   ·exact h4 p h5 he
   ·exact absurd he.symm (hno i h1)
  ·rw [e];refine ⟨k,by omega,rfl,fun p hp he=> ?_⟩;rcases Nat.lt_succ_iff_lt_or_eq.1 hp with h5 | rfl
   ·obtain ⟨i,h6,h7⟩:=h.all p h5;exact absurd (h7.trans he) (hno i h6)
   ·exact .inr ⟨rfl,Nat.le_refl _⟩
 ·rcases Nat.lt_succ_iff_lt_or_eq.1 hj with h5 | rfl
  ·obtain ⟨i,h6,h7⟩:=h.all j h5;exact ⟨i,by simp;omega,by rw [Zdg h6];exact h7⟩
  ·exact ⟨out.length,by simp,by rw [ZcS]⟩
theorem Zmm {l:List Col} {k:Nat} {m:List (Kd×Int)} {out:List Col} {i:Nat} (h:Chp l k m out) (hi:i<out.length) (hk:kd (nth out i)=kd (nth l k)):Chp l (k+1) m (if (nth l k).price<(nth out i).price then out.set i (nth l k) else out):=by
 have hun: ∀j,j<out.length->kd (nth out j)=kd (nth l k)->j=i:=fun j hj e=>by
  have h1:=h.at1 j hj;have h2:=h.at1 i hi;rw [e] at h1;rw [hk,h1] at h2
  have h3:(j:Int)=i:=by simpa using h2
  omega
 split
 ·rename_i hp
  have key: ∀j,kd (nth (out.set i (nth l k)) j)=kd (nth out j):=fun j=>by
   rw [ZhY hi]
   split
   ·rename_i e;subst e;exact hk.symm
   ·rfl
  refine ⟨by have:=h.len;simp;omega,fun j hj=> ?_,fun q v hq=> ?_,fun j hj=> ?_,fun j hj=> ?_⟩
  ·rw [key];exact h.at1 j (by simpa using hj)
  ·obtain ⟨j,h1,h2,h3⟩:=h.at2 q v hq;exact ⟨j,by simpa using h1,h2,by rw [key];exact h3⟩
  ·simp only [List.length_set] at hj;rw [ZhY hi]
   split
   ·rename_i e;subst e;refine ⟨k,by omega,rfl,fun p hp2 he=> ?_⟩;rcases Nat.lt_succ_iff_lt_or_eq.1 hp2 with h5 | rfl
    ·obtain ⟨j,h6,h7,h8⟩:=h.bst i hi;have:=h8 p h5 (he.trans hk.symm)
     left;omega
    ·exact .inr ⟨rfl,Nat.le_refl _⟩
   ·rename_i e;obtain ⟨p,h2,h3,h4⟩:=h.bst j hj;refine ⟨p,by omega,h3,fun p' hp' he=> ?_⟩;rcases Nat.lt_succ_iff_lt_or_eq.1 hp' with h5 | rfl
    ·exact h4 p' h5 he
    ·exact absurd (hun j hj he.symm).symm e
  ·rcases Nat.lt_succ_iff_lt_or_eq.1 hj with h5 | rfl
   ·obtain ⟨p,h6,h7⟩:=h.all j h5;exact ⟨p,by simpa using h6,by rw [key];exact h7⟩
   ·exact ⟨i,by simpa using hi,by rw [key];exact hk⟩
 ·rename_i hp;refine ⟨by have:=h.len;omega,h.at1,h.at2,fun j hj=> ?_,fun j hj=> ?_⟩
  ·obtain ⟨p,h2,h3,h4⟩:=h.bst j hj;refine ⟨p,by omega,h3,fun p' hp' he=> ?_⟩;rcases Nat.lt_succ_iff_lt_or_eq.1 hp' with h5 | rfl
   ·exact h4 p' h5 he
   ·have:=hun j hj he.symm;subst this;omega
  ·rcases Nat.lt_succ_iff_lt_or_eq.1 hj with h5 | rfl
   ·exact h.all j h5
   ·exact ⟨i,hi,hk⟩
structure Cheap (l ys:List Col):Prop where
 asc:ys.Pairwise fun a b=>cfK a b<0
 bst: ∀d∈ys,Bst l l.length d
 all: ∀c∈l,∃d∈ys,kd d=kd c
theorem Znm {l:List Col} {m:List (Kd×Int)} {out ys:List Col} (h:Chp l l.length m out) (hp:ys.Perm out) (ha:ys.Pairwise fun a b=> ¬cfK b a<0):Cheap l ys:=by
 have hnd:out.Pairwise fun a b=>kd a≠kd b:=by
  rw [List.pairwise_iff_getElem];intro i j hi hj hij e;have h1:=h.at1 i hi;have h2:=h.at1 j hj;rw [Zd hi] at h1;rw [Zd hj] at h2;rw [e,h2] at h1;simp at h1;omega
 have hnd2:ys.Pairwise fun a b=>kd a≠kd b:=(hp.pairwise_iff fun h e=>h e.symm).2 hnd;refine ⟨(hnd2.and ha).imp fun {a b} hh=> ?_,fun d hd=> ?_,fun c hc=> ?_⟩
 ·rw [U2] at hh ⊢;have: ¬(a.typ=b.typ/\a.set=b.set):=fun e=>hh.1 (by simp [kd,e.1,e.2]);omega
 ·obtain ⟨i,hi,rfl⟩:=List.mem_iff_getElem.1 (hp.mem_iff.1 hd);rw [<- Zd hi];exact h.bst i hi
 ·obtain ⟨j,hj,rfl⟩:=List.mem_iff_getElem.1 hc;obtain ⟨i,hi,e⟩:=h.all j hj;exact ⟨nth out i,hp.mem_iff.2 (Zn hi),by rw [e,Zd hj]⟩
theorem Ze8 (l:List Col) (c:Bool) (hl:l.length<=8192):ACalls Tryz.prog 83 [.p (.list c (l.map XT))] [] fun y H'=> ∃ys:List Col,(Cheap l ys/\ys.length<=l.length)/\y= .p (.list false (ys.map XT))/\H'= []:=by
 refine Zc [15] Tryz.func83 rfl Zz6 ?_;simp (disch:=omega) only [Tryz.f83,go_sem,seval];refine Zg [3,11,12] (fun q:Nat×List (Kd×Int)×List Col=> [(4,.sl 1 0 q.2.2.length q.2.2.length),(13,.p (.int .i64 q.1))]) (fun q=> [.map (q.2.1.map (eKI eKd)),.elems 7 (q.2.2.map XT)]) (fun q=>q.1<=l.length/\Chp l q.1 q.2.1 q.2.2) (fun q=>l.length-q.1) (0,[],[]) ⟨by simp,Zi4 l⟩ (Weak.ofNil 4 7 (by simp (disch:=omega) only [go_sem,seval]) (by simp) (Weak.mk ?_)) ?_
 ·simp (disch:=omega) only [List.map_nil,List.length_nil,go_sem,seval]
 ·rintro ⟨k,m,out⟩ ⟨hk,hC⟩;simp only at hk hC;have hol:=hC.len;simp (disch:=omega) only [go_sem,seval];refine cD ?_ ?_<;>intro h1<;>simp (disch:=omega) only [Sh.out h1,go_sem,seval]
  ·have hk2:k<l.length:=by omega
   refine ZkL (l:=m) (k:=kd (nth l k)) Zmj (fun _ _=>trivial) trivial (by rfl) ?_;simp (disch:=omega) only [go_sem,seval]
   cases hq:mq m (kd (nth l k)) with
   | none =>
    simp (disch:=omega) only [hq,Option.isSome_none,Option.getD_none,go_sem,seval];refine Zdx (l:=m) (k:=kd (nth l k)) Zmj (fun _ _=>trivial) trivial (by rfl) fun m' hm' _=> ?_;simp (disch:=omega) only [List.set_cons_zero,go_sem,seval];exact ⟨(k+1,m',out++ [nth l k]),⟨by simp only;omega,Znu hC hq hm'⟩,by simp only;omega,Weak.mk (by simp (disch:=omega) only [List.map_append,List.map_cons,List.map_nil,List.length_append,List.length_cons,List.length_nil,Nat.zero_add,go_sem,seval])⟩
   | some v =>
    obtain ⟨i,hi,rfl,hkd⟩:=hC.at2 _ _ hq;have hold:=Zmm hC hi hkd;simp (disch:=omega) only [hq,Option.isSome_some,Option.getD_some,go_sem,seval];refine Zh mixed (by kernel_rfl) (by kernel_rfl) ?_;simp (disch:=first | omega | (simp only [List.length_cons,List.length_nil,List.length_append,List.length_map,List.length_take,List.length_drop]<;>omega)) only [Z2 hi,hi,go_sem,seval];refine cD ?_ ?_<;>intro h2<;>simp (disch:=omega) only [Sh.out h2,go_sem,seval]
    ·rw [if_pos h2] at hold;simp (disch:=first | omega | (simp only [List.length_cons,List.length_nil,List.length_append,List.length_map,List.length_take,List.length_drop]<;>omega)) only [Z2 hi,hi,go_sem,seval];exact ⟨(k+1,m,out.set i (nth l k)),⟨by simp only;omega,hold⟩,by simp only;omega,Weak.mk (by simp (disch:=omega) only [List.map_set,List.length_set,go_sem,seval])⟩
    ·rw [if_neg h2] at hold;exact ⟨(k+1,m,out),⟨by simp only;omega,hold⟩,by simp only;omega,wk⟩
  ·have hkl:k=l.length:=by omega
   subst hkl;refine (ZnR out (by omega) (H:=_) (o:=1) rfl).mono ?_;rintro y H' ⟨rfl,ys,g1,g2,rfl⟩;have hyl:ys.length=out.length:=g1.length_eq;simp (disch:=omega) only [List.set_cons_succ,List.set_cons_zero,go_sem,seval];rw [<- hyl];refine Zm (Weak.fz (o:=1) (by rfl)) ?_;refine Zb [] _ _ _ _ ?_;simp (disch:=omega) only [List.map_cons,List.map_nil,List.set_cons_succ,List.set_cons_zero,go_sem,seval];exact ⟨.p (.list false (ys.map XT)),[],wk,ys,⟨Znm hC g1 g2,by omega⟩,rfl,rfl⟩
def Xn (x:Inst):Nat->Nat
 | 0=>0
 | i+1=>if (nth x.orders i).off=true then Xn x i else Xn x i|||pw i
theorem Zed (x:Inst): ∀i,Xn x i<2^i
 | 0=>by simp [Xn]
 | i+1=>by
  have:=Zed x i
  have h:2^(i+1)=2*2^i:=by rw [Nat.pow_succ,Nat.mul_comm]
  rw [Xn]
  split
  ·omega
  ·exact Nat.or_lt_two_pow (by omega) (by rw [pw];omega)
theorem Wb (x:Inst): ∀(n i:Nat),(Xn x n).testBit i=(decide (i<n)&& !(nth x.orders i).off)
 | 0,i=>by simp [Xn]
 | n+1,i=>by
  rw [Xn]
  split
  ·rename_i h;rw [Wb x n i]
   by_cases e:i=n
   ·subst e;simp [h]
   ·have:decide (i<n+1)=decide (i<n):=by simp;omega
    rw [this]
  ·rename_i h;rw [Nat.testBit_or,Wb x n i,pw,Nat.testBit_two_pow]
   by_cases e:i=n
   ·subst e;simp at h;simp [h]
   ·have e1:decide (i<n+1)=decide (i<n):=by simp;omega
    have e2:decide (n=i)=false:=by simp;omega
    rw [e1,e2,Bool.or_false]
theorem Zvg (o:Ord):PC 128 [.p (Vt o)] (.bool true):=by
 refine Za Tryz.func128 rfl Zq9 ?_;simp (disch:=omega) only [Tryz.f128,go_sem,seval]
theorem Zux (x:Inst) (hn:x.orders.length<=10):PC 127 [.p (ZT x),.fn (.func 128) [] []] (.int .i64 ((Xn x x.orders.length:Nat):Int)):=by
 refine Zc [] Tryz.func127 rfl Zrn ?_;simp (disch:=omega) only [Tryz.f127,go_sem,seval];refine Zg [1,9,10] (fun k:Nat=> [(5,.p (.int .i64 ((Xn x k:Nat):Int))),(11,.p (.int .i64 k))]) (fun _=> [Ze x]) (fun k=>k<=x.orders.length) (fun k=>x.orders.length-k) 0 (by simp) (Weak.mk ?_) ?_
 ·have h00:((Xn x 0:Nat):Int)=0:=rfl;simp (disch:=omega) only [h00,Ze,go_sem,seval]
 ·intro k hk;simp (disch:=omega) only [Ze,go_sem,seval];refine cD ?_ ?_<;>intro h1<;>simp (disch:=omega) only [Sh.out h1,go_sem,seval]
  ·have hk2:k<x.orders.length:=by omega
   have hm:=Zed x k;have hp:2^k<=2^10:=Nat.pow_le_pow_right (by omega) (by omega);have hpw:pw k<=1024:=hp;refine gT ?_ ?_<;>intro h2<;>simp (disch:=omega) only [Sh.out h2,go_sem,seval]
   ·refine (Zvg (nth x.orders k)).use ?_;simp (disch:=omega) only [go_sem,seval]
    have ho:(nth x.orders k).off=false:=by simpa using h2
    exact ⟨k+1,by omega,by omega,Weak.mk (by simp (disch:=omega) only [Xn,ho,Bool.false_eq_true,if_false,Ze,go_sem,seval])⟩
   ·have ho:(nth x.orders k).off=true:=by simpa using h2
    exact ⟨k+1,by omega,by omega,Weak.mk (by simp (disch:=omega) only [Xn,ho,if_true,Ze,go_sem,seval])⟩
  ·have hkl:k=x.orders.length:=by omega
   subst hkl;exact we
theorem Zq3 (x:Inst) (hn:x.orders.length<=10):PC 81 [.p (ZT x)] (.int .i64 ((Xn x x.orders.length:Nat):Int)):=by
 refine Za Tryz.func81 rfl ZyK ?_;simp (disch:=omega) only [Tryz.f81,go_sem,seval];refine (Zux x hn).use ?_;simp (disch:=omega) only [go_sem,seval]
def Zno (S M:Nat):Bool:=(List.range 63).all fun i=> !S.testBit i||M.testBit i
theorem ZnC (S M:Nat) (hS:S<9223372036854775808):PC 129 [.p (.int .i64 (S:Int)),.p (.int .i64 (M:Int))] (.bool (Zno S M)):=by
 refine Za Tryz.func129 rfl ZsE ?_;simp (disch:=omega) only [Tryz.f129,go_sem,seval];have hb:=JA (S:=S) (M:=M) hS
 have hd:decide (IntKind.i64.wrap ((BitVec.ofInt 64 (S:Int)&&& ~~~BitVec.ofInt 64 (M:Int)).toNat:Int)=0)=((List.range 63).all fun i=> !S.testBit i||M.testBit i):=by
  rw [Bool.eq_iff_iff];simp only [decide_eq_true_eq];exact hb
 exact congrArg (fun b=>V.p (PV.bool b)) hd
def rightB (x:Inst) (c:Col):Bool:=decide (0<=c.typ)&&(decide (c.typ<x.types.length)&&(decide (0<c.set)&&(Zno c.set.toNat (Xn x x.orders.length)&&(decide (0<=c.price)&&decide (c.price<=18014398509481984)))))
theorem Zhl (x:Inst) (c:Col) (hs:c.set<9223372036854775808) (ht:x.types.length<=1048576):PC 82 [.p (ZT x),.p (XT c),.p (.int .i64 ((Xn x x.orders.length:Nat):Int))] (.bool (rightB x c)):=by
 refine Za Tryz.func82 rfl ZAO ?_;simp (disch:=omega) only [Tryz.f82,go_sem,seval];refine gT ?_ ?_<;>intro h1<;>simp (disch:=omega) only [Sh.out h1,go_sem,seval]
 ·refine gT ?_ ?_<;>intro h2<;>simp (disch:=omega) only [Sh.out h2,go_sem,seval]
  ·refine gT ?_ ?_<;>intro h3<;>simp (disch:=omega) only [Sh.out h3,go_sem,seval]
   ·obtain ⟨S,hS⟩: ∃S:Nat,c.set=(S:Int):=⟨c.set.toNat,by omega⟩
    have e1:rightB x c=(Zno S (Xn x x.orders.length)&&(decide (0<=c.price)&&decide (c.price<=18014398509481984))):=by
     have h3':0<(S:Int):=by omega
     simp only [rightB,h1,h2,hS,h3',decide_true,Bool.true_and,Int.toNat_natCast]
    rw [hS];refine (ZnC S (Xn x x.orders.length) (by omega)).use ?_;simp (disch:=omega) only [go_sem,seval];refine gT ?_ ?_<;>intro h4<;>simp (disch:=omega) only [Sh.out h4,go_sem,seval]
    ·refine gT ?_ ?_<;>intro h5<;>simp (disch:=omega) only [Sh.out h5,go_sem,seval]
     ·simp [e1,h4,h5]
     ·simp [e1,h5]
    ·simp [e1,h4]
   ·simp [rightB,h1,h2,h3]
  ·simp [rightB,h1,h2]
 ·simp [rightB,h1]
theorem ZEZ (n:Nat) (h0:0<n) (h:n<16):PC 89 [.p (.int .u64 n)] (.int .i64 (tzN n)):=by
 refine Za Tryz.func89 rfl ZBa ?_;simp (disch:=omega) only [Tryz.f89,go_sem,seval];refine (Zr0 n h0 h).use ?_;simp (disch:=omega) only [go_sem,seval]
theorem ZdC (n:Nat) (h0:0<n) (h:n<16):PC 55 [.p (.int .i64 n)] (.int .i64 (tzN n)):=by
 refine Za Tryz.func55 rfl Zzl ?_;simp (disch:=omega) only [Tryz.f55,go_sem,seval];refine cD ?_ ?_<;>intro h1<;>simp (disch:=omega) only [Sh.out h1,go_sem,seval]
 ·omega
 ·refine (ZEZ n h0 h).use ?_;simp (disch:=omega) only [go_sem,seval]
def skpF (x:Inst) (i:Nat):Int:=if (Yg x i).2=0/\(Xs (Yg x i).1).2=0 then (Xs (Yg x i).1).1 else-1
def X7 (ys:List Col) (i:Nat):List Col:=ys.filter fun c=>decide (tzN c.set.toNat=(i:Int))
def fstF (n:Nat) (ys:List Col):List (List Col):=(List.range n).map (X7 ys)
theorem Zh7 {ys:List Col} {k i:Nat} (h:k<ys.length):X7 (ys.take (k+1)) i=if tzN (nth ys k).set.toNat=(i:Int) then X7 (ys.take k) i++ [nth ys k] else X7 (ys.take k) i:=by
 rw [List.take_succ_eq_append_getElem h,X7,List.filter_append,<- Zd h]
 by_cases e:tzN (nth ys k).set.toNat=(i:Int)
 ·simp [e,X7]
 ·simp [e,X7]
theorem ZjL (i:Nat):X7 [] i= []:=rfl
theorem Qv (ys:List Col) (k i:Nat):(X7 (ys.take k) i).length<=ys.length:=by
 refine Nat.le_trans (List.length_filter_le _ _) ?_;simp;omega
theorem W8 (ys):fstF 0 ys= []:=rfl
theorem Vb (ys):fstF 1 ys= [X7 ys 0]:=rfl
theorem Ve (ys):fstF 2 ys= [X7 ys 0,X7 ys 1]:=rfl
theorem W7 (ys):fstF 3 ys= [X7 ys 0,X7 ys 1,X7 ys 2]:=rfl
theorem W9 (ys):fstF 4 ys= [X7 ys 0,X7 ys 1,X7 ys 2,X7 ys 3]:=rfl
def Ud : List (List Col)->Nat->List V
 | [],_=> []
 | p::P,o=> .sl o 0 p.length p.length::Ud P (o+1)
def Un (P:List (List Col)):List AM.Obj:=P.map fun p=> .elems 7 (p.map XT)
theorem Zhe {n0:Nat} {fr:List V} {a b c:AM.Obj} (h0:n0<=4) (n:Nat):Weak n0 fr [a,b,c,.cells (List.replicate n (.p (.list true [])))] fr (a::b::c:: .cells (Ud (List.replicate n []) 4)::Un (List.replicate n [])):=by
 have hr: ∀(k o:Nat),Ud (List.replicate k []) o=(List.range k).map fun j=>V.sl (o+j) 0 0 0:=fun k=>by
  induction k with
  | zero=>intro o;rfl
  | succ k ih =>
   intro o;rw [List.replicate_succ,Ud,ih,List.range_succ_eq_map,List.map_cons,List.map_map];simp only [List.length_nil,Nat.add_zero,List.cons.injEq,true_and];apply List.map_congr_left;intro j _;simp only [Function.comp]
   congr 1;omega
 have key: ∀k,k<=n->Weak n0 fr [a,b,c,.cells (List.replicate n (.p (.list true [])))] fr (a::b::c:: .cells (((List.range k).map fun j=>V.sl (4+j) 0 0 0)++List.replicate (n-k) (.p (.list true [])))::List.replicate k (.elems 7 [])):=fun k=>by
  induction k with
  | zero=>intro _;simpa using Weak.refl _ _ _
  | succ k ih =>
   intro hk
   have h1:=(ih (by omega)).trans (Weak.nilC (n0:=n0) (fr:=fr) (o:=3) (j:=k) 7 (by rfl) (by
    rw [List.getElem?_append_right (by simp)];simp only [List.length_map,List.length_range,Nat.sub_self]
    rw [List.getElem?_replicate,if_pos (by omega)]) (by simp;omega))
   have e1:List.length (a::b::c::AM.Obj.cells (((List.range k).map fun j=>V.sl (4+j) 0 0 0)++List.replicate (n-k) (.p (.list true [])))::List.replicate k (AM.Obj.elems 7 []))=4+k:=by simp;omega
   have e2:(((List.range k).map fun j=>V.sl (4+j) 0 0 0)++List.replicate (n-k) (V.p (.list true []))).set k (.sl (4+k) 0 0 0)=((List.range (k+1)).map fun j=>V.sl (4+j) 0 0 0)++List.replicate (n-(k+1)) (V.p (.list true [])):=by
    rw [List.set_append_right _ _ (by simp),show n-k=(n-(k+1))+1 by omega,List.replicate_succ,List.range_succ,List.map_append];simp
   rw [e1,List.set_cons_succ,List.set_cons_succ,List.set_cons_succ,List.set_cons_zero,e2] at h1;simpa [List.replicate_succ'] using h1
 have:=key n (Nat.le_refl _);rw [Nat.sub_self,List.replicate_zero,List.append_nil,<- hr] at this
 have e:Un (List.replicate n [])=List.replicate n (.elems 7 []):=by simp [Un]
 rw [e];exact this
def skF (x:Inst) (n:Nat):List Int:=(List.range n).map (skpF x)
def bgO (x:Inst) (m:Int) (f g:V):AM.Obj:= .cells [.p (.list x.net.places_c (x.net.places.map eS)),.p (.list x.net.arcs_c (x.net.arcs.map JU)),.p (.list x.types_c (x.types.map JY)),.p (.list x.orders_c (x.orders.map Vt)),.p (.list x.apart_c (x.apart.map eP)),.p (.list x.before_c (x.before.map eP)),f,g,.mp 1,.p (.int .i64 m)]
theorem WM {x:Inst} {c:Col} (h:rightB x c=true) (hs:c.set<9223372036854775808): ∃S:Nat,c.set=S/\0<S/\S<2^x.orders.length/\ ∀i,S.testBit i=true->i<x.orders.length/\(nth x.orders i).off=false:=by
 simp only [rightB,Bool.and_eq_true,decide_eq_true_eq] at h;obtain ⟨_,_,h3,h4,_⟩:=h
 have key: ∀i,c.set.toNat.testBit i=true->i<x.orders.length/\(nth x.orders i).off=false:=fun i hi=>by
  have h63:i<63:=by
   rcases Nat.lt_or_ge i 63 with h | h
   ·exact h
   ·have:2^63<=2^i:=Nat.pow_le_pow_right (by omega) h;rw [Nat.testBit_lt_two_pow (by omega)] at hi;cases hi
  have:=List.all_eq_true.1 h4 i (List.mem_range.2 h63);rw [hi,Wb] at this;simpa using this
 refine ⟨c.set.toNat,by omega,by omega,?_,key⟩;refine Nat.lt_pow_two_of_testBit _ fun i hi=> ?_
 cases hb:c.set.toNat.testBit i with
 | false=>rfl
 | true=>have:=(key i hb).1;omega
theorem Zt4 {S n:Nat} (h0:0<S) (h:S<2^n) (hn:n<=4):tzN S<n/\0<=tzN S:=by
 have:n=0\/n=1\/n=2\/n=3\/n=4:=by omega
 unfold tzN;rcases this with rfl | rfl | rfl | rfl | rfl<;>(repeat' split)<;>omega
theorem Zax (x:Inst) (k:Nat):skF x (k+1)=skF x k++ [skpF x k]:=by simp [skF,List.range_succ]
theorem VB (x:Inst) (k:Nat):(skF x k).length=k:=by simp [skF]
theorem Zx8 (x:Inst):skF x 0= []:=rfl
theorem Zj1 {P:Program} {ko:List Nat} {l:List Oper} {n:Nat} {rem:List Nat} {fr:List V} {H:List AM.Obj} {K:List V->List AM.Obj->Prop} (m:Nat) (Y:V) (Z:List AM.Obj) (hr:Yr l rem= [m]) (h:Zt P (ZJ l m) fr H fun y H'=>y=Y/\H'=Z)
  (k:(∀k∈ko,oat Z k=oat H k)/\Zar P ko l n (rem.erase m) (ptO fr (ZJ l m).dst Y) Z K):Zar P ko l (n+1) rem fr H K :=
 Zbx m _ hr h fun y H' hq=>by obtain ⟨rfl,rfl⟩:=hq;exact k
theorem Zco (x:Inst) (l:List Col) (lc:Bool) (hn:x.orders.length<=4) (ht:x.types.length<=1048576) (hu: ∀i:Nat,Qc 1152921504606846976 (Yg x i).1) (hs: ∀c∈l,c.set<9223372036854775808) (hl:l.length<=1048576) :
  ACalls Tryz.prog 49 [.p (ZT x),.p (.list lc (l.map XT))] [] fun y H'=>(8192<l.length/\y= .tup [.p .nilp,.p (.int .i64 4)]/\H'= [])\/(l.length<=8192/\(∃c∈l,rightB x c=false)/\y= .tup [.p .nilp,.p (.int .i64 2)]/\H'= []) \/
   (l.length<=8192/\(∀c∈l,rightB x c=true)/\ ∃ys,(Cheap l ys/\ys.length<=l.length)/\y= .tup [.ptr 2 0,.p (.int .i64 0)]/\H'= .cells (List.replicate 6 .junk)::(Xr x (.list false ((fstF x.orders.length ys).map Ya)) (.list false ((skF x x.orders.length).map eI)) (Xn x x.orders.length) []).map (shO 1)):=by
 refine Zc [10] Tryz.func49 rfl ZyF ?_;simp (disch:=omega) only [Tryz.f49,go_sem,seval];refine cD ?_ ?_<;>intro h0<;>simp (disch:=omega) only [Sh.out h0,go_sem,seval]
 ·exact ⟨_,[],wk,.inl ⟨by omega,rfl,rfl⟩⟩
 ·refine Xo [1] 4 mixed (by kernel_rfl) (by kernel_rfl) (by kernel_rfl) (by simp) ?_;simp (disch:=omega) only [go_sem,seval];refine Zk (Zq3 x (by omega)) ?_;simp (disch:=omega) only [go_sem,seval];refine ZG 1 _ _ (by kernel_rfl) (by simp (disch:=omega) only [go_sem,seval];exact ⟨rfl,rfl⟩) (XV ?_);simp (disch:=omega) only [show ∀(l:List V),J6 (V.mp 1::l)=none from fun _=>rfl,Option.map_none,go_sem,seval];refine Zg [1,2,6,27,28] (fun k:Nat=> [(29,.p (.int .i64 k))]) (fun _=> [Ze x,.map [],bgO x ((Xn x x.orders.length:Nat):Int) (.p (.list true [])) (.p (.list true []))]) (fun k=>k<=l.length/\ ∀j,j<k->rightB x (nth l j)=true) (fun k=>l.length-k) 0 ⟨by omega,fun j hj=>by omega⟩ (Weak.mk ?_) ?_
  ·simp (disch:=omega) only [Ze,bgO,go_sem,seval]
  ·rintro k ⟨hk,hr⟩;simp (disch:=omega) only [Ze,bgO,go_sem,seval];refine cD ?_ ?_<;>intro h1<;>simp (disch:=omega) only [Sh.out h1,go_sem,seval]
   ·have hk2:k<l.length:=by omega
    refine Zh mixed (by kernel_rfl) (by kernel_rfl) ?_;simp (disch:=omega) only [go_sem,seval];refine Zk (Zhl x (nth l k) (hs _ (Zn hk2)) ht) ?_;simp (disch:=omega) only [go_sem,seval]
    cases hq:rightB x (nth l k) with
    | false =>
     simp (disch:=omega) only [Bool.not_false,go_sem,seval];exact ⟨_,[],wk,.inr (.inl ⟨by omega,⟨_,Zn hk2,hq⟩,rfl,rfl⟩)⟩
    | true =>
     simp (disch:=omega) only [Bool.not_true,go_sem,seval]
     exact ⟨k+1,⟨by omega,fun j hj=>by
      rcases Nat.lt_succ_iff_lt_or_eq.1 hj with h | rfl
      ·exact hr j h
      ·exact hq⟩,by omega,Weak.mk (by simp (disch:=omega) only [Ze,bgO,go_sem,seval])⟩
   ·have hkl:k=l.length:=by omega
    subst hkl
    have hall: ∀c∈l,rightB x c=true:=fun c hc=>by
     obtain ⟨j,hj,rfl⟩:=List.mem_iff_getElem.1 hc;rw [<- Zd hj];exact hr j hj
    clear hr hk h1;generalize ((Xn x x.orders.length:Nat):Int)=m;have hun: ∀i:Nat,PT 64 [.p (ZT x),.p (.int .i64 i)] [.p (ZfF (Yg x i).1),.p (.int .i64 (Yg x i).2)]:=fun i=>QK x i (by omega);refine XC (ZgG 4 rfl rfl ?_);simp (disch:=omega) only [go_sem,seval];refine ⟨_,_,Zf1 145 52 _ _ x.orders.length 24 (.list true []) rfl (by kernel_rfl) (by kernel_rfl) (by kernel_rfl) (by kernel_rfl) (by rfl) (by omega) (by omega) (by simp (disch:=omega) only [go_sem,seval]) (by simp (disch:=omega) only [go_sem,seval]),?_⟩
    simp (disch:=omega) only [go_sem,seval]
    have h5:x.orders.length=0\/x.orders.length=1\/x.orders.length=2\/x.orders.length=3\/x.orders.length=4:=by omega
    refine Zm (Zhe (by simp) x.orders.length) ?_;refine Zb [17] _ _ _ _ ?_;simp (disch:=omega) only [go_sem,seval];refine (Ze8 l lc (by omega)).useV fun ys hC=> ?_;simp (disch:=omega) only [go_sem,seval];obtain ⟨hC,hyl⟩:=hC;rcases h5 with h5 | h5 | h5 | h5 | h5
    all_goals
     simp (disch:=omega) only [h5,List.replicate,Ud,Un,List.map_cons,List.map_nil,go_sem,seval];refine Zg [2,6,50,51] (fun k:Nat=> [(52,.p (.int .i64 k))]) (fun k=> [Ze x,.map [],bgO x m (.sl 3 0 x.orders.length x.orders.length) (.p (.list true [])),.cells (Ud (fstF x.orders.length (ys.take k)) 4)]++Un (fstF x.orders.length (ys.take k))) (fun k=>k<=ys.length) (fun k=>ys.length-k) 0 (by omega) (Weak.mk ?_) ?_
     ·simp (disch:=omega) only [h5,List.take_zero,ZjL,List.length_nil,W8,Vb,Ve,W7,W9,Ud,Un,List.map_cons,List.map_nil,List.cons_append,List.nil_append,Ze,bgO,go_sem,seval]
     ·intro k hk;simp (disch:=omega) only [h5,W8,Vb,Ve,W7,W9,Ud,Un,List.map_cons,List.map_nil,List.cons_append,List.nil_append,Ze,bgO,go_sem,seval];refine cD ?_ ?_<;>intro h1<;>simp (disch:=omega) only [Sh.out h1,go_sem,seval]
      ·have hk2:k<ys.length:=by omega
       obtain ⟨j,hj,hjl,_⟩:=hC.bst _ (Zn hk2)
       have hmem:nth ys k∈l:=by rw [<- hjl];exact Zn hj
       obtain ⟨S,hS,hS0,hS1,hS2⟩:=WM (hall _ hmem) (hs _ hmem);have hlt:=Zt4 hS0 hS1 hn;have h16:S<16:=Nat.lt_of_lt_of_le hS1 (by rw [h5];decide)
       have cl:PC 55 [.p (.int .i64 (nth ys k).set)] (.int .i64 (tzN (nth ys k).set.toNat)):=by
        rw [hS];exact ZdC S hS0 h16
       refine (cl).use ?_;simp (disch:=omega) only [go_sem,seval]
       have htz:tzN (nth ys k).set.toNat=tzN S:=by rw [hS];rfl
       have hi:tzN (nth ys k).set.toNat=0\/tzN (nth ys k).set.toNat=1\/tzN (nth ys k).set.toNat=2\/tzN (nth ys k).set.toNat=3:=by omega
       rcases hi with hi | hi | hi | hi
       all_goals try omega
       all_goals
        simp (disch:=omega) only [hi,go_sem,seval];refine Km [14] [1,2,3] [2] 15 mixed (by kernel_rfl) (by kernel_rfl) (by kernel_rfl) (by kernel_rfl) (by simp) ?_;simp (disch:=omega) only [go_sem,seval];refine ⟨fun q hq p' hp=> ?_,?_⟩
        ·simp only [List.mem_cons,List.not_mem_nil,or_false] at hq;rcases hq with rfl | rfl | rfl
         ·obtain rfl:59=p':=Option.some.inj hp;exact WE (by decide)
         ·obtain rfl:60=p':=Option.some.inj hp;exact WE (by decide)
         ·obtain rfl:61=p':=Option.some.inj hp;exact WE (by decide)
        ·have q0:=Qv ys k 0;have q1:=Qv ys k 1;have q2:=Qv ys k 2;have q3:=Qv ys k 3;refine Zj1 14 _ _ (by kernel_rfl) (by simp (disch:=omega) only [go_sem,seval];exact ⟨rfl,rfl⟩) ?_;refine ⟨fun k hk=>by simp at hk;subst hk;rfl,Zgr ?_⟩;simp (disch:=omega) only [List.set_cons_succ,List.set_cons_zero,go_sem,seval];exact ⟨k+1,by omega,by omega,Weak.mk (by simp (disch:=omega) only [h5,Zh7 hk2,hi,List.map_append,List.length_append,List.length_cons,List.length_nil,Nat.zero_add,W8,Vb,Ve,W7,W9,Ud,Un,List.map_cons,List.map_nil,List.cons_append,List.nil_append,Ze,bgO,go_sem,seval])⟩
      ·have hkl:k=ys.length:=by omega
       subst hkl;clear hk h1
       try refine Zm (Weak.fz (o:=4) (by rfl)) ?_
       try refine Zm (Weak.fz (o:=5) (by rfl)) ?_
       try refine Zm (Weak.fz (o:=6) (by rfl)) ?_
       try refine Zm (Weak.fz (o:=7) (by rfl)) ?_
       refine Zb [17] _ _ _ _ ?_;simp (disch:=omega) only [List.take_length,List.map_cons,List.map_nil,List.set_cons_succ,List.set_cons_zero,List.length_map,eq_self,if_true,go_sem,seval];refine Zm (Weak.fzC (o:=3) (ys:=(fstF x.orders.length ys).map Ya) (by rw [h5];rfl) (fun y hy=>by obtain ⟨p,_,rfl⟩:=List.mem_map.1 hy;rfl)) ?_;refine Zb [17] _ _ _ _ ?_;simp (disch:=omega) only [h5,W8,Vb,Ve,W7,W9,List.map_cons,List.map_nil,List.set_cons_succ,List.set_cons_zero,List.length_cons,List.length_nil,Nat.zero_add,Nat.reduceAdd,eq_self,if_true,go_sem,seval]
       refine Zb [28] _ _ _ _ ?_;simp (disch:=omega) only [go_sem,seval];refine Zg [2,6,78] (fun k:Nat=> [(79,.p (.int .i64 k))]) (fun k=> [Ze x,.map [],bgO x m (.p (.list false ((fstF x.orders.length ys).map Ya))) (.sl (4+x.orders.length) 0 k k),.dead]++List.replicate x.orders.length .dead++ [.elems 1 ((skF x k).map eI)]) (fun k=>k<=x.orders.length) (fun k=>x.orders.length-k) 0 (by omega) ((Weak.nilC (o:=2) (j:=7) 1 (by rfl) (by rfl) (by simp)).trans (Weak.mk ?_)) ?_
       ·simp (disch:=omega) only [h5,Zx8,List.replicate,List.set_cons_succ,List.set_cons_zero,List.length_cons,List.length_nil,Nat.zero_add,Nat.reduceAdd,W8,Vb,Ve,W7,W9,Ud,Un,List.map_cons,List.map_nil,List.cons_append,List.nil_append,Ze,bgO,go_sem,seval]
       ·intro k hk;simp (disch:=omega) only [h5,List.replicate,Nat.reduceAdd,W8,Vb,Ve,W7,W9,Ud,Un,List.map_cons,List.map_nil,List.cons_append,List.nil_append,Ze,bgO,go_sem,seval];refine cD ?_ ?_<;>intro h1<;>simp (disch:=omega) only [Sh.out h1,go_sem,seval]
        ·have hk2:k<x.orders.length:=by omega
         refine ZcP (hun k) ?_;simp (disch:=omega) only [go_sem,seval];refine cD ?_ ?_<;>intro h2<;>simp (disch:=omega) only [Sh.out h2,go_sem,seval]
         ·refine ZcP (JI _ (hu k)) ?_;simp (disch:=omega) only [go_sem,seval];refine cD ?_ ?_<;>intro h3<;>simp (disch:=omega) only [Sh.out h3,go_sem,seval]
          ·have hsk:skpF x k=(Xs (Yg x k).1).1:=by simp [skpF,h2,h3]
           simp (disch:=omega) only [VB,List.length_map,go_sem,seval];rw [if_pos ⟨by omega,by omega⟩];simp (disch:=omega) only [List.set_cons_succ,List.set_cons_zero,VB,List.length_map,List.length_append,List.length_cons,List.length_nil,Nat.zero_add,eq_self,decide_true,if_true,go_sem,seval];exact ⟨k+1,by omega,by omega,Weak.mk (by simp (disch:=omega) only [h5,Zax,hsk,List.map_append,List.replicate,Nat.reduceAdd,List.set_cons_succ,List.set_cons_zero,W8,Vb,Ve,W7,W9,Ud,Un,List.map_cons,List.map_nil,List.cons_append,List.nil_append,Ze,bgO,go_sem,seval])⟩
          ·have hsk:skpF x k= -1:=by simp [skpF,h3]
           simp (disch:=omega) only [VB,List.length_map,go_sem,seval];rw [if_pos ⟨by omega,by omega⟩];simp (disch:=omega) only [List.set_cons_succ,List.set_cons_zero,VB,List.length_map,List.length_append,List.length_cons,List.length_nil,Nat.zero_add,eq_self,decide_true,if_true,go_sem,seval];exact ⟨k+1,by omega,by omega,Weak.mk (by simp (disch:=omega) only [h5,Zax,hsk,List.map_append,List.replicate,Nat.reduceAdd,List.set_cons_succ,List.set_cons_zero,W8,Vb,Ve,W7,W9,Ud,Un,List.map_cons,List.map_nil,List.cons_append,List.nil_append,Ze,bgO,go_sem,seval])⟩
         ·have hsk:skpF x k= -1:=by simp [skpF,h2]
          simp (disch:=omega) only [VB,List.length_map,go_sem,seval];rw [if_pos ⟨by omega,by omega⟩];simp (disch:=omega) only [List.set_cons_succ,List.set_cons_zero,VB,List.length_map,List.length_append,List.length_cons,List.length_nil,Nat.zero_add,eq_self,decide_true,if_true,go_sem,seval];exact ⟨k+1,by omega,by omega,Weak.mk (by simp (disch:=omega) only [h5,Zax,hsk,List.map_append,List.replicate,Nat.reduceAdd,List.set_cons_succ,List.set_cons_zero,W8,Vb,Ve,W7,W9,Ud,Un,List.map_cons,List.map_nil,List.cons_append,List.nil_append,Ze,bgO,go_sem,seval])⟩
        ·have hkl:k=x.orders.length:=by omega
         clear hk h1;refine Zm (Weak.fz (o:=4+x.orders.length) (S:=1) (xs:=(skF x k).map eI) (by rw [h5];rfl)) ?_;refine Zb [] _ _ _ _ ?_;simp (disch:=omega) only [h5,List.map_cons,List.map_nil,List.set_cons_succ,List.set_cons_zero,List.length_map,VB,Nat.zero_add,Nat.reduceAdd,eq_self,if_true,go_sem,seval];exact ⟨.tup [.ptr 2 0,.p (.int .i64 0)],_,Weak.mk (by simp (disch:=omega) only [hkl,h5,Xr,X6,shO,shVs,shV,List.replicate,W8,Vb,Ve,W7,W9,List.map_cons,List.map_nil,go_sem,seval]),.inr (.inr ⟨by omega,hall,ys,⟨hC,hyl⟩,rfl,rfl⟩)⟩
theorem ZqT : ∀S:Fin 16,0<S.val->sHas (S.val:Int) (tzN S.val)=true:=by decide+kernel
theorem ZkN {x:Inst} (hx:InstOk x) (i:Nat): -1<=skpF x i/\skpF x i<=18014398509481984:=by
 unfold skpF
 split
 ·rename_i h
  have hm:(Yg x i).1.cost<=1000000/\(Yg x i).1.moved<=1/\0<=(Yg x i).1.moved/\(Yg x i).1.other=0/\(Yg x i).1.work=0:=by
   unfold Yg
   split
   ·simp [zSco]
   ·split
    ·simp [zSco]
    ·split
     ·simp [zSco]
     ·have ha:=(hx.orders.2 (i:Int).toNat (by omega)).arg;simp only [argOk,rng,Bool.and_eq_true,decide_eq_true_eq] at ha;refine ⟨by simp only;omega,by simp only;split<;>omega,by simp only;split<;>omega,rfl,rfl⟩
  obtain ⟨_,h2⟩:=h;unfold Xs at h2 ⊢
  split at h2
  ·cases h2
  ·rename_i g1
   split at h2
   ·cases h2
   ·rename_i g2;rw [if_neg g1,if_neg g2];simp only;omega
 ·omega
theorem Zc3 {x:Inst} {l ys:List Col} (hx:InstOk x) (hn:x.orders.length<=4) (hC:Cheap l ys) (hr: ∀c∈l,rightB x c=true) (hs: ∀c∈l,c.set<9223372036854775808):ChOk x.orders.length x (fstF x.orders.length ys) (skF x x.orders.length):=by
 refine ⟨fun i hi c hc=> ?_,?_,fun i hi=> ?_⟩
 ·have e:nth (fstF x.orders.length ys) i=X7 ys i:=by
   rw [fstF,Zd (by simpa using hi)];simp
  rw [e,X7,List.mem_filter] at hc;obtain ⟨h1,h2⟩:=hc;simp only [decide_eq_true_eq] at h2;obtain ⟨j,hj,hjl,_⟩:=hC.bst c h1
  have hm:c∈l:=by rw [<- hjl];exact Zn hj
  obtain ⟨S,q1,q2,q3,_⟩:=WM (hr c hm) (hs c hm);have h16:S<16:=Nat.lt_of_lt_of_le q3 (Nat.pow_le_pow_right (n:=2) (by omega) hn);have hb:=ZqT ⟨S,h16⟩ q2;have hr1:=hr c hm;simp only [rightB,Bool.and_eq_true,decide_eq_true_eq] at hr1;refine ⟨⟨hr1.1,hr1.2.1⟩,⟨S,q1,by omega⟩,?_,hr1.2.2.2.2.1,hr1.2.2.2.2.2⟩;rw [q1,Int.toNat_natCast] at h2;rw [q1,<- h2];exact hb
 ·have ht:=hx.types;simp only [typesOk,rng,Bool.and_eq_true,decide_eq_true_eq] at ht;refine ⟨by omega,fun t _=> ?_⟩;rcases Nat.lt_or_ge t x.types.length with h | h
  ·have:=ht.2 t h;unfold K6 at this;have:=this.1.1.1.1.1.1.2;simp only [rng,Bool.and_eq_true,decide_eq_true_eq] at this;omega
  ·rw [show nth x.types t=default from by simp [nth,List.getD_eq_getElem?_getD,List.getElem?_eq_none h]]
   decide
 ·rw [skF,Zd (by simpa using hi)];simpa using ZkN hx i
def zSt : St:=⟨0,0,[0,0,0,0,0,0]⟩
def Zak (x:Inst) (ys:List Col):Int:=Wt x.orders.length ((Xn x x.orders.length:Nat):Int) x (fstF x.orders.length ys) (skF x x.orders.length) 20 (Vi x.orders.length ((Xn x x.orders.length:Nat):Int) zSt)
theorem Zow (n:Nat):StV n zSt:=⟨rfl,⟨by decide,by simp [zSt]⟩,⟨0,rfl,by omega⟩,fun j hj=>by
 have:nth zSt.used j=0:=by
  have:j=0\/j=1\/j=2\/j=3\/j=4\/j=5:=by omega
  rcases this with rfl | rfl | rfl | rfl | rfl | rfl<;>rfl
 omega⟩
theorem ZkB (x:Inst) (l:List Col) (lc:Bool) (hx:InstOk x) (hn:x.orders.length<=4) (ht:x.types.length<=1048576) (hs: ∀c∈l,c.set<9223372036854775808) (hl:l.length<=1048576) :
  ACalls Tryz.prog 18 [.p (ZT x),.p (.list lc (l.map XT))] [] fun y H'=>H'= []/\((8192<l.length/\y= .tup [.p (.int .i64 0),.p (.int .i64 4)])\/(l.length<=8192/\(∃c∈l,rightB x c=false)/\y= .tup [.p (.int .i64 0),.p (.int .i64 2)]) \/
   (l.length<=8192/\(∀c∈l,rightB x c=true)/\ ∃ys,Cheap l ys/\ys.length<=l.length/\y= .tup [.p (.int .i64 (if Zak x ys<0 then 0 else Zak x ys)),.p (.int .i64 (if Zak x ys<0 then 24 else 0))])):=by
 refine Zc [] Tryz.func18 rfl ZyP ?_;simp (disch:=omega) only [Tryz.f18,go_sem,seval];refine ((Zco x l lc hn ht (fun i=>Xx (by omega) (QE hx _)) hs hl).behind (by rfl) _).mono ?_;rintro y H' ⟨y1,H1,hq,rfl,rfl⟩;rcases hq with ⟨h1,rfl,rfl⟩ | ⟨h1,h2,rfl,rfl⟩ | ⟨h1,h2,ys,⟨hC,hyl⟩,rfl,rfl⟩
 ·simp (disch:=omega) only [shV,shVs,List.map_nil,go_sem,seval];exact ⟨_,[],wk,rfl,.inl ⟨h1,rfl⟩⟩
 ·simp (disch:=omega) only [shV,shVs,List.map_nil,go_sem,seval];exact ⟨_,[],wk,rfl,.inr (.inl ⟨h1,h2,rfl⟩)⟩
 ·simp (disch:=omega) only [shV,shVs,shO,Xr,X6,List.map_cons,List.map_nil,List.replicate,go_sem,seval];have hok:=Zc3 hx hn hC h2 hs;obtain ⟨m,hm⟩: ∃m:Int,m=((Xn x x.orders.length:Nat):Int):=⟨_,rfl⟩;obtain ⟨B,hB⟩: ∃B,B=Zak x ys:=⟨_,rfl⟩;rw [<- hm];refine ACalls.mono ((QB x (.list false ((fstF x.orders.length ys).map Ya)) (.list false ((skF x x.orders.length).map eI)) m [] zSt rfl (by decide) (by omega) (by decide)).back [Ze x,.cells (List.replicate 6 .junk)] (by rfl)) ?_;rintro y H' ⟨y1,H1,⟨rfl,rfl⟩,rfl,rfl⟩;obtain ⟨v1,_⟩:=Zbd (m:=m) (Zow x.orders.length)
  have hrg:=Yd (m:=m) hok 20 _ v1
  have hbb:B=Wt x.orders.length m x (fstF x.orders.length ys) (skF x x.orders.length) 20 (Vi x.orders.length m zSt):=by rw [hB,Zak,hm]
  rw [<- hbb] at hrg;obtain ⟨i,w,b0,b1,b2,b3,b4,b5,hw⟩:=Xj v1.len;rw [hw] at hbb v1 ⊢;simp (disch:=omega) only [shV,shVs,shO,Xr,X6,stO,List.map_cons,List.map_nil,List.replicate,List.cons_append,List.nil_append,go_sem,seval]
  refine ACalls.mono ((QM x (fstF x.orders.length ys) (skF x x.orders.length) false false m (by omega) (by simp [fstF]) (by simp [skF]) hok (fun r hr=>by
   obtain ⟨p,_,rfl⟩:=List.mem_map.1 hr;have:=List.length_filter_le (fun c:Col=>decide (tzN c.set.toNat=(p:Int))) ys
   simp only [X7];omega) 20 _ [] (by omega) v1 (by have:=v1.ix;simp only at this ⊢;omega) (fun p hp=>by simp at hp)).back [Ze x,.cells (List.replicate 6 .junk)] (by rfl)) ?_
  rintro y H' ⟨y1,H1,⟨l',hl',rfl,rfl⟩,rfl,rfl⟩;rw [<- hbb];simp (disch:=omega) only [shV,shVs,shO,Xr,X6,stO,List.map_cons,List.map_nil,List.replicate,List.cons_append,List.nil_append,go_sem,seval];refine cD ?_ ?_<;>intro h3<;>simp (disch:=omega) only [Sh.out h3,go_sem,seval]
  ·exact ⟨.tup [.p (.int .i64 0),.p (.int .i64 24)],[],wk,rfl,.inr (.inr ⟨h1,h2,ys,hC,hyl,by rw [<- hB,if_pos h3,if_pos h3]⟩)⟩
  ·exact ⟨.tup [.p (.int .i64 B),.p (.int .i64 0)],[],wk,rfl,.inr (.inr ⟨h1,h2,ys,hC,hyl,by rw [<- hB,if_neg h3,if_neg h3]⟩)⟩
theorem Kx {α:Type} {r:α->α->Prop} (irr: ∀a,¬r a a) (asy: ∀a b,r a b-> ¬r b a): ∀ {l l':List α},l.Pairwise r->l'.Pairwise r->(∀a,a∈l↔a∈l')->l=l'
 | [],[],_,_,_=>rfl
 | [],b::_,_,_,h=>by have:=(h b).2 (by simp);simp at this
 | a::_,[],_,_,h=>by have:=(h a).1 (by simp);simp at this
 | a::l,b::l',h1,h2,h=>by
  rw [List.pairwise_cons] at h1 h2
  have hab:a=b:=by
   rcases List.mem_cons.1 ((h a).1 (by simp)) with e | e
   ·exact e
   ·rcases List.mem_cons.1 ((h b).2 (by simp)) with e' | e'
    ·exact e'.symm
    ·exact absurd (h1.1 b e') (asy _ _ (h2.1 a e))
  subst hab
  rw [Kx irr asy h1.2 h2.2 fun c=>⟨fun hc=>by
   rcases List.mem_cons.1 ((h c).1 (List.mem_cons_of_mem _ hc)) with e | e
   ·subst e;exact absurd (h1.1 c hc) (irr c)
   ·exact e,fun hc=>by
   rcases List.mem_cons.1 ((h c).2 (List.mem_cons_of_mem _ hc)) with e | e
   ·subst e;exact absurd (h2.1 c hc) (irr c)
   ·exact e⟩]
theorem Zi2 {l ys:List Col} (h:Cheap l ys) {c:Col} (hc:c∈l): ∃d∈ys,kd d=kd c/\d.price<=c.price:=by
 obtain ⟨d,hd,e⟩:=h.all c hc;obtain ⟨j,hj,rfl⟩:=List.mem_iff_getElem.1 hc;obtain ⟨i,hi,_,h3⟩:=h.bst d hd;have:=h3 j hj (by rw [Zd hj];exact e.symm);rw [Zd hj] at this;exact ⟨d,hd,e,by omega⟩
theorem ZaK {l ys:List Col} (h:Cheap l ys) {d:Col} (hd:d∈ys):d∈l:=by
 obtain ⟨j,hj,e,_⟩:=h.bst d hd;rw [<- e];exact Zn hj
theorem ZeF {n i:Nat} {ys:List Col} :nth (fstF n ys) i=if i<n then X7 ys i else []:=by
 split
 ·rename_i h;rw [fstF,Zd (by simpa using h)];simp
 ·rename_i h;rw [nth,List.getD_eq_getElem?_getD,List.getElem?_eq_none (by simp [fstF];omega)];rfl
def leP (a b:Int):Prop:=b<0\/(0<=a/\a<=b)
theorem Zhf {x:Inst} {s:St} {r:Col->Int} (hr: ∀c,-1<=r c): ∀ {l:List Col} {a:Int},(∀c∈l,0<=c.price) ->
  leP (l.foldl (fun o c=>if YG x s c=true then We o c.price (r c) else o) a) a/\ ∀c∈l,YG x s c=true->0<=r c->leP (l.foldl (fun o c=>if YG x s c=true then We o c.price (r c) else o) a) (c.price+r c)
 | [],a,_=>⟨by unfold leP;simp;omega,fun c hc=>by simp at hc⟩
 | d::l,a,hp=>by
  have hd:=hp d (by simp);obtain ⟨g1,g2⟩:=Zhf (x:=x) (s:=s) hr (l:=l) (a:=if YG x s d=true then We a d.price (r d) else a) fun c hc=>hp c (List.mem_cons_of_mem _ hc);rw [List.foldl_cons];generalize l.foldl (fun o c=>if YG x s c=true then We o c.price (r c) else o) (if YG x s d=true then We a d.price (r d) else a)=M at g1 g2;refine ⟨?_,fun c hc hy h0=> ?_⟩
  ·split at g1
   ·unfold leP We at *
    split at g1<;>omega
   ·exact g1
  ·rcases List.mem_cons.1 hc with rfl | hc
   ·rw [if_pos hy] at g1
    unfold leP We at *
    split at g1<;>omega
   ·exact g2 c hc hy h0
theorem ZbF {x:Inst} {s:St} {r:Col->Int} : ∀ {l:List Col} {a:Int},l.foldl (fun o c=>if YG x s c=true then We o c.price (r c) else o) a=a\/ ∃c∈l,YG x s c=true/\0<=r c/\l.foldl (fun o c=>if YG x s c=true then We o c.price (r c) else o) a=c.price+r c
 | [],a=> .inl rfl
 | d::l,a=>by
  rw [List.foldl_cons];rcases ZbF (x:=x) (s:=s) (r:=r) (l:=l) (a:=if YG x s d=true then We a d.price (r d) else a) with h | ⟨c,h1,h2,h3,h4⟩
  ·rw [h]
   split
   ·rename_i hy;unfold We
    split
    ·rename_i hb;exact .inr ⟨d,by simp,hy,hb.1,rfl⟩
    ·exact .inl rfl
   ·exact .inl rfl
  ·exact .inr ⟨c,List.mem_cons_of_mem _ h1,h2,h3,h4⟩
abbrev Cm := { c:Col // ∃S:Nat,c.set=S/\0<S/\S<16 }
instance : Inhabited Cm := ⟨⟨⟨0, 1, 0, default⟩, 1, rfl, by decide, by decide⟩⟩
def lo (c:Col):Int:=tzN c.set.toNat
def cfC (a b:Col):Int:=orI [Vk a.typ b.typ,Vk (lo a) (lo b)]
theorem ZdQ {a b:Col} :cfC a b<0↔a.typ<b.typ\/(a.typ=b.typ/\lo a<lo b):=by
 unfold cfC;rw [KR]
 split
 ·rename_i h;rw [Zdz] at h;rw [Zeb];omega
 ·rename_i h;rw [Zdz] at h;rw [Zeb];omega
def cfM (a b:Cm):Int:=cfC a.val b.val
theorem ZnF : Go.Sort.SWO (ltOf cfM) where
 irrefl x:=by simp only [ltOf,cfM,decide_eq_false_iff_not,ZdQ];omega
 trans x y z h1 h2:=by simp only [ltOf,cfM,decide_eq_true_eq,ZdQ] at *;omega
 ntrans x y z h1 h2:=by simp only [ltOf,cfM,decide_eq_false_iff_not,ZdQ] at *;omega
theorem ZDr (c:Cm):PC 55 [.p (.int .i64 c.val.set)] (.int .i64 (lo c.val)):=by
 obtain ⟨c,S,h1,h2,h3⟩:=c;simp only [lo,h1];exact ZdC S h2 h3
theorem Zgt (a b:Cm):PC 54 [.p (XT a.val),.p (XT b.val)] (.int .i64 (cfM a b)):=by
 refine Za Tryz.func54 rfl Zyy ?_;simp (disch:=omega) only [Tryz.f54,go_sem,seval];refine Zh mixed (by kernel_rfl) (by kernel_rfl) ?_;simp (disch:=omega) only [go_sem,seval];refine Zk (Zab a.val.typ b.val.typ) ?_;simp (disch:=omega) only [go_sem,seval];refine Zk (ZDr a) ?_;simp (disch:=omega) only [go_sem,seval];refine Zk (ZDr b) ?_;simp (disch:=omega) only [go_sem,seval];refine Zk (Zab (lo a.val) (lo b.val)) ?_;simp (disch:=omega) only [go_sem,seval];refine Zk (Zwi [Vk a.val.typ b.val.typ,Vk (lo a.val) (lo b.val)] false (by simp)) ?_
 simp (disch:=omega) only [go_sem,seval]
 rfl
theorem ZnP (xs:List Cm) (hl:xs.length<=1048576) {H:List AM.Obj} {o:Nat} (hH:H[o]? =some (.elems 7 (xs.map fun c=>XT c.val))) :
  ACalls Tryz.prog 53 [.sl o 0 xs.length xs.length,.fn (.func 54) [] []] H fun y H'=>y= .tup []/\ ∃ys:List Cm,ys.Perm xs/\ys.Pairwise (fun a b=> ¬cfM b a<0)/\H'=H.set o (.elems 7 (ys.map fun c=>XT c.val)) :=
 ACalls.sortFunc ZeO Zss 7 Tryz.isAgg58 Tryz.sizeOf58 (fun c:Cm=>XT c.val) (fun x=>⟨_,rfl,rfl,rfl⟩) cfM ZnF 54 Zgt xs (by omega) hH
theorem QO {n:Nat} {m:Int} {x:Inst} {fst:List (List Col)} {sk:List Int} : ∀(d:Nat) (s:St),∀c∈(Xv n m x fst sk d s).1,∃i,i<fst.length/\c∈nth fst i
 | 0,s,c,h=>by simp [Xv] at h
 | d+1,s,c,h=>by
  rw [Xv] at h
  split at h
  ·simp at h
  ·split at h
   ·rename_i c' hf;simp only [List.mem_cons] at h;rcases h with rfl | h
    ·refine ⟨s.ix.toNat,?_,List.mem_of_find?_eq_some hf⟩;rcases Nat.lt_or_ge s.ix.toNat fst.length with h | h
     ·exact h
     ·rw [show nth fst s.ix.toNat= [] from by simp [nth,List.getD_eq_getElem?_getD,List.getElem?_eq_none h];rfl] at hf;simp at hf
    ·exact QO d _ c h
   ·exact QO d _ c h
def Zf5 : Pln:=⟨true,[],true,[]⟩
def Zo9 (x:Inst) (l:List Col) (p:Pln) (c e:Int):Prop:=(8192<l.length/\p=Zf5/\c=0/\e=4)\/(l.length<=8192/\(∃c∈l,rightB x c=false)/\p=Zf5/\c=0/\e=2) \/
 (l.length<=8192/\(∀c∈l,rightB x c=true)/\ ∃ys,Cheap l ys/\ys.length<=l.length/\((Zak x ys<0/\p=Zf5/\c=0/\e=24)\/(0<=Zak x ys/\c=Zak x ys/\e=0 /\
  ∃zs:List Col,zs.Perm (Xv x.orders.length ((Xn x x.orders.length:Nat):Int) x (fstF x.orders.length ys) (skF x x.orders.length) 20 (Vi x.orders.length ((Xn x x.orders.length:Nat):Int) zSt)).1/\zs.Pairwise (fun a b=> ¬cfC b a<0) /\
   p=⟨false,zs.map (·.route),false,(Xv x.orders.length ((Xn x x.orders.length:Nat):Int) x (fstF x.orders.length ys) (skF x x.orders.length) 20 (Vi x.orders.length ((Xn x x.orders.length:Nat):Int) zSt)).2⟩)))
theorem Ji {n:Nat} {m:Int} {x:Inst} {fst:List (List Col)} {sk:List Int} : ∀(d:Nat) (s:St),(Xv n m x fst sk d s).1.length<=d/\(Xv n m x fst sk d s).2.length<=d
 | 0,s=>by simp [Xv]
 | d+1,s=>by
  rw [Xv]
  split
  ·simp
  ·split
   ·rename_i c' hf;have:=Ji (n:=n) (m:=m) (x:=x) (fst:=fst) (sk:=sk) d (Wp n m s c');simp;omega
   ·have:=Ji (n:=n) (m:=m) (x:=x) (fst:=fst) (sk:=sk) d (ZfE n m s);simp;omega
theorem Q2 (x:Inst) (l:List Col) (lc:Bool) (hx:InstOk x) (hn:x.orders.length<=4) (ht:x.types.length<=1048576) (hs: ∀c∈l,c.set<9223372036854775808) (hl:l.length<=1048576) :
  ACalls Tryz.prog 17 [.p (ZT x),.p (.list lc (l.map XT))] [] fun y H'=> ∃p c e,Zo9 x l p c e/\y= .tup [.p (JB p),.p (.int .i64 c),.p (.int .i64 e)]/\H'= []:=by
 refine Zc [16] Tryz.func17 rfl Zzi ?_;simp (disch:=omega) only [Tryz.f17,go_sem,seval];refine ((Zco x l lc hn ht (fun i=>Xx (by omega) (QE hx _)) hs hl).behind (by rfl) _).mono ?_;rintro y H' ⟨y1,H1,hq,rfl,rfl⟩;rcases hq with ⟨h1,rfl,rfl⟩ | ⟨h1,h2,rfl,rfl⟩ | ⟨h1,h2,ys,⟨hC,hyl⟩,rfl,rfl⟩
 ·simp (disch:=omega) only [shV,shVs,List.map_nil,go_sem,seval];exact ⟨.tup [.p (JB Zf5),.p (.int .i64 0),.p (.int .i64 4)],[],Weak.mk (by simp (disch:=omega) only [Zf5,List.map_nil,go_sem,seval]),_,_,_,Or.inl ⟨h1,rfl,rfl,rfl⟩,rfl,rfl⟩
 ·simp (disch:=omega) only [shV,shVs,List.map_nil,go_sem,seval];exact ⟨.tup [.p (JB Zf5),.p (.int .i64 0),.p (.int .i64 2)],[],Weak.mk (by simp (disch:=omega) only [Zf5,List.map_nil,go_sem,seval]),_,_,_,Or.inr (Or.inl ⟨h1,h2,rfl,rfl,rfl⟩),rfl,rfl⟩
 ·have hok:=Zc3 hx hn hC h2 hs
  have hcl: ∀r∈fstF x.orders.length ys,r.length<=1048576:=fun r hr=>by
   obtain ⟨p,_,rfl⟩:=List.mem_map.1 hr;have:=List.length_filter_le (fun c:Col=>decide (tzN c.set.toNat=(p:Int))) ys;simp only [X7];omega
  obtain ⟨m,hm⟩: ∃m:Int,m=((Xn x x.orders.length:Nat):Int):=⟨_,rfl⟩;obtain ⟨B,hB⟩: ∃B,B=Zak x ys:=⟨_,rfl⟩;simp (disch:=omega) only [shV,shVs,shO,Xr,X6,stO,List.map_cons,List.map_nil,List.replicate,List.cons_append,List.nil_append,go_sem,seval];rw [<- hm];refine ACalls.mono ((QB x (.list false ((fstF x.orders.length ys).map Ya)) (.list false ((skF x x.orders.length).map eI)) m [] zSt rfl (by decide) (by omega) (by decide)).back [Ze x,.cells [.p (.list true []),.p (.list true [])],.cells (List.replicate 6 .junk)] (by rfl)) ?_;rintro y H' ⟨y1,H1,⟨rfl,rfl⟩,rfl,rfl⟩
  obtain ⟨v1,_⟩:=Zbd (m:=m) (Zow x.orders.length);have hrg:=Yd (m:=m) hok 20 _ v1
  have hbb:B=Wt x.orders.length m x (fstF x.orders.length ys) (skF x x.orders.length) 20 (Vi x.orders.length m zSt):=by rw [hB,Zak,hm]
  rw [<- hbb] at hrg;obtain ⟨R,hR⟩: ∃R,R=Xv x.orders.length m x (fstF x.orders.length ys) (skF x x.orders.length) 20 (Vi x.orders.length m zSt):=⟨_,rfl⟩;obtain ⟨i,w,b0,b1,b2,b3,b4,b5,hw⟩:=Xj v1.len;have hRr:=hR;rw [hw] at hbb v1 hR ⊢;simp (disch:=omega) only [shV,shVs,shO,Xr,X6,stO,List.map_cons,List.map_nil,List.replicate,List.cons_append,List.nil_append,go_sem,seval];have c3:=((QM x (fstF x.orders.length ys) (skF x x.orders.length) false false m (by omega) (by simp [fstF]) (by simp [skF]) hok hcl 20 ⟨i,w,[b0,b1,b2,b3,b4,b5]⟩ [] (by omega) v1 (by have:=v1.ix;simp only at this ⊢;omega) (fun p hp=>by simp at hp)).mono (fun y H' hq=>(⟨hq,by obtain ⟨l',_,_,rfl⟩:=hq;rfl⟩:_/\H'.length=(Xr x (.list false ((fstF x.orders.length ys).map Ya)) (.list false ((skF x x.orders.length).map eI)) m []).length))).front (by rfl) (by rfl) [stO ⟨i,w,[b0,b1,b2,b3,b4,b5]⟩]
  refine ACalls.mono (c3.back [Ze x,.cells [.p (.list true []),.p (.list true [])],.cells (List.replicate 6 .junk)] (by rfl)) ?_;rintro y H' ⟨y1,H1,⟨H2,⟨l',hl',rfl,rfl⟩,rfl⟩,rfl,rfl⟩;rw [<- hbb];simp (disch:=omega) only [shV,shVs,shO,Xr,X6,stO,List.map_cons,List.map_nil,List.replicate,List.cons_append,List.nil_append,go_sem,seval];refine cD ?_ ?_<;>intro h3<;>simp (disch:=omega) only [Sh.out h3,go_sem,seval]
  ·exact ⟨.tup [.p (JB Zf5),.p (.int .i64 0),.p (.int .i64 24)],[],Weak.mk (by simp (disch:=omega) only [Zf5,List.map_nil,go_sem,seval]),_,_,_,Or.inr (Or.inr ⟨h1,h2,ys,hC,hyl,Or.inl ⟨by rw [<- hB];exact h3,rfl,rfl,rfl⟩⟩),rfl,rfl⟩
  ·refine ACalls.mono ((ZtG (stO ⟨i,w,[b0,b1,b2,b3,b4,b5]⟩) (by intro H n;simp (disch:=omega) only [stO,List.map_cons,List.map_nil,go_sem,seval]) (by intro o xs;rfl) x (fstF x.orders.length ys) (skF x x.orders.length) false false m (by omega) (by simp [fstF]) (by simp [skF]) hok hcl ⟨i,w,[b0,b1,b2,b3,b4,b5]⟩ l' v1 hl').back [Ze x,.cells [.p (.list true []),.p (.list true [])],.cells (List.replicate 6 .junk)] (by rfl)) ?_;rintro y H' ⟨y1,H1,⟨l2,A,U,hl2,hAU,rfl,rfl⟩,rfl,rfl⟩;rw [<- hR] at hAU;have hlen:=Ji (n:=x.orders.length) (m:=m) (x:=x) (fst:=fstF x.orders.length ys) (sk:=skF x x.orders.length) 20 (Vi x.orders.length m zSt)
   rw [<- hRr,<- hAU] at hlen
   have hA: ∀c∈A,∃S:Nat,c.set=S/\0<S/\S<16:=fun c hc=>by
    have hc':c∈(Xv x.orders.length m x (fstF x.orders.length ys) (skF x x.orders.length) 20 (Vi x.orders.length m zSt)).1:=by rw [<- hRr,<- hAU];exact hc
    obtain ⟨j,hj,hm2⟩:=QO _ _ _ hc'
    have e:nth (fstF x.orders.length ys) j=X7 ys j:=by
     rw [fstF,Zd (by simpa [fstF] using hj)];simp
    rw [e,X7,List.mem_filter] at hm2;obtain ⟨q,hq,hql,_⟩:=hC.bst c hm2.1
    have hmem:c∈l:=by rw [<- hql];exact Zn hq
    obtain ⟨S,q1,q2,q3,_⟩:=WM (h2 c hmem) (hs c hmem);exact ⟨S,q1,q2,Nat.lt_of_lt_of_le q3 (Nat.pow_le_pow_right (n:=2) (by omega) hn)⟩
   obtain ⟨L,hL⟩: ∃L:List Cm,L.map Subtype.val=A:=⟨A.pmap (fun c h=>⟨c,h⟩) hA,by simp [List.map_pmap]⟩;subst hL
   have hLl:(L.map Subtype.val).length=L.length:=by simp
   have hLe:(L.map Subtype.val).map XT=L.map fun c=>XT c.val:=by simp [List.map_map]
   simp only at hlen;rw [hLl] at hlen;simp (disch:=omega) only [shV,shVs,shO,Xr,X6,stO,List.map_cons,List.map_nil,List.replicate,List.cons_append,List.nil_append,hLl,hLe,go_sem,seval];refine ((ZnP L (by omega) (H:=_) (o:=7) rfl)).mono ?_;rintro y H' ⟨rfl,zs,hp,hsr,rfl⟩;have hzl:zs.length=L.length:=hp.length_eq;rw [<- hzl] at hlen ⊢;simp (disch:=omega) only [List.set_cons_succ,List.set_cons_zero,go_sem,seval];obtain ⟨Z,hZ⟩: ∃Z,Z=zs.map Subtype.val:=⟨_,rfl⟩
   have hZl:Z.length=zs.length:=by rw [hZ];simp
   have hZe:Z.map XT=zs.map fun c=>XT c.val:=by rw [hZ];simp [List.map_map]
   rw [<- hZl] at hlen ⊢
   have htl: ∀k,k<=Z.length->(Z.take k).length=k:=fun k hk=>by simp;omega
   refine Zg [4,10,13,45,46] (fun k:Nat=> [(47,.p (.int .i64 k))]) (fun k=> [Ze x,.cells [.p (.list true []),.p (.list true [])],.cells (List.replicate 6 .junk),.map (l2.map (eKI eSt)),shO 3 (X6 x (.list false ((fstF x.orders.length ys).map Ya)) (.list false ((skF x x.orders.length).map eI)) m),stO ⟨i,w,[b0,b1,b2,b3,b4,b5]⟩,.cells (List.replicate 8 .junk),.elems 7 (Z.map XT),.cells [.sl 9 0 k k,.p (.list false (U.map eI))],.elems 4 ((Z.take k).map fun c=>eRte c.route)]) (fun k=>k<=Z.length) (fun k=>Z.length-k) 0 (by omega) ((Weak.nilC (o:=8) (j:=0) 4 (by rfl) (by rfl) (by simp)).trans (Weak.mk ?_)) ?_
   ·simp (disch:=omega) only [hZe,List.take_zero,List.set_cons_succ,List.set_cons_zero,List.length_cons,List.length_nil,Nat.zero_add,Nat.reduceAdd,shV,shVs,shO,Xr,X6,stO,List.map_cons,List.map_nil,List.replicate,List.cons_append,List.nil_append,Ze,go_sem,seval]
   ·intro k hk;simp (disch:=omega) only [shV,shVs,shO,Xr,X6,stO,List.map_cons,List.map_nil,List.replicate,List.cons_append,List.nil_append,Ze,go_sem,seval];refine cD ?_ ?_<;>intro h4<;>simp (disch:=omega) only [Sh.out h4,go_sem,seval]
    ·have hk2:k<Z.length:=by omega
     simp (disch:=first | omega | (simp only [List.length_cons,List.length_nil,List.length_append,List.length_map,List.length_take,List.length_drop]<;>omega)) only [Z2 hk2,hk2,go_sem,seval]
     have hsc:Z.take (k+1)=Z.take k++ [nth Z k]:=by rw [List.take_succ_eq_append_getElem hk2,Zd hk2]
     rw [if_pos ⟨htl k hk,by omega,by omega⟩];simp (disch:=omega) only [List.set_cons_succ,List.set_cons_zero,htl k hk,List.length_map,List.length_append,List.length_cons,List.length_nil,Nat.zero_add,eq_self,decide_true,if_true,go_sem,seval];exact ⟨k+1,by omega,by omega,Weak.mk (by simp (disch:=omega) only [hsc,List.map_append,shV,shVs,shO,Xr,X6,stO,List.map_cons,List.map_nil,List.replicate,List.cons_append,List.nil_append,Ze,go_sem,seval])⟩
    ·have hkl:k=Z.length:=by omega
     subst hkl;refine Zm (Weak.fz (o:=9) (by rfl)) ?_;refine Zb [] _ _ _ _ ?_;simp (disch:=omega) only [List.map_cons,List.map_nil,List.set_cons_succ,List.set_cons_zero,Ze,List.take_length,go_sem,seval];exact ⟨.tup [.p (JB ⟨false,Z.map (·.route),false,U⟩),.p (.int .i64 B),.p (.int .i64 0)],[],Weak.mk (by simp (disch:=omega) only [List.map_map,Function.comp_def,go_sem,seval]),_,_,_,Or.inr (Or.inr ⟨h1,h2,ys,hC,hyl,Or.inr ⟨by rw [<- hB];omega,hB,rfl,Z,by rw [<- hm,<- hRr,<- hAU,hZ];exact hp.map _,by rw [hZ];exact List.pairwise_map.2 hsr,by rw [<- hm,<- hRr,<- hAU]⟩⟩),rfl,rfl⟩
def ZD7 (x:Inst) (l:List Col) (a e:Int):Prop:=(8192<l.length/\a=0/\e=4)\/(l.length<=8192/\(∃c∈l,rightB x c=false)/\a=0/\e=2) \/
 (l.length<=8192/\(∀c∈l,rightB x c=true)/\ ∃ys,Cheap l ys/\a=(if Zak x ys<0 then 0 else Zak x ys)/\e=(if Zak x ys<0 then 24 else 0))
theorem Zk7 (x:Inst) (l:List Col) (lc:Bool) (hx:InstOk x) (hn:x.orders.length<=4) (ht:x.types.length<=1048576) (hs: ∀c∈l,c.set<9223372036854775808) (hl:l.length<=1048576) :
  ACalls Tryz.prog 18 [.p (ZT x),.p (.list lc (l.map XT))] [] fun y H'=> ∃a e,ZD7 x l a e/\y= .tup [.p (.int .i64 a),.p (.int .i64 e)]/\H'= [] :=
 (ZkB x l lc hx hn ht hs hl).mono fun y H' hq=>by
  obtain ⟨rfl,h⟩:=hq;rcases h with ⟨g1,rfl⟩ | ⟨g1,g2,rfl⟩ | ⟨g1,g2,ys,g3,_,rfl⟩
  ·exact ⟨_,_,.inl ⟨g1,rfl,rfl⟩,rfl,rfl⟩
  ·exact ⟨_,_,.inr (.inl ⟨g1,g2,rfl,rfl⟩),rfl,rfl⟩
  ·exact ⟨_,_,.inr (.inr ⟨g1,g2,ys,g3,rfl,rfl⟩),rfl,rfl⟩
def smT (n:Int):Typ:= { name:= [118],count:=n,src:=0,dst:=0,cap_c:=false,cap:= [5],cls:=100,drive:=100,opn:=0,rest:=0,skills:=0,fixed:=0,perMile:=0,perTick:=0,prof:=0 }
def smO (s:UInt8):Ord:= { name:= [s],load_c:=false,load:= [1],pick:=⟨-1,0,0,0⟩,drp:=⟨0,0,50,0⟩,skills:=0,penalty:= -1,split:=1,last:= -1,now:= -1,off:=false }
def smX (n:Int):Inst:= { net:= { places_c:=false,places:= [[65]],arcs_c:=true,arcs:= [] },types_c:=false,types:= [smT n],orders_c:=false,orders:= [smO 111,smO 112],apart_c:=true,apart:= [],before_c:=true,before:= [] }
def smC (s p:Int) (t:Int):Col:=⟨0,s,p,⟨0,t,true,[],true,[]⟩⟩
def smL (k:Nat):List Col:= [smC 1 10 (if 0<k then 1 else 0),smC 2 20 (if 1<k then 2 else 0),smC 3 40 (if 2<k then 3 else 0)]
def smI (n:Int) (os:V):AM.Obj:= .cells [.p (.list false [.str [65]]),.p (.list true []),.p (.list false [JY (smT n)]),os,.p (.list true []),.p (.list true [])]
theorem KN (n:Int) (hn:0<=n/\n<=10):PT 16 [.p (.int .i64 n)] [.p (ZT (smX n)),.p (.list false ((smL 3).map XT))]:=by
 refine Zc [1,2,6,14] Tryz.func16 rfl ZzZ ?_;simp (disch:=omega) only [Tryz.f16,go_sem,seval];refine XC (Zal 1 ?_);simp (disch:=omega) only [go_sem,seval];refine ⟨_,_,Weak.fz (o:=1) (by rfl),?_⟩;simp (disch:=omega) only [List.map_cons,List.map_nil,List.set_cons_succ,List.set_cons_zero,List.cons_append,List.nil_append,go_sem,seval];refine Zb [2,6,14] _ _ _ _ ?_;simp (disch:=omega) only [go_sem,seval];refine XC (ZjJ 2 2 ?_);simp (disch:=omega) only [go_sem,seval];refine ⟨_,_,Weak.fz (o:=3) (by rfl),?_⟩;simp (disch:=omega) only [List.map_cons,List.map_nil,List.set_cons_succ,List.set_cons_zero,List.cons_append,List.nil_append,go_sem,seval]
 refine ⟨_,_,Weak.fz (o:=4) (by rfl),?_⟩;simp (disch:=omega) only [List.map_cons,List.map_nil,List.set_cons_succ,List.set_cons_zero,List.cons_append,List.nil_append,go_sem,seval];refine Zb [6,14] _ _ _ _ ?_;simp (disch:=omega) only [go_sem,seval];refine ZZ [5,14] [2,4,17,18] (fun k:Nat=> [(19,.p (.int .i64 k))]) (fun k=> [.cells (List.replicate 6 (.p (.list true []))),.dead,smI n (.sl 6 0 k k),.dead,.dead,.elems 1 [.str [111],.str [112]],.elems 16 (([smO 111,smO 112].take k).map Vt)]) (fun k=>k<=2) (fun k=>2-k) 0 (by omega) ((Weak.nilC (o:=2) (j:=3) 16 (by rfl) (by rfl) (by simp)).trans (Weak.mk ?_)) ?_
 ·simp (disch:=omega) only [smI,smT,List.replicate,List.take_zero,List.length_cons,List.length_nil,Nat.zero_add,Nat.reduceAdd,List.map_cons,List.map_nil,List.set_cons_succ,List.set_cons_zero,List.cons_append,List.nil_append,go_sem,seval]
 ·intro k hk
  obtain rfl | rfl | rfl:k=0\/k=1\/k=2:=by omega
  ·simp (disch:=omega) only [smI,smT,smO,List.replicate,List.take_zero,List.length_cons,List.length_nil,Nat.zero_add,Nat.reduceAdd,List.map_cons,List.map_nil,List.set_cons_succ,List.set_cons_zero,List.cons_append,List.nil_append,go_sem,seval];refine XC (Q6 (XC (Zb [] _ _ _ _ ?_)));simp (disch:=first | omega | (simp only [List.length_cons,List.length_nil,List.length_append,List.length_map,List.length_take,List.length_drop]<;>omega)) only [elt,List.getD_cons_zero,List.getD_cons_succ,List.getElem?_cons_zero,List.getElem?_cons_succ,Option.getD_some,go_sem,seval]
   refine Zal 4 ?_;simp (disch:=omega) only [go_sem,seval];refine ⟨_,_,Weak.fz (o:=7) (by rfl),?_⟩;simp (disch:=omega) only [List.map_cons,List.map_nil,List.set_cons_succ,List.set_cons_zero,List.cons_append,List.nil_append,go_sem,seval];refine Zb [] _ _ _ _ ?_;simp (disch:=omega) only [go_sem,seval];exact ⟨1,by omega,by omega,Weak.mk (by simp (disch:=omega) only [smI,smT,smO,List.replicate,List.take,List.length_cons,List.length_nil,Nat.zero_add,Nat.reduceAdd,List.map_cons,List.map_nil,List.set_cons_succ,List.set_cons_zero,List.cons_append,List.nil_append,go_sem,seval])⟩
  ·simp (disch:=omega) only [smI,smT,smO,List.replicate,List.take,List.length_cons,List.length_nil,Nat.zero_add,Nat.reduceAdd,List.map_cons,List.map_nil,List.set_cons_succ,List.set_cons_zero,List.cons_append,List.nil_append,go_sem,seval];refine XC (Q6 (XC (Zb [] _ _ _ _ ?_)));simp (disch:=first | omega | (simp only [List.length_cons,List.length_nil,List.length_append,List.length_map,List.length_take,List.length_drop]<;>omega)) only [elt,List.getD_cons_zero,List.getD_cons_succ,List.getElem?_cons_zero,List.getElem?_cons_succ,Option.getD_some,go_sem,seval]
   refine Zal 4 ?_;simp (disch:=omega) only [go_sem,seval];refine ⟨_,_,Weak.fz (o:=7) (by rfl),?_⟩;simp (disch:=omega) only [List.map_cons,List.map_nil,List.set_cons_succ,List.set_cons_zero,List.cons_append,List.nil_append,go_sem,seval];refine Zb [] _ _ _ _ ?_;simp (disch:=omega) only [go_sem,seval];exact ⟨2,by omega,by omega,Weak.mk (by simp (disch:=omega) only [smI,smT,smO,List.replicate,List.take,List.length_cons,List.length_nil,Nat.zero_add,Nat.reduceAdd,List.map_cons,List.map_nil,List.set_cons_succ,List.set_cons_zero,List.cons_append,List.nil_append,go_sem,seval])⟩
  ·simp (disch:=omega) only [smI,smT,smO,List.replicate,List.take,List.length_cons,List.length_nil,Nat.zero_add,Nat.reduceAdd,List.map_cons,List.map_nil,List.set_cons_succ,List.set_cons_zero,List.cons_append,List.nil_append,go_sem,seval];refine Zg [2,4,7,39] (fun k:Nat=> [(40,.p (.int .i64 k))]) (fun k=> [.cells (List.replicate 6 (.p (.list true []))),.dead,smI n (.sl 6 0 2 2),.dead,.dead,.elems 1 [.str [111],.str [112]],.elems 16 ([smO 111,smO 112].map Vt),.elems 7 ((smL k).map XT)]) (fun k=>k<=3) (fun k=>3-k) 0 (by omega) (Weak.mk ?_) ?_
   ·simp (disch:=omega) only [smL,smC,smI,smT,smO,List.replicate,List.take,List.length_cons,List.length_nil,Nat.zero_add,Nat.reduceAdd,List.map_cons,List.map_nil,List.set_cons_succ,List.set_cons_zero,List.cons_append,List.nil_append,go_sem,seval]
   ·intro k hk
    obtain rfl | rfl | rfl | rfl:k=0\/k=1\/k=2\/k=3:=by omega
    ·simp (disch:=first | omega | (simp only [List.length_cons,List.length_nil,List.length_append,List.length_map,List.length_take,List.length_drop]<;>omega)) only [smL,smC,smI,smT,smO,List.replicate,List.take,List.length_cons,List.length_nil,Nat.zero_add,Nat.reduceAdd,List.map_cons,List.map_nil,List.set_cons_succ,List.set_cons_zero,List.cons_append,List.nil_append,go_sem,seval];simp (disch:=first | omega | (simp only [List.length_cons,List.length_nil,List.length_append,List.length_map,List.length_take,List.length_drop]<;>omega)) only [Kc,elt,List.getD_cons_zero,List.getD_cons_succ,List.getElem?_cons_zero,List.getElem?_cons_succ,Option.getD_some,List.map_cons,List.map_nil,List.set_cons_succ,List.set_cons_zero,List.cons_append,List.nil_append,go_sem,seval]
     exact ⟨1,by omega,by omega,Weak.mk (by simp (disch:=omega) only [smL,smC,smI,smT,smO,List.replicate,List.take,List.length_cons,List.length_nil,Nat.zero_add,Nat.reduceAdd,List.map_cons,List.map_nil,List.set_cons_succ,List.set_cons_zero,List.cons_append,List.nil_append,go_sem,seval])⟩
    ·simp (disch:=first | omega | (simp only [List.length_cons,List.length_nil,List.length_append,List.length_map,List.length_take,List.length_drop]<;>omega)) only [smL,smC,smI,smT,smO,List.replicate,List.take,List.length_cons,List.length_nil,Nat.zero_add,Nat.reduceAdd,List.map_cons,List.map_nil,List.set_cons_succ,List.set_cons_zero,List.cons_append,List.nil_append,go_sem,seval];simp (disch:=first | omega | (simp only [List.length_cons,List.length_nil,List.length_append,List.length_map,List.length_take,List.length_drop]<;>omega)) only [Kc,elt,List.getD_cons_zero,List.getD_cons_succ,List.getElem?_cons_zero,List.getElem?_cons_succ,Option.getD_some,List.map_cons,List.map_nil,List.set_cons_succ,List.set_cons_zero,List.cons_append,List.nil_append,go_sem,seval]
     exact ⟨2,by omega,by omega,Weak.mk (by simp (disch:=omega) only [smL,smC,smI,smT,smO,List.replicate,List.take,List.length_cons,List.length_nil,Nat.zero_add,Nat.reduceAdd,List.map_cons,List.map_nil,List.set_cons_succ,List.set_cons_zero,List.cons_append,List.nil_append,go_sem,seval])⟩
    ·simp (disch:=first | omega | (simp only [List.length_cons,List.length_nil,List.length_append,List.length_map,List.length_take,List.length_drop]<;>omega)) only [smL,smC,smI,smT,smO,List.replicate,List.take,List.length_cons,List.length_nil,Nat.zero_add,Nat.reduceAdd,List.map_cons,List.map_nil,List.set_cons_succ,List.set_cons_zero,List.cons_append,List.nil_append,go_sem,seval];simp (disch:=first | omega | (simp only [List.length_cons,List.length_nil,List.length_append,List.length_map,List.length_take,List.length_drop]<;>omega)) only [Kc,elt,List.getD_cons_zero,List.getD_cons_succ,List.getElem?_cons_zero,List.getElem?_cons_succ,Option.getD_some,List.map_cons,List.map_nil,List.set_cons_succ,List.set_cons_zero,List.cons_append,List.nil_append,go_sem,seval]
     exact ⟨3,by omega,by omega,Weak.mk (by simp (disch:=omega) only [smL,smC,smI,smT,smO,List.replicate,List.take,List.length_cons,List.length_nil,Nat.zero_add,Nat.reduceAdd,List.map_cons,List.map_nil,List.set_cons_succ,List.set_cons_zero,List.cons_append,List.nil_append,go_sem,seval])⟩
    ·simp (disch:=first | omega | (simp only [List.length_cons,List.length_nil,List.length_append,List.length_map,List.length_take,List.length_drop]<;>omega)) only [smL,smC,smI,smT,smO,List.replicate,List.take,List.length_cons,List.length_nil,Nat.zero_add,Nat.reduceAdd,List.map_cons,List.map_nil,List.set_cons_succ,List.set_cons_zero,List.cons_append,List.nil_append,go_sem,seval];refine Zm (Weak.fz (o:=6) (by rfl)) ?_;refine Zm (Weak.fz (o:=7) (by rfl)) ?_;refine Zb [] _ _ _ _ ?_;simp (disch:=omega) only [List.map_cons,List.map_nil,List.set_cons_succ,List.set_cons_zero,go_sem,seval]
     exact ⟨.tup [.p (ZT (smX n)),.p (.list false ((smL 3).map XT))],[],Weak.mk (by simp (disch:=omega) only [smX,smL,smC,smI,smT,smO,List.replicate,List.take,List.length_cons,List.length_nil,Nat.zero_add,Nat.reduceAdd,List.map_cons,List.map_nil,List.set_cons_succ,List.set_cons_zero,List.cons_append,List.nil_append,go_sem,seval]),rfl,rfl⟩
theorem ZvE (n:Int) (hn:0<=n/\n<=10):InstOk (smX n):=by
 refine ⟨⟨⟨⟨show (1:Nat)<=24 by decide,fun i hi=> ?_⟩,show (0:Nat)<=1024 by decide⟩,fun i hi=>by simp [smX] at hi⟩,⟨rfl,fun i hi=> ?_⟩,QH.1 (by rfl),rfl⟩
 ·match i,hi with
  | 0,_=>exact ⟨rfl,fun k hk=>by omega⟩
 ·have:i=0:=by simp [smX] at hi;omega
  subst this
  have hc:rng n 0 10=true:=by simp [rng];omega
  exact ⟨⟨⟨⟨⟨⟨⟨⟨rfl,fun j hj=>by omega⟩,hc⟩,rfl,rfl⟩,rfl⟩,rfl⟩,rfl,show (100:Int)<=4096 by decide⟩,rfl,rfl⟩,rfl,rfl,rfl,rfl⟩
def c1 : Col:=smC 1 10 1
def c2 : Col:=smC 2 20 2
def c3 : Col:=smC 3 40 3
theorem Kh {l ys:List Col} (h:Cheap l ys) (ha:l.Pairwise fun a b=>cfK a b<0) (hd: ∀a∈l,∀b∈l,kd a=kd b->a=b):ys=l :=
 Kx (r:=fun a b=>cfK a b<0) (fun a=>by rw [U2];omega) (fun a b=>by rw [U2,U2];omega) h.asc ha fun a=>⟨fun hh=>ZaK h hh,fun hh=>by
  obtain ⟨d,k1,k2⟩:=h.all a hh
  rw [<- hd d (ZaK h k1) a hh k2];exact k1⟩
theorem ZDm : [c1,c2,c3].Pairwise fun a b=>cfK a b<0:=by
 refine .cons (fun b hb=> ?_) (.cons (fun b hb=> ?_) (.cons (fun b hb=>by simp at hb) .nil))
 ·simp only [List.mem_cons,List.not_mem_nil,or_false] at hb;rcases hb with rfl | rfl<;>decide+kernel
 ·simp only [List.mem_cons,List.not_mem_nil,or_false] at hb;subst hb;decide+kernel
theorem ZDc : ∀a∈ [c1,c2,c3],∀b∈ [c1,c2,c3],kd a=kd b->a=b:=by
 intro a ha b hb e;simp only [List.mem_cons,List.not_mem_nil,or_false] at ha hb;rcases ha with rfl | rfl | rfl<;>rcases hb with rfl | rfl | rfl<;>first | rfl | (exfalso;revert e;decide)
theorem Zve : Zak (smX 1) [c1,c2,c3]=40:=by decide+kernel
theorem ZuF : Zak (smX 2) [c1,c2,c3]=30:=by decide+kernel
theorem Zy3 : Zak (smX 1) [c1,c2]= -1:=by decide+kernel
theorem ZlC : ∀n:Int,∀c∈ [c1,c2,c3],rightB (smX n) c=true:=by
 intro n c hc;have:rightB (smX n) c=rightB (smX 1) c:=rfl;rw [this];simp only [List.mem_cons,List.not_mem_nil,or_false] at hc;rcases hc with rfl | rfl | rfl<;>decide+kernel
def pk (n:Int):List Col×List Int:=Xv (smX n).orders.length ((Xn (smX n) (smX n).orders.length:Nat):Int) (smX n) (fstF (smX n).orders.length [c1,c2,c3]) (skF (smX n) (smX n).orders.length) 20 (Vi (smX n).orders.length ((Xn (smX n) (smX n).orders.length:Nat):Int) zSt)
theorem pk1 : pk 1=([c3],[]):=by rfl
theorem pk2 : pk 2=([c1,c2],[]):=by rfl
theorem ZzR : ∀c∈ [c1,c2,c3],c.set<9223372036854775808:=by
 intro c hc;simp only [List.mem_cons,List.not_mem_nil,or_false] at hc;rcases hc with rfl | rfl | rfl<;>decide
theorem ZlW {n:Int} {p:Pln} {c e:Int} (h:Zo9 (smX n) [c1,c2,c3] p c e) (hb:0<=Zak (smX n) [c1,c2,c3]):c=Zak (smX n) [c1,c2,c3]/\e=0/\ ∃zs:List Col,zs.Perm (pk n).1/\zs.Pairwise (fun a b=> ¬cfC b a<0)/\p=⟨false,zs.map (·.route),false,(pk n).2⟩:=by
 rcases h with ⟨g1,_⟩ | ⟨_,⟨c,gc,g2⟩,_⟩ | ⟨_,_,ys,hC,_,h⟩
 ·simp at g1
 ·rw [ZlC n c gc] at g2;cases g2
 ·obtain rfl:=Kh hC ZDm ZDc;rcases h with ⟨g,_⟩ | ⟨_,rfl,rfl,h⟩
  ·omega
  ·exact ⟨rfl,rfl,h⟩
def rt (t:Int):Rte:=⟨0,t,true,[],true,[]⟩
def rs1 : List Rte:= [rt 3]
def rs2 : List Rte:= [rt 1,rt 2]
theorem Zup : PT 17 [.p (ZT (smX 1)),.p (.list false ((smL 3).map XT))] [.p (JB ⟨false,rs1,false,[]⟩),.p (.int .i64 40),.p (.int .i64 0)] :=
 (Q2 (smX 1) [c1,c2,c3] false (ZvE 1 (by decide)) (by decide) (by decide) ZzR (by decide)).mono fun y H' hq=>by
  obtain ⟨p,c,e,h,rfl,rfl⟩:=hq;obtain ⟨rfl,rfl,zs,h1,_,rfl⟩:=ZlW h (by rw [Zve];decide);rw [pk1] at h1 ⊢;obtain rfl:=List.perm_singleton.1 h1;rw [Zve];exact ⟨rfl,rfl⟩
theorem Zt9 : PT 17 [.p (ZT (smX 2)),.p (.list false ((smL 3).map XT))] [.p (JB ⟨false,rs2,false,[]⟩),.p (.int .i64 30),.p (.int .i64 0)] :=
 (Q2 (smX 2) [c1,c2,c3] false (ZvE 2 (by decide)) (by decide) (by decide) ZzR (by decide)).mono fun y H' hq=>by
  obtain ⟨p,c,e,h,rfl,rfl⟩:=hq;obtain ⟨rfl,rfl,zs,h1,h2,rfl⟩:=ZlW h (by rw [ZuF];decide);rw [pk2] at h1 ⊢
  have hz:zs= [c1,c2]\/zs= [c2,c1]:=by
   have hl:=h1.length_eq
   have hne:c1≠c2:=fun e=>by have:=congrArg Col.set e;revert this;decide
   rcases zs with _ | ⟨a,_ | ⟨b,_ | ⟨d,r⟩⟩⟩
   ·simp at hl
   ·simp at hl
   ·have m1:c1∈ [a,b]:=h1.mem_iff.2 (by simp);have m2:c2∈ [a,b]:=h1.mem_iff.2 (by simp);simp only [List.mem_cons,List.not_mem_nil,or_false] at m1 m2;rcases m1 with e1 | e1<;>rcases m2 with e2 | e2
    ·exact absurd (e1.trans e2.symm) hne
    ·exact .inl (by rw [e1,e2])
    ·exact .inr (by rw [e1,e2])
    ·exact absurd (e1.trans e2.symm) hne
   ·simp at hl
  rcases hz with rfl | rfl
  ·rw [ZuF];exact ⟨rfl,rfl⟩
  ·have:=(List.pairwise_cons.1 h2).1 c1 (by simp);exact absurd (by decide+kernel) this
theorem Zr7 : PT 18 [.p (ZT (smX 1)),.p (.list false ([c1,c2].map XT))] [.p (.int .i64 0),.p (.int .i64 24)] :=
 (Zk7 (smX 1) [c1,c2] false (ZvE 1 (by decide)) (by decide) (by decide) (fun c hc=>ZzR c (by simp at hc ⊢;rcases hc with rfl | rfl<;>simp)) (by decide)).mono fun y H' hq=>by
  obtain ⟨a,e,h,rfl,rfl⟩:=hq;rcases h with ⟨g1,_⟩ | ⟨_,⟨c,gc,g2⟩,_⟩ | ⟨_,_,ys,hC,rfl,rfl⟩
  ·simp at g1
  ·rw [ZlC 1 c (by simp at gc ⊢;rcases gc with rfl | rfl<;>simp)] at g2;cases g2
  ·have hp:=ZDm;obtain rfl:=Kh hC (hp.sublist (List.sublist_append_left [c1,c2] [c3])) (fun a ha b hb=>ZDc a (by simp at ha ⊢;rcases ha with rfl | rfl<;>simp) b (by simp at hb ⊢;rcases hb with rfl | rfl<;>simp));rw [Zy3];exact ⟨rfl,rfl⟩
def c4 : Col:=⟨0,4,0,⟨0,0,true,[],true,[]⟩⟩
theorem ZtN : PT 18 [.p (ZT (smX 1)),.p (.list false ([c4].map XT))] [.p (.int .i64 0),.p (.int .i64 2)] :=
 (Zk7 (smX 1) [c4] false (ZvE 1 (by decide)) (by decide) (by decide) (fun c hc=>by simp at hc;subst hc;decide) (by decide)).mono fun y H' hq=>by
  obtain ⟨a,e,h,rfl,rfl⟩:=hq;rcases h with ⟨g1,_⟩ | ⟨_,_,rfl,rfl⟩ | ⟨_,g,_⟩
  ·simp at g1
  ·exact ⟨rfl,rfl⟩
  ·have:=g c4 (by simp)
   have h4:rightB (smX 1) c4=false:=by decide+kernel
   rw [h4] at this;cases this
theorem ZlL {g:FuncId} {args:List V} {a b c:PV} {H:List AM.Obj} {K:V->List AM.Obj->Prop} (h:ACalls Tryz.prog g args [] fun x H'=>x= .tup [.p a,.p b,.p c]/\H'= []) (k:K (.tup [.p a,.p b,.p c]) H) (ha:ZR 0 args=true:=by rfl):ACalls Tryz.prog g args H K :=
 (h.behind ha H).mono fun x H' hq=>by
  obtain ⟨y,H1,⟨rfl,rfl⟩,rfl,rfl⟩:=hq;simpa [shV,shVs] using k
theorem UU : PC 7 [] (.bool true):=by
 refine YR [6] Tryz.func7 rfl ZD6 ?_;simp (disch:=omega) only [Tryz.f7,go_sem,seval];have h3:(smL 3).length=3:=rfl;have r1:rs1.length=1:=rfl;have r2:rs2.length=2:=rfl;have r3:(nth rs1 0).start=3:=rfl;have r4:(nth rs2 0).start=1:=rfl;have r5:(nth rs2 1).start=2:=rfl;refine ZcP (KN 1 (by decide)) ?_;simp (disch:=omega) only [go_sem,seval];refine ZlL Zup ?_;simp (disch:=omega) only [go_sem,seval];refine ZcP (KN 2 (by decide)) ?_;simp (disch:=omega) only [go_sem,seval];refine ZlL Zt9 ?_;simp (disch:=omega) only [go_sem,seval]
 refine Zh mixed (by kernel_rfl) (by kernel_rfl) ?_;simp (disch:=omega) only [go_sem,seval];refine Q9 Zr7 ?_;simp (disch:=omega) only [go_sem,seval];refine XC (Zal 3 ?_);simp (disch:=omega) only [go_sem,seval];refine ⟨_,_,Weak.fz (o:=4) (by rfl),?_⟩;simp (disch:=omega) only [List.map_cons,List.map_nil,List.set_cons_succ,List.set_cons_zero,List.cons_append,List.nil_append,go_sem,seval];refine ZcP ZtN ?_;simp (disch:=omega) only [go_sem,seval];refine Zb [] _ _ _ _ ?_;simp (maxSteps:=3000000) (disch:=omega) only [r1,r2,r3,r4,r5,Int.toNat_zero,Int.toNat_one,go_sem,seval]
def ky (l:List Col) (a:Int):Int×Int×Int:=if a<0 then (1,0,0) else (0,(nth l a.toNat).typ,(nth l a.toNat).set)
def ZD2 (a b:Int×Int×Int):Prop:=a.1<b.1\/(a.1=b.1/\(a.2.1<b.2.1\/(a.2.1=b.2.1/\a.2.2<b.2.2)))
def KE (n:Nat) (l:List Col) (a b:List Int):Prop:= ∀t,t<n->ky l (nth a t)=ky l (nth b t)/\nth a t<=nth b t
def KL (n:Nat) (l:List Col) (a b:List Int):Prop:=(∃i,i<n/\(∀t,t<i->ky l (nth a t)=ky l (nth b t))/\ZD2 (ky l (nth a i)) (ky l (nth b i)))\/KE n l a b
def mI (x:Inst):Int:=((Xn x x.orders.length:Nat):Int)
theorem Za5 {x:Inst} (hn:x.orders.length<=4) {k:Nat} (hk:k<x.orders.length):sHas (mI x) k= !(nth x.orders k).off:=by
 rw [mI,XB _ _ (by omega),Wb];simp [hk]
theorem QX {n:Nat} {s:St} (h:StV n s) {k:Nat} (hk:k<=62):sHas s.cov k=s.cov.toNat.testBit k:=by
 obtain ⟨C,hC,_⟩:=h.cov;rw [hC,XB _ _ hk,Int.toNat_natCast]
structure Ctx (x:Inst) (l ys:List Col):Prop where
 n4:x.orders.length<=4
 t6:x.types.length<=6
 ch:Cheap l ys
 rt: ∀c∈l,rightB x c=true
 st: ∀c∈l,c.set<9223372036854775808
 ok:ChOk x.orders.length x (fstF x.orders.length ys) (skF x x.orders.length)
 sk: ∀k,k<x.orders.length->(nth x.orders k).off=false->(0<=(nth x.orders k).penalty↔0<=skpF x k)/\(0<=skpF x k->skpF x k=skR x k)
theorem Zrr : ∀S:Fin 16,0<S.val-> ∀k:Fin 4,(tzN S.val=(k.val:Int)↔(S.val.testBit k.val=true/\ ∀i:Fin 4,i.val<k.val->S.val.testBit i.val=false)):=by decide+kernel
theorem Kl {S n k:Nat} (hS:0<S) (h:S<2^n) (hn:n<=4) (hk:k<n):tzN S=(k:Int)↔(S.testBit k=true/\ ∀i,i<n->S.testBit i=true->k<=i):=by
 have h16:S<16:=Nat.lt_of_lt_of_le h (Nat.pow_le_pow_right (n:=2) (by omega) hn);rw [show tzN S=(k:Int)↔_ from Zrr ⟨S,h16⟩ hS ⟨k,by omega⟩];refine and_congr_right fun _=>⟨fun g i hi hb=> ?_,fun g i hi=> ?_⟩
 ·rcases Nat.lt_or_ge i k with h1 | h1
  ·have:=g ⟨i,by omega⟩ h1;simp only at this;rw [this] at hb;cases hb
  ·exact h1
 ·cases hb:S.testBit i.val with
  | false=>rfl
  | true =>
   have hi':i.val<k:=hi;have:=g i.val (by omega) hb;omega
theorem Ctx.set {x:Inst} {l ys:List Col} (h:Ctx x l ys) {c:Col} (hc:c∈l):c.set=(c.set.toNat:Int)/\0<c.set.toNat/\c.set.toNat<2^x.orders.length/\ ∀i,c.set.toNat.testBit i=true->i<x.orders.length/\(nth x.orders i).off=false:=by
 obtain ⟨S,h1,h2,h3,h4⟩:=WM (h.rt c hc) (h.st c hc);rw [h1,Int.toNat_natCast];exact ⟨rfl,h2,h3,h4⟩
theorem Ctx.typ {x:Inst} {l ys:List Col} (h:Ctx x l ys) {c:Col} (hc:c∈l):(0<=c.typ/\c.typ<x.types.length)/\0<=c.price:=by
 have:=h.rt c hc;simp only [rightB,Bool.and_eq_true,decide_eq_true_eq] at this;exact ⟨⟨this.1,this.2.1⟩,this.2.2.2.2.1⟩
structure Nd (x:Inst) (l:List Col) (a:List Int) (s:St) (k:Nat):Prop where
 len:a.length=x.orders.length
 ix:s.ix=k
 v:StV x.orders.length s
 cov: ∀i,i<x.orders.length->s.cov.toNat.testBit i=decide (0<=nth a i)
 rng: ∀i,i<x.orders.length-> -1<=nth a i/\nth a i<l.length
 used: ∀T:Nat,T<6->nth s.used T=usdI l a T x.orders.length
 grp: ∀i,i<x.orders.length->0<=nth a i-> ∀t,t<x.orders.length->(nth l (nth a i).toNat).set.toNat.testBit t=true->nth a t=nth a i
 old: ∀i,i<x.orders.length->k<=i->0<=nth a i-> ∃t,t<k/\(nth l (nth a i).toNat).set.toNat.testBit t=true
 own: ∀i,i<x.orders.length->0<=nth a i->(nth l (nth a i).toNat).set.toNat.testBit i=true
def skS (s:St):St:= { s with ix:=s.ix+1 }
def nxS (s:St) (c:Col):St:=⟨s.ix+1,((s.cov.toNat|||c.set.toNat:Nat):Int),s.used.set c.typ.toNat (nth s.used c.typ.toNat+1)⟩
theorem Nd.skip {x:Inst} {l:List Col} {a:List Int} {s:St} {k:Nat} (h:Nd x l a s k) (hk:k<x.orders.length) (ho:0<=nth a k-> ∃t,t<k/\(nth l (nth a k).toNat).set.toNat.testBit t=true):Nd x l a (skS s) (k+1) :=
 ⟨h.len,by simp only [skS,h.ix];omega,⟨h.v.len,by have:=h.ix;simp only [skS];omega,h.v.cov,h.v.used⟩,h.cov,h.rng,h.used,h.grp,fun i hi hki h0=>by
  obtain ⟨t,h1,h2⟩:=h.old i hi (by omega) h0
  exact ⟨t,by omega,h2⟩,h.own⟩
theorem Nd.skip' {x:Inst} {l:List Col} {a:List Int} {s:St} {k:Nat} (h:Nd x l a s k) (hk:k<x.orders.length):Nd x l a (skS s) (k+1):=h.skip hk fun h0=>h.old k hk (Nat.le_refl _) h0
theorem Zdk {x:Inst} {l ys:List Col} (hc:Ctx x l ys) {a:List Int} {s:St} {k j:Nat} (h:Nd x l a s k) (hk:k<x.orders.length) (hj:j<l.length):Zgn x l a j k=true↔(YG x s (nth l j)=true/\tzN (nth l j).set.toNat=(k:Int)):=by
 obtain ⟨hS,hS0,hS1,hS2⟩:=hc.set (Zn hj);obtain ⟨⟨ht0,ht1⟩,_⟩:=hc.typ (Zn hj);have ht6:=hc.t6;have hu:=h.used (nth l j).typ.toNat (by omega);rw [show (((nth l j).typ.toNat:Nat):Int)=(nth l j).typ by omega] at hu;rw [Kl hS0 hS1 hc.n4 hk];simp only [Zgn,YG,ZfK,Bool.and_eq_true,decide_eq_true_eq,Q5,h.len,hu]
 constructor
 ·rintro ⟨h1,h2,h3⟩;refine ⟨⟨Nat.eq_of_testBit_eq fun i=> ?_,h2⟩,h1,fun i hi hb=>(h3 i hi hb).2⟩;rw [Nat.testBit_and,Nat.zero_testBit]
  cases hb:(nth l j).set.toNat.testBit i with
  | false=>simp
  | true =>
   have hi:=(hS2 i hb).1;rw [h.cov i hi,Bool.and_true,decide_eq_false_iff_not];have:=(h3 i hi hb).1;omega
 ·rintro ⟨⟨h1,h2⟩,h3,h4⟩;refine ⟨h3,h2,fun i hi hb=>⟨?_,h4 i hi hb⟩⟩;have:=congrArg (fun z=>z.testBit i) h1;simp only [Nat.testBit_and,Nat.zero_testBit,hb,Bool.and_true] at this;rw [h.cov i hi,decide_eq_false_iff_not] at this;omega
theorem Ub {x:Inst} {l:List Col} {a:List Int} {k:Nat} {S:Nat} {j:Nat} (hl:a.length=x.orders.length) (hk:k<x.orders.length) (hb:S.testBit k=true) (hneg: ∀i,i<x.orders.length->S.testBit i=true->nth a i<0/\k<=i) (hfr: ∀i,i<x.orders.length->S.testBit i=false->nth a i≠(j:Int)) (T:Int) :
  ∀m,m<=x.orders.length->usdI l (Zcz S a j) T m=usdI l a T m+(if k<m/\(nth l j).typ=T then 1 else 0)
 | 0,_=>by simp [usdI]
 | i+1,hm=>by
  have hi:i<a.length:=by omega
  rw [usdI,usdI,Ub hl hk hb hneg hfr T i (by omega)];have Zx: ∀t,t<i->nth (Zcz S a j) t=if S.testBit t=true then (j:Int) else nth a t:=fun t ht=>ZM (by omega)
  cases hs:S.testBit i with
  | false =>
   have e:ZfP l (Zcz S a j) T i=ZfP l a T i:=by
    rw [ZfP,ZfP,ZM hi,hs,if_neg (by simp)]
    by_cases h0:0<=nth a i
    ·have ef:ZoE (Zcz S a j) i=ZoE a i:=by
      rw [Bool.eq_iff_iff,QC,QC,ZM hi,hs,if_neg (by simp)];refine ⟨fun g t ht=> ?_,fun g t ht=> ?_⟩
      ·have:=g t ht;rw [Zx t ht] at this
       split at this
       ·rename_i hst;have:=(hneg t (by omega) hst).1;omega
       ·exact this
      ·rw [Zx t ht]
       split
       ·exact fun e=>hfr i (by omega) hs e.symm
       ·exact g t ht
     rw [ef]
    ·simp [h0]
   rw [e]
   have hne: ¬k=i:=fun e=>by rw [<- e,hb] at hs;cases hs
   have:(k<i+1/\(nth l j).typ=T)↔(k<i/\(nth l j).typ=T):=⟨fun g=>⟨by omega,g.2⟩,fun g=>⟨by omega,g.2⟩⟩;simp only [this];omega
  | true =>
   obtain ⟨hn,hki⟩:=hneg i (by omega) hs
   have e2:ZfP l a T i=false:=by
    rw [ZfP,decide_eq_false (by omega),Bool.false_and]
   have e1:ZfP l (Zcz S a j) T i=(decide ((nth l j).typ=T)&&decide (k=i)):=by
    rw [ZfP,ZM hi,hs,if_pos rfl,decide_eq_true (by omega),Bool.true_and,Int.toNat_natCast]
    congr 1
    rw [Bool.eq_iff_iff,QC,ZM hi,hs,if_pos rfl,decide_eq_true_eq];refine ⟨fun g=> ?_,fun g t ht=> ?_⟩
    ·rcases Nat.lt_or_ge k i with h1 | h1
     ·have:=g k h1;rw [Zx k h1,hb,if_pos rfl] at this;exact absurd rfl this
     ·omega
    ·subst g
     have hst:S.testBit t=false:=by
      cases hst:S.testBit t with
      | false=>rfl
      | true=>have:=(hneg t (by omega) hst).2;omega
     rw [Zx t ht,hst,if_neg (by simp)];exact hfr t (by omega) hst
   rw [e1,e2]
   by_cases hT:(nth l j).typ=T
   ·by_cases hk2:k=i
    ·simp [hT,hk2]
    ·have:k<i:=by omega
     have h3:k<i+1:=by omega
     simp [hT,hk2,this,h3]
   ·simp [hT]
theorem Nd.child {x:Inst} {l ys:List Col} (hc:Ctx x l ys) {a:List Int} {s:St} {k j:Nat} (h:Nd x l a s k) (hk:k<x.orders.length) (hj:j<l.length) (hcan:Zgn x l a j k=true):Nd x l (Zcz (nth l j).set.toNat a j) (nxS s (nth l j)) (k+1):=by
 obtain ⟨hS,hS0,hS1,hS2⟩:=hc.set (Zn hj);obtain ⟨⟨ht0,ht1⟩,_⟩:=hc.typ (Zn hj);have ht6:=hc.t6;have hl6:s.used.length=6:=h.v.len;have hu:=h.used (nth l j).typ.toNat (by omega);rw [show (((nth l j).typ.toNat:Nat):Int)=(nth l j).typ by omega] at hu;have hcan':=hcan;simp only [Zgn,Bool.and_eq_true,decide_eq_true_eq,Q5,h.len] at hcan';obtain ⟨hb,hcnt,hneg⟩:=hcan';rw [<- hu] at hcnt;have hcount:=hc.ok.typ.2 (nth l j).typ.toNat (by omega);have hak:=(hneg k hk hb).1
 have hfr: ∀i,i<x.orders.length->(nth l j).set.toNat.testBit i=false->nth a i≠(j:Int):=fun i hi _ e=>by
  have:=h.grp i hi (by omega) k hk (by rw [e,Int.toNat_natCast];exact hb);omega
 obtain ⟨C,hC,hC2⟩:=h.v.cov;have hS10:(nth l j).set.toNat<1024:=Nat.lt_of_lt_of_le hS1 (Nat.pow_le_pow_right (n:=2) (by omega) (show x.orders.length<=10 by have:=hc.n4;omega));refine ⟨by rw [VW];exact h.len,by simp only [nxS,h.ix];omega,⟨by simp only [StR,nxS,List.length_set];exact hl6,by have:=h.ix;simp only [nxS];omega,⟨_,rfl,?_⟩,fun t ht=> ?_⟩,fun i hi=> ?_,fun i hi=> ?_,fun T hT=> ?_,fun i hi h0 t ht hbt=> ?_,fun i hi hki h0=> ?_,fun i hi h0=> ?_⟩
 ·rw [hC,Int.toNat_natCast];exact Nat.or_lt_two_pow (n:=10) hC2 hS10
 ·simp only [nxS];rw [ZaH (by omega)]
  split
  ·have:=h.v.used (nth l j).typ.toNat (by omega);omega
  ·exact h.v.used t ht
 ·simp only [nxS,Int.toNat_natCast];rw [Nat.testBit_or,h.cov i hi,ZM (by rw [h.len];exact hi)]
  split
  ·rename_i hbi;simp [hbi]
  ·rename_i hbi;simp [hbi]
 ·rw [ZM (by rw [h.len];exact hi)]
  split
  ·omega
  ·exact h.rng i hi
 ·simp only [nxS];rw [ZaH (by omega),Ub h.len hk hb hneg hfr T _ (Nat.le_refl _),h.used T hT]
  by_cases e:(nth l j).typ=T
  ·rw [if_pos (by omega),if_pos ⟨hk,e⟩,hu,e];simp
  ·rw [if_neg (by omega),if_neg (fun g=>e g.2)];simp
 ·rw [ZM (i:=i) (by rw [h.len];exact hi)] at h0 hbt ⊢;rw [ZM (i:=t) (by rw [h.len];exact ht)]
  cases hbi:(nth l j).set.toNat.testBit i with
  | true =>
   rw [hbi,if_pos rfl,Int.toNat_natCast] at hbt;rw [hbt,if_pos rfl,if_pos rfl]
  | false =>
   rw [hbi,if_neg (by simp)] at h0 hbt;have e:=h.grp i hi h0 t ht hbt
   have:(nth l j).set.toNat.testBit t=false:=by
    cases hb2:(nth l j).set.toNat.testBit t with
    | false=>rfl
    | true=>have:=(hneg t ht hb2).1;omega
   rw [this,if_neg (by simp),if_neg (by simp)];exact e
 ·rw [ZM (by rw [h.len];exact hi)] at h0 ⊢
  cases hbi:(nth l j).set.toNat.testBit i with
  | true =>
   rw [if_pos rfl,Int.toNat_natCast];exact ⟨k,by omega,hb⟩
  | false =>
   rw [hbi,if_neg (by simp)] at h0;rw [if_neg (by simp)];obtain ⟨t,h1,h2⟩:=h.old i hi (by omega) h0;exact ⟨t,by omega,h2⟩
 ·rw [ZM (by rw [h.len];exact hi)] at h0 ⊢
  cases hbi:(nth l j).set.toNat.testBit i with
  | true=>rw [if_pos rfl,Int.toNat_natCast];exact hbi
  | false =>
   rw [hbi,if_neg (by simp)] at h0;rw [if_neg (by simp)];exact h.own i hi h0
def hasC (l:List Col) (j t:Nat):Bool:=(nth l j).set.toNat.testBit t
def anyC (l:List Col) (j k:Nat):Bool:=(List.range k).any (hasC l j)
theorem XL {l:List Col} {j k:Nat} :anyC l j (k+1)=(anyC l j k||hasC l j k):=by
 rw [anyC,anyC,List.range_succ,List.any_append];simp
theorem ZdR {l:List Col} {j k:Nat} :anyC l j k=true↔ ∃t,t<k/\hasC l j t=true:=by simp [anyC]
structure Prt (x:Inst) (l:List Col) (js:List Nat):Prop where
 lt: ∀j∈js,j<l.length
 set: ∀j∈js,∀t,hasC l j t=true->t<x.orders.length/\(nth x.orders t).off=false
 dis: ∀i∈js,∀j∈js,∀t,hasC l i t=true->hasC l j t=true->i=j
 nod:js.Nodup
 cnt: ∀j∈js,((js.filter fun i=>decide ((nth l i).typ=(nth l j).typ)).length:Int)<=(nth x.types (nth l j).typ.toNat).count
 srv: ∀k,k<x.orders.length->(nth x.orders k).off=false->(∃j∈js,hasC l j k=true)\/0<=(nth x.orders k).penalty
def ZfN (x:Inst) (l:List Col) (js:List Nat) (k:Nat):Int:=match js.find? (fun j=>hasC l j k) with
 | some j=>if anyC l j k=true then 0 else (nth l j).price
 | none=>if (nth x.orders k).off=true then 0 else skR x k
def ZjG (x:Inst) (l:List Col) (js:List Nat):Nat->Int
 | 0=>0
 | d+1=>ZfN x l js (x.orders.length-(d+1))+ZjG x l js d
structure PNd (x:Inst) (l:List Col) (js:List Nat) (a:List Int) (k:Nat):Prop where
 len:a.length=x.orders.length
 pos: ∀i,i<x.orders.length-> ∀j∈js,hasC l j i=true->nth a i=if anyC l j k=true then (j:Int) else-1
 neg: ∀i,i<x.orders.length->(∀j∈js,hasC l j i=false)->nth a i= -1
 used: ∀T,usdI l a T x.orders.length=(js.filter fun j=>decide ((nth l j).typ=T)&&anyC l j k).length
theorem PNd.same {x:Inst} {l:List Col} {js:List Nat} {a:List Int} {k:Nat} (h:PNd x l js a k) (hs: ∀j∈js,anyC l j (k+1)=anyC l j k):PNd x l js a (k+1) :=
 ⟨h.len,fun i hi j hj hb=>by rw [hs j hj];exact h.pos i hi j hj hb,h.neg,fun T=>by
  rw [h.used T]
  congr 1
  refine List.filter_congr fun j hj=> ?_
  rw [hs j hj]⟩
theorem Um {α:Type} [DecidableEq α] {p q:α->Bool} {a:α} : ∀ {l:List α},l.Nodup->a∈l->p a=false->q a=true->(∀b∈l,b≠a->p b=q b)->(l.filter q).length=(l.filter p).length+1
 | [],_,h,_,_,_=>by simp at h
 | b::l,hn,h,hp,hq,he=>by
  rw [List.nodup_cons] at hn
  by_cases e:b=a
  ·subst e;have:l.filter q=l.filter p:=List.filter_congr fun c hc=>(he c (List.mem_cons_of_mem _ hc) fun e=>hn.1 (e ▸ hc)).symm;rw [List.filter_cons_of_pos hq,List.filter_cons_of_neg (by rw [hp];simp),this];simp
  ·have ih:=Um hn.2 (by
    rcases List.mem_cons.1 h with h | h
    ·exact absurd h.symm e
    ·exact h) hp hq fun c hc=>he c (List.mem_cons_of_mem _ hc)
   have hb:=he b (by simp) e
   cases hqb:q b with
   | true=>rw [List.filter_cons_of_pos hqb,List.filter_cons_of_pos (by rw [hb,hqb])];simp only [List.length_cons,ih]
   | false=>rw [List.filter_cons_of_neg (by rw [hqb];simp),List.filter_cons_of_neg (by rw [hb,hqb];simp)];exact ih
theorem K5 {x:Inst} {l:List Col} {js:List Nat} (hp:Prt x l js): ∀(d:Nat) (a:List Int) (p:Int),d<=x.orders.length->PNd x l js a (x.orders.length-d)-> ∃q∈lvs x l d a p,q.2=p+ZjG x l js d
 | 0,a,p,_,_=>⟨(a,p),by simp [lvs],by simp [ZjG]⟩
 | d+1,a,p,hd,h=>by
  obtain ⟨k,hk⟩: ∃k,k=x.orders.length-(d+1):=⟨_,rfl⟩
  have hkn:k<x.orders.length:=by omega
  have hk1:x.orders.length-d=k+1:=by omega
  rw [<- hk] at h;rw [lvs,ZjG,<- hk];have goOn:(∀j∈js,anyC l j (k+1)=anyC l j k)-> ∀p',∃q∈lvs x l d a p',q.2=p'+ZjG x l js d:=fun hs p'=>K5 hp d a p' (by omega) (by rw [hk1];exact h.same hs)
  cases hf:js.find? (fun j=>hasC l j k) with
  | none =>
   have hno: ∀j∈js,hasC l j k=false:=fun j hj=>by
    have:=List.find?_eq_none.1 hf j hj;simpa using this
   have hs: ∀j∈js,anyC l j (k+1)=anyC l j k:=fun j hj=>by rw [XL,hno j hj,Bool.or_false]
   have hc:ZfN x l js k=if (nth x.orders k).off=true then 0 else skR x k:=by rw [ZfN,hf]
   have hneg:=h.neg k hkn hno
   by_cases ho:(nth x.orders k).off=true
   ·rw [if_pos (.inl ho),hc,if_pos ho,Int.zero_add];exact goOn hs p
   ·have hcond: ¬((nth x.orders k).off=true\/0<=nth a k):=fun g=>g.elim ho fun g=>by omega
    rw [if_neg hcond,hc,if_neg ho]
    have ho:(nth x.orders k).off=false:=by simpa using ho
    have hpen:0<=(nth x.orders k).penalty:=by
     rcases hp.srv k hkn ho with ⟨j,hj,hb⟩ | h
     ·rw [hno j hj] at hb;cases hb
     ·exact h
    obtain ⟨q,hq,e⟩:=goOn hs (p+skR x k);exact ⟨q,List.mem_append.2 (.inr (by rw [if_pos hpen];exact hq)),by rw [e];omega⟩
  | some j =>
   have hj:=List.mem_of_find?_eq_some hf
   have hb:hasC l j k=true:=by have:=List.find?_some (p:=fun j=>hasC l j k) hf;exact this
   have hc:ZfN x l js k=if anyC l j k=true then 0 else (nth l j).price:=by rw [ZfN,hf]
   have hpos:=h.pos k hkn j hj hb
   have hother: ∀i∈js,i≠j->hasC l i k=false:=fun i hi hne=>by
    cases hq:hasC l i k with
    | false=>rfl
    | true=>exact absurd (hp.dis i hi j hj k hq hb) hne
   have hoff:=(hp.set j hj k hb).2
   cases ha:anyC l j k with
   | true =>
    rw [if_pos (.inr (by rw [hpos,ha,if_pos rfl];omega)),hc,if_pos ha,Int.zero_add];refine goOn (fun i hi=> ?_) p
    by_cases e:i=j
    ·subst e;rw [XL,ha];rfl
    ·rw [XL,hother i hi e,Bool.or_false]
   | false =>
    rw [ha,if_neg (by simp)] at hpos
    have hcond: ¬((nth x.orders k).off=true\/0<=nth a k):=fun g=>g.elim (fun g=>by rw [hoff] at g;cases g) fun g=>by omega
    have hc2:ZfN x l js k=(nth l j).price:=by rw [hc,ha];rfl
    rw [if_neg hcond,hc2]
    have hno: ∀t,t<k->hasC l j t=false:=fun t ht=>by
     cases hq:hasC l j t with
     | false=>rfl
     | true=>rw [ZdR.2 ⟨t,ht,hq⟩] at ha;cases ha
    have hneg: ∀i,i<x.orders.length->(nth l j).set.toNat.testBit i=true->nth a i<0/\k<=i:=fun i hi hbi=>by
     have:=h.pos i hi j hj hbi;rw [ha,if_neg (by simp)] at this;refine ⟨by omega,?_⟩;rcases Nat.lt_or_ge i k with h1 | h1
     ·have h2:hasC l j i=true:=hbi;rw [hno i h1] at h2;cases h2
     ·exact h1
    have hcnt:=hp.cnt j hj
    have hadd: ∀T,(js.filter fun i=>decide ((nth l i).typ=T)&&anyC l i (k+1)).length=(js.filter fun i=>decide ((nth l i).typ=T)&&anyC l i k).length+(if (nth l j).typ=T then 1 else 0):=fun T=>by
     by_cases e:(nth l j).typ=T
     ·rw [if_pos e];refine Um hp.nod hj (by rw [ha,Bool.and_false]) (by rw [XL,hb,Bool.or_true,e];simp) fun i hi hne=> ?_;rw [XL,hother i hi hne,Bool.or_false]
     ·rw [if_neg e,Nat.add_zero]
      congr 1
      refine List.filter_congr fun i hi=> ?_
      by_cases e2:i=j
      ·subst e2;rw [decide_eq_false e];simp
      ·rw [XL,hother i hi e2,Bool.or_false]
    have hle:(js.filter fun i=>decide ((nth l i).typ=(nth l j).typ)&&anyC l i (k+1)).length<=(js.filter fun i=>decide ((nth l i).typ=(nth l j).typ)).length:=by
     rw [<- List.countP_eq_length_filter,<- List.countP_eq_length_filter]
     exact List.countP_mono_left fun i _ h=>by
      simp only [Bool.and_eq_true] at h;exact h.1
    have hcan:Zgn x l a j k=true:=by
     simp only [Zgn,Bool.and_eq_true,decide_eq_true_eq,Q5,h.len];refine ⟨hb,?_,hneg⟩;have h1:=h.used (nth l j).typ;have h2:=hadd (nth l j).typ;rw [if_pos rfl] at h2;omega
    have hfr: ∀i,i<x.orders.length->(nth l j).set.toNat.testBit i=false->nth a i≠(j:Int):=fun i hi hbi e=>by
     by_cases hex: ∃i'∈js,hasC l i' i=true
     ·obtain ⟨i',hi',hbb⟩:=hex;have:=h.pos i hi i' hi' hbb
      split at this
      ·have:i'=j:=by omega
       subst this;have:hasC l i' i=false:=hbi;rw [this] at hbb;cases hbb
      ·omega
     ·have:=h.neg i hi fun i' hi'=>by
       cases hq:hasC l i' i with
       | false=>rfl
       | true=>exact absurd ⟨i',hi',hq⟩ hex
      omega
    have hch:PNd x l js (Zcz (nth l j).set.toNat a j) (k+1):=by
     refine ⟨by rw [VW];exact h.len,fun i hi i' hi' hbb=> ?_,fun i hi hn=> ?_,fun T=> ?_⟩
     ·rw [ZM (by rw [h.len];exact hi)]
      by_cases e:i'=j
      ·subst e;have:(nth l i').set.toNat.testBit i=true:=hbb;rw [if_pos this,if_pos (by rw [XL,hb,Bool.or_true])]
      ·have:(nth l j).set.toNat.testBit i=false:=by
        cases hq:(nth l j).set.toNat.testBit i with
        | false=>rfl
        | true=>exact absurd (hp.dis i' hi' j hj i hbb hq) e
       rw [this,if_neg (by simp),XL,hother i' hi' e,Bool.or_false];exact h.pos i hi i' hi' hbb
     ·rw [ZM (by rw [h.len];exact hi)];have:(nth l j).set.toNat.testBit i=false:=hn j hj;rw [this,if_neg (by simp)];exact h.neg i hi hn
     ·rw [Ub h.len hkn hb hneg hfr T _ (Nat.le_refl _),h.used T,hadd T];simp [hkn]
    obtain ⟨q,hq,e⟩:=K5 hp d _ (p+(nth l j).price) (by omega) (by rw [hk1];exact hch);exact ⟨q,List.mem_append.2 (.inl (List.mem_flatMap.2 ⟨j,List.mem_range.2 (hp.lt j hj),by rw [if_pos hcan];exact hq⟩)),by rw [e];omega⟩
theorem Kr {ok:List Vis->Bool} {col:List Vis->Col} {better:Col->Col->Bool} (hb: ∀a b,(better a b=true->a.price<=b.price)/\(better a b=false->b.price<=a.price)): ∀(L:List (List Vis)) (b:Col×Bool),(b.2=true->(L.foldl (WW ok col better) b).2=true/\(L.foldl (WW ok col better) b).1.price<=b.1.price) /\
  ∀m∈L,ok m=true->(L.foldl (WW ok col better) b).2=true/\(L.foldl (WW ok col better) b).1.price<=(col m).price
 | [],b=>⟨fun h=>⟨h,Int.le_refl _⟩,fun m hm=>by simp at hm⟩
 | l::L,b=>by
  rw [List.foldl_cons];obtain ⟨g1,g2⟩:=Kr hb L (WW ok col better b l)
  have hu:(b.2=true->(WW ok col better b l).2=true/\(WW ok col better b l).1.price<=b.1.price)/\(ok l=true->(WW ok col better b l).2=true/\(WW ok col better b l).1.price<=(col l).price):=by
   unfold WW
   split
   ·rename_i hc;refine ⟨fun h=>⟨rfl,?_⟩,fun _=>⟨rfl,Int.le_refl _⟩⟩;rcases hc.2 with h2 | h2
    ·rw [h2] at h;cases h
    ·exact (hb _ _).1 h2
   ·rename_i hc;refine ⟨fun h=>⟨h,Int.le_refl _⟩,fun h=> ?_⟩
    have h2:b.2=true:=by
     cases h3:b.2 with
     | true=>rfl
     | false=>exact absurd ⟨h,.inl h3⟩ hc
    have h4:better (col l) b.1=false:=by
     cases h3:better (col l) b.1 with
     | false=>rfl
     | true=>exact absurd ⟨h,.inr h3⟩ hc
    exact ⟨h2,(hb _ _).2 h4⟩
  refine ⟨fun h=> ?_,fun m hm hk=> ?_⟩
  ·obtain ⟨h1,h2⟩:=hu.1 h;obtain ⟨h3,h4⟩:=g1 h1;exact ⟨h3,Int.le_trans h4 h2⟩
  ·rcases List.mem_cons.1 hm with rfl | hm
   ·obtain ⟨h1,h2⟩:=hu.2 hk;obtain ⟨h3,h4⟩:=g1 h1;exact ⟨h3,Int.le_trans h4 h2⟩
   ·exact g2 m hm hk
theorem VR {f:Nat->Int} : ∀ {js:List Nat},(∀i∈js,f i=0)->(js.map f).sum=0
 | [],_=>rfl
 | a::js,h=>by rw [List.map_cons,List.sum_cons,h a (by simp),VR fun i hi=>h i (List.mem_cons_of_mem _ hi)];rfl
theorem UK {f:Nat->Int} {j:Nat} : ∀ {js:List Nat},js.Nodup->j∈js->(∀i∈js,i≠j->f i=0)->(js.map f).sum=f j
 | [],_,h,_=>by simp at h
 | a::js,hn,h,h0=>by
  rw [List.nodup_cons] at hn;rw [List.map_cons,List.sum_cons]
  by_cases e:a=j
  ·subst e
   have:(js.map f).sum=0:=by
    exact VR fun i hi=>h0 i (List.mem_cons_of_mem _ hi) fun e=>hn.1 (e ▸ hi)
   omega
  ·rw [h0 a (by simp) e,UK hn.2 (by
    rcases List.mem_cons.1 h with h | h
    ·exact absurd h.symm e
    ·exact h) fun i hi=>h0 i (List.mem_cons_of_mem _ hi)]
   omega
theorem Qh {f g:Nat->Int} : ∀ {ks:List Nat},(ks.map fun k=>f k+g k).sum=(ks.map f).sum+(ks.map g).sum
 | []=>rfl
 | k::ks=>by
  rw [List.map_cons,List.map_cons,List.map_cons,List.sum_cons,List.sum_cons,List.sum_cons,Qh (ks:=ks)];omega
theorem Zec {f:Nat->Nat->Int} {ks:List Nat} : ∀ {js:List Nat},(ks.map fun k=>(js.map fun j=>f j k).sum).sum=(js.map fun j=>(ks.map fun k=>f j k).sum).sum
 | []=>VR (js:=ks) (f:=fun _=>(([]:List Nat).map fun _=>(0:Int)).sum) fun _ _=>rfl
 | j::js=>by
  simp only [List.map_cons,List.sum_cons];rw [Qh,Zec]
def Zau (x:Inst) (l:List Col) (js:List Nat) (k:Nat):Bool:= !(nth x.orders k).off&&js.all fun j=> !hasC l j k
theorem Zmy {x:Inst} {l:List Col} {js:List Nat} (hp:Prt x l js) (k:Nat):ZfN x l js k=(js.map fun j=>if hasC l j k=true/\anyC l j k=false then (nth l j).price else 0).sum+(if Zau x l js k=true then skR x k else 0):=by
 cases hf:js.find? (fun j=>hasC l j k) with
 | none =>
  have hno: ∀j∈js,hasC l j k=false:=fun j hj=>by
   have:=List.find?_eq_none.1 hf j hj;simpa using this
  rw [ZfN,hf,VR fun j hj=>if_neg fun h=>by rw [hno j hj] at h;cases h.1]
  have hall:(js.all fun j=> !hasC l j k)=true:=List.all_eq_true.2 fun j hj=>by rw [hno j hj];rfl
  simp only [Zau,hall,Bool.and_true]
  cases (nth x.orders k).off<;>simp
 | some j =>
  have hj:=List.mem_of_find?_eq_some hf
  have hb:hasC l j k=true:=by have:=List.find?_some (p:=fun j=>hasC l j k) hf;exact this
  have hall:(js.all fun j=> !hasC l j k)=false:=by
   rw [List.all_eq_false];exact ⟨j,hj,by rw [hb];simp⟩
  rw [ZfN,hf,UK hp.nod hj fun i hi hne=>if_neg fun h=>hne (hp.dis i hi j hj k h.1 hb)];simp only [Zau,hall,Bool.and_false,hb,true_and]
  cases anyC l j k<;>simp
theorem ZdW {l:List Col} {j:Nat} : ∀m,((List.range m).map fun k=>if hasC l j k=true/\anyC l j k=false then (nth l j).price else 0).sum=if anyC l j m=true then (nth l j).price else 0
 | 0=>by simp [anyC]
 | m+1=>by
  rw [List.range_succ,List.map_append,List.sum_append,ZdW m,XL]
  cases h1:anyC l j m<;>cases h2:hasC l j m<;>simp [h1,h2]
theorem Zd1 {x:Inst} {l:List Col} {js:List Nat} : ∀d,d<=x.orders.length->((List.range (x.orders.length-d)).map (ZfN x l js)).sum+ZjG x l js d=((List.range x.orders.length).map (ZfN x l js)).sum
 | 0,_=>by simp [ZjG]
 | d+1,h=>by
  have ih:=Zd1 (x:=x) (l:=l) (js:=js) d (by omega);rw [<- ih,ZjG,show x.orders.length-d=(x.orders.length-(d+1))+1 by omega,List.range_succ,List.map_append,List.sum_append];simp;omega
theorem ZmD {x:Inst} {l:List Col} {js:List Nat} (hp:Prt x l js) (hne: ∀j∈js,∃t,hasC l j t=true):ZjG x l js x.orders.length=(js.map fun j=>(nth l j).price).sum+((List.range x.orders.length).map fun k=>if Zau x l js k=true then skR x k else 0).sum:=by
 have h:=Zd1 (x:=x) (l:=l) (js:=js) x.orders.length (Nat.le_refl _);rw [Nat.sub_self] at h;simp only [List.range_zero,List.map_nil,List.sum_nil,Int.zero_add] at h;rw [h,show ZfN x l js=fun k=>(js.map fun j=>if hasC l j k=true/\anyC l j k=false then (nth l j).price else 0).sum+(if Zau x l js k=true then skR x k else 0) from funext fun k=>Zmy hp k,Qh,Zec]
 congr 2
 refine List.map_congr_left fun j hj=> ?_;obtain ⟨t,ht⟩:=hne j hj;rw [ZdW,if_pos (ZdR.2 ⟨t,(hp.set j hj t ht).1,ht⟩)]
theorem Zjm {x:Inst} {l:List Col} {js:List Nat} :PNd x l js (List.replicate x.orders.length (-1)) 0:=by
 have hz: ∀i,i<x.orders.length->nth (List.replicate x.orders.length (-1:Int)) i= -1:=fun i hi=>by rw [Zd (by simpa using hi)];simp
 refine ⟨by simp,fun i hi j _ _=>by rw [hz i hi];simp [anyC],fun i hi _=>hz i hi,fun T=> ?_⟩
 have h1: ∀m,m<=x.orders.length->usdI l (List.replicate x.orders.length (-1)) T m=0:=fun m=>by
  induction m with
  | zero=>intro _;rfl
  | succ m ih =>
   intro hm;rw [usdI,ih (by omega),ZfP,hz m (by omega),decide_eq_false (by omega)];rfl
 rw [h1 _ (Nat.le_refl _),List.filter_eq_nil_iff.2 (by simp [anyC])]
 rfl
theorem ZlZ {x:Inst} {S:Nat} {m:List Vis} (h:Gr x S m): ∀(f k:Nat),m.length=k+f->m∈lvR (fun l=>nextU x S l x.orders.length) f (m.take k)
 | 0,k,hl=>by
  have e:m.take k=m:=List.take_of_length_le (by omega);rw [lvR,e];simp
 | f+1,k,hl=>by
  have hk:k<m.length:=by omega
  have ha:=h.at k hk;rw [lvR,if_neg (fun e=>by rw [e] at ha;simp at ha),List.mem_flatMap];refine ⟨nth m k,ha,?_⟩
  have e:m.take k++ [nth m k]=m.take (k+1):=by rw [List.take_succ_eq_append_getElem hk,Zd hk]
  rw [e];exact ZlZ h f (k+1) (by omega)
theorem KU {x:Inst} {l:List Vis} (h:RightV x l):XA l≠0:=fun e=>by
 obtain ⟨v,hv⟩: ∃v,v∈l:=by
  cases l with
  | nil=>exact absurd rfl h.ne
  | cons v l=>exact ⟨v,by simp⟩
 have hi:=h.inr v hv;have hb:=(h.bit v.order.toNat).2 ⟨v,hv,by omega⟩;rw [e] at hb;simp at hb
theorem Vo {α:Type} {p:α->Bool} : ∀ {l:List α},l.countP p<=1->l.Pairwise fun a b=> ¬(p a=true/\p b=true)
 | [],_=> .nil
 | a::l,h=>by
  rw [List.countP_cons] at h;rw [List.pairwise_cons];refine ⟨fun b hb hh=> ?_,Vo (by omega)⟩;have:0<l.countP p:=List.countP_pos_iff.2 ⟨b,hb,hh.2⟩;rw [if_pos hh.1] at h;omega
theorem ZiT {x:Inst} {l:List Col} {rs:List Rte} {f:Rte->Nat} (hf:IFacts x)
  (hj: ∀r∈rs,f r<l.length/\(nth l (f r)).typ=r.typ/\(nth l (f r)).set=((XA r.visits:Nat):Int))
  (hr: ∀r∈rs,RightV x r.visits) (ht: ∀r∈rs,0<=r.typ)
  (htw: ∀i:Nat,i<x.orders.length->rs.countP (fun r=>hasO r.visits (i:Int))<=1)
  (hoff: ∀r∈rs,∀i:Nat,i<x.orders.length->hasO r.visits (i:Int)=true->(nth x.orders i).off=false)
  (hcr: ∀r∈rs,((rs.countP fun s=>decide (s.typ=r.typ):Nat):Int)<=(nth x.types r.typ.toNat).count)
  (hsv: ∀k:Nat,k<x.orders.length->(nth x.orders k).off=false->(∃r∈rs,hasO r.visits (k:Int)=true)\/0<=(nth x.orders k).penalty) :
  Prt x l (rs.map f)/\(∀j∈rs.map f,∃t,hasC l j t=true)/\ ∀r∈rs,∀t,hasC l (f r) t=hasO r.visits (t:Int):=by
 have hb: ∀r∈rs,∀t:Nat,hasC l (f r) t=hasO r.visits (t:Int):=fun r h t=>by
  rw [Bool.eq_iff_iff,hasC,(hj r h).2.2,Int.toNat_natCast,(hr r h).bit,ZV]
 have hlt: ∀r∈rs,∀t:Nat,hasO r.visits (t:Int)=true->t<x.orders.length:=fun r h t e=>by
  obtain ⟨v,hv,e⟩:=ZV.1 e;have:=(hr r h).inr v hv;omega
 have hpw:rs.Pairwise fun a b=> ∀t:Nat,¬(hasO a.visits (t:Int)=true/\hasO b.visits (t:Int)=true):=by
  rw [List.pairwise_iff_getElem];intro i j hi hj' hij t hh;have htl:=hlt _ (List.getElem_mem hi) t hh.1;exact List.pairwise_iff_getElem.1 (Vo (htw t htl)) i j hi hj' hij hh
 have hne: ∀r∈rs,∃t:Nat,hasO r.visits (t:Int)=true:=fun r h=>by
  obtain ⟨v,hv⟩: ∃v,v∈r.visits:=by
   cases e:r.visits with
   | nil=>exact absurd e (hr r h).ne
   | cons v m=>exact ⟨v,by simp⟩
  have:=(hr r h).inr v hv;exact ⟨v.order.toNat,ZV.2 ⟨v,hv,by omega⟩⟩
 have hinj: ∀a∈rs,∀b∈rs,∀t:Nat,hasO a.visits (t:Int)=true->hasO b.visits (t:Int)=true->a=b:=fun a ha b hb' t h1 h2=>by
  obtain ⟨i,hi,rfl⟩:=List.getElem_of_mem ha;obtain ⟨j,hj',rfl⟩:=List.getElem_of_mem hb';rcases Nat.lt_trichotomy i j with h | h | h
  ·exact absurd ⟨h1,h2⟩ (List.pairwise_iff_getElem.1 hpw i j hi hj' h t)
  ·subst h;rfl
  ·exact absurd ⟨h2,h1⟩ (List.pairwise_iff_getElem.1 hpw j i hj' hi h t)
 refine ⟨⟨fun j h=> ?_,fun j h t e=> ?_,fun i hi j hj' t h1 h2=> ?_,?_,fun j h=> ?_,fun k hk ho=> ?_⟩,fun j h=> ?_,hb⟩
 ·obtain ⟨r,hq,rfl⟩:=List.mem_map.1 h;exact (hj r hq).1
 ·obtain ⟨r,hq,rfl⟩:=List.mem_map.1 h;rw [hb r hq] at e;exact ⟨hlt r hq t e,hoff r hq t (hlt r hq t e) e⟩
 ·obtain ⟨a,ha,rfl⟩:=List.mem_map.1 hi;obtain ⟨b,hb',rfl⟩:=List.mem_map.1 hj';rw [hb a ha] at h1;rw [hb b hb'] at h2;rw [hinj a ha b hb' t h1 h2]
 ·rw [List.Nodup,List.pairwise_map];refine hpw.imp_of_mem fun {a b} ha hb' h e=> ?_;obtain ⟨t,ht⟩:=hne a ha;refine h t ⟨ht,?_⟩;rw [<- hb b hb',<- e,hb a ha];exact ht
 ·obtain ⟨r,hq,rfl⟩:=List.mem_map.1 h;rw [<- List.countP_eq_length_filter,List.countP_map,(hj r hq).2.1]
  have:rs.countP ((fun i=>decide ((nth l i).typ=r.typ))∘f)=rs.countP fun s=>decide (s.typ=r.typ):=List.countP_congr fun s hs=>by
   simp only [Function.comp,(hj s hs).2.1]
  rw [this];exact hcr r hq
 ·rcases hsv k hk ho with ⟨r,h,e⟩ | h
  ·exact .inl ⟨f r,List.mem_map.2 ⟨r,h,rfl⟩,by rw [hb r h];exact e⟩
  ·exact .inr h
 ·obtain ⟨r,hq,rfl⟩:=List.mem_map.1 h;obtain ⟨t,ht⟩:=hne r hq;exact ⟨t,by rw [hb r hq];exact ht⟩
theorem Zjj {n:Nat} {us:List Int} (h: ∀u∈us,0<=u/\u<(n:Int)) (ht: ∀i:Nat,i<n->us.countP (fun u=>decide (u=(i:Int)))<=1):us.Nodup:=by
 rw [List.Nodup,List.pairwise_iff_getElem];intro i j hi hj hij e;have hu:=h _ (List.getElem_mem hi)
 have e1:us[i]=((us[i].toNat:Nat):Int):=by omega
 refine List.pairwise_iff_getElem.1 (Vo (ht us[i].toNat (by omega))) i j hi hj hij ⟨decide_eq_true e1,decide_eq_true ?_⟩;rw [<- e];exact e1
theorem Zlp {n:Nat} {g:Int->Int} : ∀ {us:List Int},(∀u∈us,0<=u/\u<(n:Int))->us.Nodup->((List.range n).map fun k:Nat=>if (k:Int)∈us then g (k:Int) else 0).sum=(us.map g).sum
 | [],_,_=>VR fun k _=>by simp
 | u::us,h,hn=>by
  rw [List.nodup_cons] at hn;have hu:=h u (by simp);have ih:=Zlp (g:=g) (fun v hv=>h v (List.mem_cons_of_mem _ hv)) hn.2
  have e:(fun k:Nat=>if (k:Int)∈u::us then g (k:Int) else 0)=fun k:Nat=>(if (k:Int)=u then g (k:Int) else 0)+(if (k:Int)∈us then g (k:Int) else 0):=funext fun k=>by
   by_cases e:(k:Int)=u
   ·rw [if_pos (by rw [e];simp),if_pos e,if_neg (by rw [e];exact hn.1)];omega
   ·by_cases e2:(k:Int)∈us
    ·rw [if_pos (List.mem_cons_of_mem _ e2),if_neg e,if_pos e2];omega
    ·rw [if_neg (by rw [List.mem_cons];exact fun h=>h.elim e e2),if_neg e,if_neg e2];rfl
  rw [e,Qh,ih,List.map_cons,List.sum_cons];rw [UK (j:=u.toNat) List.nodup_range (List.mem_range.2 (by omega)) fun i _ hne=>if_neg fun e=>hne (by omega)]
  have eu:((u.toNat:Nat):Int)=u:=by omega
  rw [eu,if_pos rfl]
theorem Zmx {x:Inst} {l:List Col} {rs:List Rte} {us:List Int} {f:Rte->Nat} (hb: ∀r∈rs,∀t:Nat,hasC l (f r) t=hasO r.visits (t:Int))
  (hu: ∀u∈us,0<=u/\u<(x.orders.length:Int))
  (htw: ∀i:Nat,i<x.orders.length->rs.countP (fun r=>hasO r.visits (i:Int))+us.countP (fun u=>decide (u=(i:Int)))<=1)
  (hst: ∀i:Nat,i<x.orders.length->(i:Int)∈us->(nth x.orders i).off=false)
  (hms: ∀i:Nat,i<x.orders.length->(nth x.orders i).off=false->1<=rs.countP (fun r=>hasO r.visits (i:Int))+us.countP (fun u=>decide (u=(i:Int)))) :
  ((List.range x.orders.length).map fun k=>if Zau x l (rs.map f) k=true then skR x k else 0).sum=(us.map fun u=>skR x u.toNat).sum:=by
 have hn:=Zjj hu fun i hi=>by have:=htw i hi;omega
 rw [<- Zlp (n:=x.orders.length) (g:=fun u=>skR x u.toNat) hu hn]
 congr 1
 refine List.map_congr_left fun k hk=> ?_;have hk:=List.mem_range.1 hk
 have e:Zau x l (rs.map f) k=true↔(k:Int)∈us:=by
  simp only [Zau,Bool.and_eq_true,Bool.not_eq_true',List.all_eq_true]
  constructor
  ·rintro ⟨ho,hno⟩
   have hz:rs.countP (fun r=>hasO r.visits (k:Int))=0:=List.countP_eq_zero.2 fun r hr=>by
    have:=hno (f r) (List.mem_map.2 ⟨r,hr,rfl⟩);rw [hb r hr] at this;rw [this];simp
   have h1:=hms k hk ho;obtain ⟨u,h2,h3⟩:=List.countP_pos_iff.1 (show 0<us.countP (fun u=>decide (u=(k:Int))) by omega);rw [decide_eq_true_eq] at h3;exact h3 ▸ h2
  ·intro h;refine ⟨hst k hk h,fun j hj=> ?_⟩;obtain ⟨r,hr,rfl⟩:=List.mem_map.1 hj;rw [hb r hr];have h1:0<us.countP (fun u=>decide (u=(k:Int))):=List.countP_pos_iff.2 ⟨k,h,by simp⟩;have h2:=htw k hk
   cases hc:hasO r.visits (k:Int) with
   | false=>rfl
   | true =>
    have:0<rs.countP (fun r=>hasO r.visits (k:Int)):=List.countP_pos_iff.2 ⟨r,hr,hc⟩;omega
 by_cases h:(k:Int)∈us
 ·rw [if_pos (e.2 h),if_pos h,Int.toNat_natCast]
 ·rw [if_neg fun g=>h (e.1 g),if_neg h]
def Lx (x:Inst) (ys:List Col) (D:Nat) (s:St):Int:=Wt x.orders.length (mI x) x (fstF x.orders.length ys) (skF x x.orders.length) D (Vi x.orders.length (mI x) s)
theorem Zmb {x:Inst} {ys:List Col} {D:Nat} {s:St} (h:s.ix=x.orders.length):Lx x ys D s=0:=by
 unfold Lx
 cases D with
 | zero=>rfl
 | succ D =>
  rw [Wt,if_pos];simp only [Vi];have:=JK (n:=x.orders.length) (m:=mI x) (cov:=s.cov) (x.orders.length-s.ix.toNat) s.ix.toNat;omega
theorem JD {n:Nat} {m:Int} {s:St} {k:Nat} (hk:s.ix=k) (hkn:k<n) (hc:sHas m k=false\/sHas s.cov k=true):Vi n m s=Vi n m (skS s):=by
 obtain ⟨i,v,u⟩:=s;simp only at hk hc;subst hk;simp only [Vi,skS,St.mk.injEq,and_true,and_self];rw [show ((k:Int)+1).toNat=k+1 by omega,Int.toNat_natCast,KV hkn hc]
theorem QV {n:Nat} {m:Int} {s:St} {k:Nat} (hk:s.ix=k) (h1:sHas m k=true) (h2:sHas s.cov k=false):Vi n m s=s:=by
 obtain ⟨i,v,u⟩:=s;simp only at hk h2;subst hk;simp only [Vi,St.mk.injEq,and_true];rw [Int.toNat_natCast,Q0 (by rw [h1,h2];simp)]
theorem KZ {n:Nat} {m:Int} {s:St} {c:Col} {k:Nat} (hk:s.ix=k) (hkn:k<n) (hn:n<=4) (hb:c.set.toNat.testBit k=true):Wp n m s c=Vi n m (nxS s c):=by
 have e:=JD (n:=n) (m:=m) (s:=⟨s.ix,((s.cov.toNat|||c.set.toNat:Nat):Int),s.used.set c.typ.toNat (nth s.used c.typ.toNat+1)⟩) (k:=k) hk hkn (.inr (by
  simp only
  rw [XB _ _ (by omega),Nat.testBit_or,hb,Bool.or_true]))
 exact e
theorem Uc {x:Inst} {l ys:List Col} (hc:Ctx x l ys) {k:Nat} (hk:k<x.orders.length) {c:Col} (hm:c∈X7 ys k):c∈ys/\c∈l/\tzN c.set.toNat=(k:Int)/\c.set.toNat.testBit k=true:=by
 rw [X7,List.mem_filter,decide_eq_true_eq] at hm;have hl:=ZaK hc.ch hm.1;obtain ⟨_,h0,h1,_⟩:=hc.set hl;exact ⟨hm.1,hl,hm.2,((Kl h0 h1 hc.n4 hk).1 hm.2).1⟩
theorem Zhb {x:Inst} {l ys:List Col} (hc:Ctx x l ys) {D:Nat} (hD:10<D) {s:St} {k:Nat} (hv:StV x.orders.length s) (hk:s.ix=k) (hkn:k<x.orders.length) (ho:(nth x.orders k).off=false) (hcv:s.cov.toNat.testBit k=false) :
  Lx x ys D s=if 0<=skpF x k then We ((X7 ys k).foldl (fun o c=>if YG x s c=true then We o c.price (Lx x ys D (nxS s c)) else o) (-1)) (skpF x k) (Lx x ys D (skS s)) else (X7 ys k).foldl (fun o c=>if YG x s c=true then We o c.price (Lx x ys D (nxS s c)) else o) (-1):=by
 have hn:=hc.n4
 have e1:Lx x ys D s=Wt x.orders.length (mI x) x (fstF x.orders.length ys) (skF x x.orders.length) (D+1) s:=by
  rw [Lx,QV hk (by rw [Za5 hn hkn,ho];rfl) (by rw [QX hv (by omega),hcv])];exact WD hc.ok _ _ s hv (by have:=hv.ix;omega) (by have:=hv.ix;omega)
 rw [e1,Wt,if_neg (by omega)]
 have e2:nth (fstF x.orders.length ys) s.ix.toNat=X7 ys k:=by rw [hk,Int.toNat_natCast,ZeF,if_pos hkn]
 have e3:nth (skF x x.orders.length) s.ix.toNat=skpF x k:=by rw [hk,Int.toNat_natCast,skF,Zd (by simpa using hkn)];simp
 have e4:(X7 ys k).foldl (fun o c=>if YG x s c=true then We o c.price (Wt x.orders.length (mI x) x (fstF x.orders.length ys) (skF x x.orders.length) D (Wp x.orders.length (mI x) s c)) else o) (-1)=(X7 ys k).foldl (fun o c=>if YG x s c=true then We o c.price (Lx x ys D (nxS s c)) else o) (-1) :=
  WN fun c hm o=>by rw [KZ hk hkn hn (Uc hc hkn hm).2.2.2];rfl
 simp only [e2,e3,e4]
 rfl
def Zcm (x:Inst) (ys:List Col) (D:Nat) (s:St) (c:Col):Bool:=YG x s c&&(decide (0<=Lx x ys D (nxS s c))&&decide (c.price+Lx x ys D (nxS s c)=Lx x ys D s))
noncomputable def Zdh (l:List Col) (d:Col):Nat:=open Classical in if h:Bst l l.length d then h.choose else 0
theorem Zg8 {l:List Col} {d:Col} (h:Bst l l.length d):Zdh l d<l.length/\nth l (Zdh l d)=d/\ ∀i,i<l.length->kd (nth l i)=kd d->d.price<(nth l i).price\/(d.price=(nth l i).price/\Zdh l d<=i):=by
 have e:Zdh l d=h.choose:=by rw [Zdh,dif_pos h]
 rw [e];exact h.choose_spec
noncomputable def gr (x:Inst) (l ys:List Col) (D:Nat):Nat->Nat->St->List Int->List Int
 | 0,_,_,a=>a
 | d+1,k,s,a=>if (nth x.orders k).off=true\/0<=nth a k then gr x l ys D d (k+1) (skS s) a else
  match (X7 ys k).find? (Zcm x ys D s) with
  | some c=>gr x l ys D d (k+1) (nxS s c) (Zcz c.set.toNat a (Zdh l c))
  | none=>gr x l ys D d (k+1) (skS s) a
theorem Vp {x:Inst} {l ys:List Col} (hc:Ctx x l ys) {a:List Int} {s:St} {k:Nat} (h:Nd x l a s k) (hk:k<x.orders.length) {c:Col} (hm:c∈X7 ys k) (hy:YG x s c=true):Zdh l c<l.length/\nth l (Zdh l c)=c/\Zgn x l a (Zdh l c) k=true:=by
 obtain ⟨h1,h2,h3,h4⟩:=Uc hc hk hm;obtain ⟨p1,p2,_⟩:=Zg8 (hc.ch.bst c h1);exact ⟨p1,p2,(Zdk hc h hk p1).2 (by rw [p2];exact ⟨hy,h3⟩)⟩
theorem Up {x:Inst} {l:List Col} {a:List Int} {k j:Nat} (hl:a.length=x.orders.length) (hcan:Zgn x l a j k=true):(nth l j).set.toNat.testBit k=true/\ ∀t,t<x.orders.length->(t<k\/0<=nth a t)->nth (Zcz (nth l j).set.toNat a j) t=nth a t:=by
 simp only [Zgn,Bool.and_eq_true,Q5,hl] at hcan;refine ⟨hcan.1,fun t ht h=> ?_⟩;rw [ZM (by omega)]
 cases hb:(nth l j).set.toNat.testBit t with
 | false=>simp
 | true=>have:=hcan.2.2 t ht hb;omega
theorem KC {x:Inst} {l ys:List Col} (hc:Ctx x l ys) {D:Nat} : ∀(d k:Nat) (s:St) (a:List Int),k+d=x.orders.length->Nd x l a s k->(gr x l ys D d k s a).length=x.orders.length/\ ∀t,t<x.orders.length->(t<k\/0<=nth a t)->nth (gr x l ys D d k s a) t=nth a t
 | 0,k,s,a,_,h=>⟨h.len,fun _ _ _=>rfl⟩
 | d+1,k,s,a,hd,h=>by
  have hk:k<x.orders.length:=by omega
  rw [gr];have skip:=KC hc (D:=D) d (k+1) (skS s) a (by omega) (h.skip' hk)
  split
  ·exact ⟨skip.1,fun t ht hh=>skip.2 t ht (hh.imp (by omega) id)⟩
  ·split
   ·rename_i c hf;have hsel:=List.find?_some hf;simp only [Zcm,Bool.and_eq_true] at hsel;obtain ⟨p1,p2,p3⟩:=Vp hc h hk (List.mem_of_find?_eq_some hf) hsel.1;have hch:=h.child hc hk p1 p3;rw [p2] at hch;have ho:=(Up h.len p3).2;rw [p2] at ho;obtain ⟨g1,g2⟩:=KC hc (D:=D) d (k+1) (nxS s c) _ (by omega) hch;refine ⟨g1,fun t ht hh=> ?_⟩
    rw [g2 t ht (by
     rcases hh with h1 | h1
     ·left;omega
     ·right;rw [ho t ht (.inr h1)];exact h1),ho t ht hh]
   ·exact ⟨skip.1,fun t ht hh=>skip.2 t ht (hh.imp (by omega) id)⟩
theorem UO {x:Inst} {l:List Col} : ∀(d:Nat) (a:List Int) (p:Int),d<=x.orders.length->a.length=x.orders.length-> ∀q∈lvs x l d a p,q.1.length=x.orders.length/\ ∀t,t<x.orders.length->(t<x.orders.length-d\/0<=nth a t)->nth q.1 t=nth a t
 | 0,a,p,_,h,q,hq=>by
  simp only [lvs,List.mem_cons,List.not_mem_nil,or_false] at hq;subst hq;exact ⟨h,fun _ _ _=>rfl⟩
 | d+1,a,p,hd,h,q,hq=>by
  rw [lvs] at hq
  split at hq
  ·obtain ⟨g1,g2⟩:=UO d a p (by omega) h q hq;exact ⟨g1,fun t ht hh=>g2 t ht (hh.imp (by omega) id)⟩
  ·rw [List.mem_append,List.mem_flatMap] at hq;rcases hq with ⟨j,hj,hq⟩ | hq
   ·split at hq
    ·rename_i hcan;have ho:=(Up h hcan).2;obtain ⟨g1,g2⟩:=UO d _ _ (by omega) (by rw [VW];exact h) q hq;refine ⟨g1,fun t ht hh=> ?_⟩
     rw [g2 t ht (by
      rcases hh with h1 | h1
      ·left;omega
      ·right;rw [ho t ht (.inr h1)];exact h1),ho t ht hh]
    ·simp at hq
   ·split at hq
    ·obtain ⟨g1,g2⟩:=UO d a _ (by omega) h q hq;exact ⟨g1,fun t ht hh=>g2 t ht (hh.imp (by omega) id)⟩
    ·simp at hq
theorem KE.refl {n:Nat} {l:List Col} {a:List Int} :KE n l a a:=fun _ _=>⟨rfl,Int.le_refl _⟩
theorem Zth {l:List Col} {a:Int} (h:a<0):ky l a=(1,0,0):=if_pos h
theorem Zbs {l:List Col} {a:Int} (h:0<=a):ky l a=(0,(nth l a.toNat).typ,(nth l a.toNat).set):=if_neg (by omega)
theorem Zyc {l:List Col} {i j:Nat} :ky l (i:Int)=ky l (j:Int)↔kd (nth l i)=kd (nth l j):=by
 rw [Zbs (by omega),Zbs (by omega)];simp [kd]
theorem ZkR {x:Inst} {s:St} {r:Col->Int} {ls:List Col} (hp: ∀c∈ls,0<=c.price) (hr: ∀c∈ls,YG x s c=true-> -1<=r c) {c:Col} (hc:c∈ls) (hy:YG x s c=true) (h0:0<=r c) :
  leP (ls.foldl (fun o c=>if YG x s c=true then We o c.price (r c) else o) (-1)) (c.price+r c):=by
 have e:=WN (f:=fun o c=>if YG x s c=true then We o c.price (r c) else o) (g:=fun o c=>if YG x s c=true then We o c.price (max (-1) (r c)) else o) (l:=ls) (b:=(-1:Int)) fun c hc o=>by
  by_cases hy:YG x s c=true
  ·have:=hr c hc hy;simp only [hy,if_true]
   congr 1;omega
  ·simp only [hy];rfl
 rw [e];have:=(Zhf (x:=x) (s:=s) (r:=fun c=>max (-1) (r c)) (fun c=>by omega) (l:=ls) (a:= -1) hp).2 c hc hy (by omega);simpa only [show max (-1) (r c)=r c by omega] using this
theorem Zce {x:Inst} {l ys:List Col} (hc:Ctx x l ys) {D:Nat} {s:St} (hv:StV x.orders.length s): -1<=Lx x ys D s:=(Yd (m:=mI x) hc.ok D _ (Zbd hv).1).1
theorem Zib {o p r:Int} (hr: -1<=r) (hp:0<=p):leP (We o p r) o/\(0<=r->leP (We o p r) (p+r)):=by
 unfold leP We
 split<;>omega
theorem Zvc {x:Inst} {l ys:List Col} (hc:Ctx x l ys) {D:Nat} (hD:10<D) {a:List Int} {s:St} {k:Nat} (h:Nd x l a s k) (hk:k<x.orders.length) (ho:(nth x.orders k).off=false) (hak:nth a k<0) {c:Col} (hm:c∈X7 ys k) (hy:YG x s c=true) (h0:0<=Lx x ys D (nxS s c)) :
  leP (Lx x ys D s) (c.price+Lx x ys D (nxS s c)):=by
 have hcv:s.cov.toNat.testBit k=false:=by rw [h.cov k hk];exact decide_eq_false (by omega)
 rw [Zhb hc hD h.v h.ix hk ho hcv]
 have nd: ∀e∈X7 ys k,YG x s e=true->StV x.orders.length (nxS s e):=fun e he hye=>by
  obtain ⟨p1,p2,p3⟩:=Vp hc h hk he hye;have:=(h.child hc hk p1 p3).v;rw [p2] at this;exact this
 have low:=ZkR (x:=x) (s:=s) (r:=fun c=>Lx x ys D (nxS s c)) (ls:=X7 ys k) (fun e he=>(hc.typ (Uc hc hk he).2.1).2) (fun e he hye=>Zce hc (nd e he hye)) hm hy h0
 split
 ·rename_i hs;have b:=(Zib (o:=(X7 ys k).foldl (fun o c=>if YG x s c=true then We o c.price (Lx x ys D (nxS s c)) else o) (-1)) (Zce hc (D:=D) (h.skip' hk).v) hs).1;have hp:=(hc.typ (Uc hc hk hm).2.1).2;unfold leP at *;omega
 ·exact low
theorem ZnE {x:Inst} {l ys:List Col} (hc:Ctx x l ys) {D:Nat} (hD:10<D) {a:List Int} {s:St} {k:Nat} (h:Nd x l a s k) (hk:k<x.orders.length) (ho:(nth x.orders k).off=false) (hak:nth a k<0) (hs:0<=skpF x k) (h0:0<=Lx x ys D (skS s)) :
  leP (Lx x ys D s) (skpF x k+Lx x ys D (skS s)):=by
 have hcv:s.cov.toNat.testBit k=false:=by rw [h.cov k hk];exact decide_eq_false (by omega)
 rw [Zhb hc hD h.v h.ix hk ho hcv,if_pos hs];exact (Zib (Zce hc (D:=D) (h.skip' hk).v) hs).2 h0
theorem Zh0 {x:Inst} {l ys:List Col} (hc:Ctx x l ys) {D:Nat} {a:List Int} {s:St} {k:Nat} (h:Nd x l a s k) (hk:k<x.orders.length) (ho:(nth x.orders k).off=true\/0<=nth a k):Lx x ys D s=Lx x ys D (skS s):=by
 unfold Lx;rw [JD h.ix hk (ho.imp (fun e=>by rw [Za5 hc.n4 hk,e];rfl) fun e=>by rw [QX h.v (by have:=hc.n4;omega),h.cov k hk];exact decide_eq_true e)]
theorem Jc {x:Inst} {l ys:List Col} (hc:Ctx x l ys) {D:Nat} (hD:10<D): ∀(d k:Nat) (s:St) (a b:List Int) (p:Int),k+d=x.orders.length->Nd x l a s k->Nd x l b s k->KE x.orders.length l a b-> ∀q∈lvs x l d b p,
  0<=Lx x ys D s/\p+Lx x ys D s<=q.2/\(q.2=p+Lx x ys D s->KL x.orders.length l (gr x l ys D d k s a) q.1)
 | 0,k,s,a,b,p,hd,ha,hb,he,q,hq=>by
  simp only [lvs,List.mem_cons,List.not_mem_nil,or_false] at hq;subst hq;rw [Zmb (by rw [ha.ix];omega)];exact ⟨by omega,by simp,fun _=> .inr he⟩
 | d+1,k,s,a,b,p,hd,ha,hb,he,q,hq=>by
  have hk:k<x.orders.length:=by omega
  have hkd:x.orders.length-(d+1)=k:=by omega
  have hneg: ∀t,t<x.orders.length->(0<=nth a t↔0<=nth b t):=fun t ht=>by
   have h1:=ha.cov t ht;rw [hb.cov t ht,decide_eq_decide] at h1;exact h1.symm
  rw [lvs,hkd] at hq;rw [gr]
  split at hq
  ·rename_i ho;have ho':(nth x.orders k).off=true\/0<=nth a k:=ho.imp id (hneg k hk).2;rw [if_pos ho',Zh0 hc ha hk ho'];exact Jc hc hD d (k+1) (skS s) a b p (by omega) (ha.skip' hk) (hb.skip' hk) he q hq
  ·rename_i ho;have ho': ¬((nth x.orders k).off=true\/0<=nth a k):=fun g=>ho (g.imp id (hneg k hk).1);rw [if_neg ho']
   have hoff:(nth x.orders k).off=false:=by
    cases e:(nth x.orders k).off with
    | false=>rfl
    | true=>exact absurd (.inl e) ho
   have hbk:nth b k<0:=Int.not_le.1 fun g=>ho (.inr g);have hak:nth a k<0:=Int.not_le.1 fun g=>ho' (.inr g)
   -- what was picked stands at k
   have hpick: ∀c,(X7 ys k).find? (Zcm x ys D s)=some c->YG x s c=true/\c∈ys/\(∀t,t<k->nth (gr x l ys D d (k+1) (nxS s c) (Zcz c.set.toNat a (Zdh l c))) t=nth a t)/\nth (gr x l ys D d (k+1) (nxS s c) (Zcz c.set.toNat a (Zdh l c))) k=Zdh l c/\nth l (Zdh l c)=c:=fun c hf=>by
    have hsel:=List.find?_some hf;simp only [Zcm,Bool.and_eq_true] at hsel;obtain ⟨p1,p2,p3⟩:=Vp hc ha hk (List.mem_of_find?_eq_some hf) hsel.1;have hch:=ha.child hc hk p1 p3;obtain ⟨c1,c2⟩:=Up ha.len p3;rw [p2] at hch c1 c2;have g2:=(KC hc (D:=D) d (k+1) (nxS s c) _ (by omega) hch).2;refine ⟨hsel.1,(Uc hc hk (List.mem_of_find?_eq_some hf)).1,fun t ht=> ?_,?_,p2⟩
    ·rw [g2 t (by omega) (.inl (by omega)),c2 t (by omega) (.inl ht)]
    ·rw [g2 k hk (.inl (by omega)),ZM (by rw [ha.len];exact hk),if_pos c1]
   rw [List.mem_append,List.mem_flatMap] at hq;rcases hq with ⟨j,hj,hq⟩ | hq
   ·have hj:=List.mem_range.1 hj
    split at hq
    ·rename_i hcan;obtain ⟨hy,htz⟩:=(Zdk hc hb hk hj).1 hcan;have hjl:=Zn hj;obtain ⟨d',hd',hkd',hpr⟩:=Zi2 hc.ch hjl
     have hst:d'.set=(nth l j).set/\d'.typ=(nth l j).typ:=by
      simp only [kd,Kd.mk.injEq] at hkd';exact ⟨hkd'.2,hkd'.1⟩
     have hm:d'∈X7 ys k:=by
      rw [X7,List.mem_filter,decide_eq_true_eq,hst.1];exact ⟨hd',htz⟩
     have hy':YG x s d'=true:=by simp only [YG,hst.1,hst.2] at hy ⊢;exact hy
     have hnx:nxS s d'=nxS s (nth l j):=by simp only [nxS,hst.1,hst.2]
     have hcb:=hb.child hc hk hj hcan;obtain ⟨cb1,cb2⟩:=Up hb.len hcan;have hqo:=(UO d _ _ (by omega) (by rw [VW];exact hb.len) q hq).2
     have hqt: ∀t,t<k->nth q.1 t=nth b t:=fun t ht=>by rw [hqo t (by omega) (.inl (by omega)),cb2 t (by omega) (.inl ht)]
     have hqk:nth q.1 k=j:=by rw [hqo k hk (.inl (by omega)),ZM (by rw [hb.len];exact hk),if_pos cb1]
     obtain ⟨i1,i2,_⟩:=Jc hc hD d (k+1) _ _ _ _ (by omega) hcb hcb KE.refl q hq;rw [<- hnx] at i1 i2;have hle:=Zvc hc hD ha hk hoff hak hm hy' i1;have hp0:=(hc.typ (Uc hc hk hm).2.1).2
     have hL0:0<=Lx x ys D s/\Lx x ys D s<=d'.price+Lx x ys D (nxS s d'):=by
      rcases hle with h | h
      ·-- the least price would be lacking: not so, azs the column leads on
       exfalso
       have hcv:s.cov.toNat.testBit k=false:=by rw [ha.cov k hk];exact decide_eq_false (by omega)
       have:=Zce hc (D:=D) ha.v;omega
      ·exact h
     refine ⟨hL0.1,by omega,fun hqc=> ?_⟩
     have hpe:d'.price=(nth l j).price:=by omega
     have hLe:d'.price+Lx x ys D (nxS s d')=Lx x ys D s:=by omega
     have hsel:Zcm x ys D s d'=true:=by simp only [Zcm,hy',decide_eq_true i1,decide_eq_true hLe,Bool.true_and]
     have hpos:=Zg8 (hc.ch.bst d' hd')
     have hpj:Zdh l d'<=j:=by
      rcases hpos.2.2 j hj hkd'.symm with h | h
      ·omega
      ·exact h.2
     cases hf:(X7 ys k).find? (Zcm x ys D s) with
     | none=>rw [List.find?_eq_none] at hf;exact absurd hsel (hf d' hm)
     | some c =>
      obtain ⟨k1,k2,k3,k4,k5⟩:=hpick c hf;simp only
      by_cases hcd:c=d'
      ·subst hcd;obtain ⟨p1,p2,p3⟩:=Vp hc ha hk hm hy';have hca:=ha.child hc hk p1 p3;rw [p2] at hca;rw [<- hnx] at hcb;refine (Jc hc hD d (k+1) _ _ _ _ (by omega) hca hcb (fun t ht=> ?_) q hq).2.2 (by omega);rw [hst.1,ZM (by rw [ha.len];exact ht),ZM (by rw [hb.len];exact ht)]
       cases hbt:(nth l j).set.toNat.testBit t with
       | true =>
        rw [if_pos rfl,if_pos rfl,Zyc,p2];exact ⟨hkd',by omega⟩
       | false =>
        rw [if_neg (by simp),if_neg (by simp)];exact he t ht
      ·-- an earlier kind
       have hlt:cfK c d'<0:=by
        have hpw:(X7 ys k).Pairwise fun a b=>cfK a b<0:=hc.ch.asc.filter _;obtain ⟨_,u,w,hab,hno⟩:=List.find?_eq_some_iff_append.1 hf;rw [hab] at hpw hm;rw [List.pairwise_append,List.pairwise_cons] at hpw;rcases List.mem_append.1 hm with h | h
        ·have:=hno d' h;rw [hsel] at this;simp at this
        ·rcases List.mem_cons.1 h with h | h
         ·exact absurd h.symm hcd
         ·exact hpw.2.1.1 d' h
       rw [U2] at hlt;refine .inl ⟨k,hk,fun t ht=> ?_,?_⟩
       ·rw [k3 t ht,hqt t ht];exact (he t (by omega)).1
       ·rw [k4,hqk,Zbs (by omega),Zbs (by omega),Int.toNat_natCast,Int.toNat_natCast,k5]
        right
        refine ⟨rfl,?_⟩;simp only [<- hst.1,<- hst.2];exact hlt
    ·simp at hq
   ·split at hq
    ·rename_i hpen;obtain ⟨s1,s2⟩:=hc.sk k hk hoff;have hs0:=s1.1 hpen;have hse:=s2 hs0;rw [<- hse] at hq;have hqo:=(UO d _ _ (by omega) hb.len q hq).2;obtain ⟨i1,i2,i3⟩:=Jc hc hD d (k+1) (skS s) a b _ (by omega) (ha.skip' hk) (hb.skip' hk) he q hq;have hle:=ZnE hc hD ha hk hoff hak hs0 i1;have hrg:=Zce hc (D:=D) ha.v
     have hL0:0<=Lx x ys D s/\Lx x ys D s<=skpF x k+Lx x ys D (skS s):=by
      rcases hle with h | h
      ·omega
      ·exact h
     refine ⟨hL0.1,by omega,fun hqc=> ?_⟩
     cases hf:(X7 ys k).find? (Zcm x ys D s) with
     | none=>exact i3 (by omega)
     | some c =>
      obtain ⟨k1,k2,k3,k4,k5⟩:=hpick c hf;simp only;refine .inl ⟨k,hk,fun t ht=> ?_,?_⟩
      ·rw [k3 t ht,hqo t (by omega) (.inl (by omega))];exact (he t (by omega)).1
      ·rw [k4,hqo k hk (.inl (by omega)),Zbs (by omega),Zth hbk]
       left;exact (by decide:(0:Int)<1)
    ·simp at hq
theorem ZjK {x:Inst} {S:Nat} (hn:x.orders.length<=4) (hS:S<9223372036854775808):Zno S (Xn x x.orders.length)=(decide (S<2^x.orders.length)&&(List.range x.orders.length).all fun i=> !(S.testBit i&&(nth x.orders i).off)):=by
 rw [Bool.eq_iff_iff,Bool.and_eq_true,decide_eq_true_eq,Zno,List.all_eq_true,List.all_eq_true]
 constructor
 ·intro h
  have key: ∀i,S.testBit i=true->i<x.orders.length/\(nth x.orders i).off=false:=fun i hi=>by
   have h63:i<63:=by
    rcases Nat.lt_or_ge i 63 with h | h
    ·exact h
    ·have:2^63<=2^i:=Nat.pow_le_pow_right (by omega) h;rw [Nat.testBit_lt_two_pow (by omega)] at hi;cases hi
   have:=h i (List.mem_range.2 h63);rw [hi,Wb] at this;simpa using this
  refine ⟨Nat.lt_pow_two_of_testBit _ fun i hi=> ?_,fun i _=> ?_⟩
  ·cases hb:S.testBit i with
   | false=>rfl
   | true=>have:=(key i hb).1;omega
  ·cases hb:S.testBit i with
   | false=>rfl
   | true=>rw [(key i hb).2];rfl
 ·rintro ⟨h1,h2⟩ i _
  cases hb:S.testBit i with
  | false=>rfl
  | true =>
   have hi:i<x.orders.length:=by
    rcases Nat.lt_or_ge i x.orders.length with h | h
    ·exact h
    ·have:2^x.orders.length<=2^i:=Nat.pow_le_pow_right (by omega) h;rw [Nat.testBit_lt_two_pow (by omega)] at hb;cases hb
   have:=h2 i (List.mem_range.2 hi);rw [hb] at this;rw [Wb];simp only [Bool.true_and,Bool.not_eq_true'] at this;simp [hi,this]
theorem Zhq {n i:Nat} (h:i<n):nth (List.replicate n (-1:Int)) i= -1:=by
 rw [Zd (by simpa using h)];simp
theorem Zi3 {x:Inst} {l ys:List Col} (hc:Ctx x l ys) {D:Nat} (hD:10<D): ∀(d k:Nat) (s:St) (a:List Int) (p:Int),k+d=x.orders.length->Nd x l a s k->0<=Lx x ys D s->(gr x l ys D d k s a,p+Lx x ys D s)∈lvs x l d a p
 | 0,k,s,a,p,hd,ha,h0=>by
  rw [Zmb (by rw [ha.ix];omega),Int.add_zero,gr,lvs];simp
 | d+1,k,s,a,p,hd,ha,h0=>by
  have hk:k<x.orders.length:=by omega
  have hkd:x.orders.length-(d+1)=k:=by omega
  rw [lvs,hkd,gr]
  split
  ·rename_i ho;rw [Zh0 hc ha hk ho] at h0 ⊢;exact Zi3 hc hD d (k+1) _ a p (by omega) (ha.skip' hk) h0
  ·rename_i ho
   have hoff:(nth x.orders k).off=false:=by
    cases e:(nth x.orders k).off with
    | false=>rfl
    | true=>exact absurd (.inl e) ho
   have hak:nth a k<0:=Int.not_le.1 fun g=>ho (.inr g)
   have hcv:s.cov.toNat.testBit k=false:=by rw [ha.cov k hk];exact decide_eq_false (by omega)
   rw [List.mem_append,List.mem_flatMap]
   cases hf:(X7 ys k).find? (Zcm x ys D s) with
   | some c =>
    left
    have hsel:=List.find?_some hf;simp only [Zcm,Bool.and_eq_true,decide_eq_true_eq] at hsel;obtain ⟨p1,p2,p3⟩:=Vp hc ha hk (List.mem_of_find?_eq_some hf) hsel.1;have hch:=ha.child hc hk p1 p3;rw [p2] at hch;refine ⟨Zdh l c,List.mem_range.2 p1,?_⟩;rw [if_pos p3,p2];have:=Zi3 hc hD d (k+1) _ _ (p+c.price) (by omega) hch hsel.2.1;rw [show p+c.price+Lx x ys D (nxS s c)=p+Lx x ys D s by omega] at this;exact this
   | none =>
    right
    rw [List.find?_eq_none] at hf;have hdec:=Zhb hc hD ha.v ha.ix hk hoff hcv;have hno: ∀c∈X7 ys k,YG x s c=true->0<=Lx x ys D (nxS s c)->c.price+Lx x ys D (nxS s c)≠Lx x ys D s:=fun c hm hy hL e=>hf c hm (by simp only [Zcm,hy,decide_eq_true hL,decide_eq_true e,Bool.and_self]);obtain ⟨s1,s2⟩:=hc.sk k hk hoff;have hfold:=ZbF (x:=x) (s:=s) (r:=fun c=>Lx x ys D (nxS s c)) (l:=X7 ys k) (a:= -1)
    by_cases hs:0<=skpF x k
    ·rw [if_pos (s1.2 hs),<- s2 hs];rw [if_pos hs] at hdec;unfold We at hdec
     split at hdec
     ·rename_i hb;have:=Zi3 hc hD d (k+1) _ a (p+skpF x k) (by omega) (ha.skip' hk) hb.1;rw [show p+skpF x k+Lx x ys D (skS s)=p+Lx x ys D s by omega] at this;exact this
     ·exfalso;rcases hfold with e | ⟨c,h1,h2,h3,h4⟩
      ·unfold We at e;omega
      ·exact hno c h1 h2 h3 (by rw [hdec];exact h4.symm)
    ·exfalso;rw [if_neg hs] at hdec;rcases hfold with e | ⟨c,h1,h2,h3,h4⟩
     ·omega
     ·exact hno c h1 h2 h3 (by rw [hdec];exact h4.symm)
theorem Ke {α:Type} {p q:α->Bool} : ∀ {l:List α},(∀a∈l,p a=q a)->l.find? p=l.find? q
 | [],_=>rfl
 | a::l,h=>by
  rw [List.find?_cons,List.find?_cons,h a (by simp),Ke fun a ha=>h a (List.mem_cons_of_mem _ ha)]
def RA (l:List Col) (g:List Int):Nat->Nat->List Col
 | 0,_=> []
 | d+1,k=>(if 0<=nth g k/\tzN (nth l (nth g k).toNat).set.toNat=(k:Int) then [nth l (nth g k).toNat] else [])++RA l g d (k+1)
def UA (x:Inst) (g:List Int):Nat->Nat->List Int
 | 0,_=> []
 | d+1,k=>(if nth g k<0/\(nth x.orders k).off=false then [(k:Int)] else [])++UA x g d (k+1)
theorem Zms {x:Inst} {l ys:List Col} (hc:Ctx x l ys) {D:Nat} (hD:D=20) {s:St} {k:Nat} (hv:StV x.orders.length s) (hk:s.ix=k) (hkn:k<x.orders.length) (ho:(nth x.orders k).off=false) (hcv:s.cov.toNat.testBit k=false) {c:Col} (hm:c∈X7 ys k) :
  Zk2 x.orders.length (mI x) x (fstF x.orders.length ys) (skF x x.orders.length) s c=Zcm x ys D s c:=by
 have hn:=hc.n4;have e1:=QV (n:=x.orders.length) hk (m:=mI x) (by rw [Za5 hn hkn,ho];rfl) (by rw [QX hv (by omega),hcv]);have e2:=KZ (m:=mI x) hk hkn hn (Uc hc hkn hm).2.2.2;unfold Zk2 Zcm Lx;rw [e1,e2,<- hD]
theorem Zav {x:Inst} {l ys:List Col} (hc:Ctx x l ys) {D:Nat} (hD:D=20): ∀(d k:Nat) (s:St) (a:List Int) (f:Nat),k+d=x.orders.length->d<f->Nd x l a s k ->
  Xv x.orders.length (mI x) x (fstF x.orders.length ys) (skF x x.orders.length) f (Vi x.orders.length (mI x) s)=(RA l (gr x l ys D d k s a) d k,UA x (gr x l ys D d k s a) d k)
 | 0,k,s,a,0,_,hf,_=>by omega
 | 0,k,s,a,f+1,hd,_,h=>by
  rw [Xv,if_pos,RA,UA];simp only [Vi];have:=JK (n:=x.orders.length) (m:=mI x) (cov:=s.cov) (x.orders.length-s.ix.toNat) s.ix.toNat;have:=h.ix;omega
 | d+1,k,s,a,0,_,hf,_=>by omega
 | d+1,k,s,a,f+1,hd,hf,h=>by
  have hk:k<x.orders.length:=by omega
  have hn:=hc.n4;rw [gr]
  split
  ·rename_i ho;have hsk:=ho.imp (fun e=>show sHas (mI x) k=false by rw [Za5 hc.n4 hk,e];rfl) (fun e=>show sHas s.cov k=true by rw [QX h.v (by omega),h.cov k hk];exact decide_eq_true e);rw [JD h.ix hk hsk,Zav hc hD d (k+1) (skS s) a (f+1) (by omega) (by omega) (h.skip' hk)];have hg:=(KC hc (D:=D) d (k+1) (skS s) a (by omega) (h.skip' hk)).2 k hk (.inl (by omega));rw [RA,UA,hg,if_neg,if_neg,List.nil_append,List.nil_append]
   ·rintro ⟨g1,g2⟩;rcases ho with ho | ho
    ·rw [ho] at g2;cases g2
    ·omega
   ·rintro ⟨g1,g2⟩;obtain ⟨t,t1,t2⟩:=h.old k hk (Nat.le_refl _) g1;have hr:=h.rng k hk;obtain ⟨_,s0,s1,_⟩:=hc.set (Zn (l:=l) (i:=(nth a k).toNat) (by omega));have:=((Kl s0 s1 hn hk).1 g2).2 t (by omega) t2;omega
  ·rename_i ho
   have hoff:(nth x.orders k).off=false:=by
    cases e:(nth x.orders k).off with
    | false=>rfl
    | true=>exact absurd (.inl e) ho
   have hak:nth a k<0:=Int.not_le.1 fun g=>ho (.inr g)
   have hcv:s.cov.toNat.testBit k=false:=by rw [h.cov k hk];exact decide_eq_false (by omega)
   rw [QV h.ix (by rw [Za5 hn hk,hoff];rfl) (by rw [QX h.v (by omega),hcv]),Xv,if_neg (by rw [h.ix];omega)]
   have e2:nth (fstF x.orders.length ys) s.ix.toNat=X7 ys k:=by rw [h.ix,Int.toNat_natCast,ZeF,if_pos hk]
   rw [e2,Ke (q:=Zcm x ys D s) fun c hm=>Zms hc hD h.v h.ix hk hoff hcv hm]
   cases hfd:(X7 ys k).find? (Zcm x ys D s) with
   | some c =>
    have hsel:=List.find?_some hfd;have hm:=List.mem_of_find?_eq_some hfd;simp only [Zcm,Bool.and_eq_true] at hsel;obtain ⟨p1,p2,p3⟩:=Vp hc h hk hm hsel.1;have hch:=h.child hc hk p1 p3;obtain ⟨c1,c2⟩:=Up h.len p3;rw [p2] at hch c1 c2;have hg:=(KC hc (D:=D) d (k+1) (nxS s c) _ (by omega) hch).2 k hk (.inl (by omega));rw [ZM (by rw [h.len];exact hk),if_pos c1] at hg;simp only;rw [KZ h.ix hk hn (Uc hc hk hm).2.2.2,Zav hc hD d (k+1) (nxS s c) _ f (by omega) (by omega) hch,RA,UA,hg,if_pos ⟨by omega,by rw [Int.toNat_natCast,p2];exact (Uc hc hk hm).2.2.1⟩,if_neg (by omega),Int.toNat_natCast,p2]
    rfl
   | none =>
    have hg:=(KC hc (D:=D) d (k+1) (skS s) a (by omega) (h.skip' hk)).2 k hk (.inl (by omega));simp only;have e3:ZfE x.orders.length (mI x) s=Vi x.orders.length (mI x) (skS s):=rfl;rw [e3,Zav hc hD d (k+1) (skS s) a f (by omega) (by omega) (h.skip' hk),RA,UA,hg,if_neg (by omega),if_pos ⟨hak,hoff⟩,h.ix]
    rfl
theorem QR {l:List Col} {g:List Int} {c:Col} : ∀(d k:Nat),c∈RA l g d k↔ ∃i,k<=i/\i<k+d/\0<=nth g i/\tzN (nth l (nth g i).toNat).set.toNat=(i:Int)/\c=nth l (nth g i).toNat
 | 0,k=>by simp [RA];omega
 | d+1,k=>by
  rw [RA,List.mem_append,QR d (k+1)]
  constructor
  ·rintro (h | ⟨i,h1,h2,h3⟩)
   ·split at h
    ·rename_i hh;exact ⟨k,by omega,by omega,hh.1,hh.2,by simpa using h⟩
    ·simp at h
   ·exact ⟨i,by omega,by omega,h3⟩
  ·rintro ⟨i,h1,h2,h3,h4,h5⟩;rcases Nat.lt_or_ge k i with h | h
   ·exact .inr ⟨i,by omega,by omega,h3,h4,h5⟩
   ·obtain rfl:i=k:=by omega
    rw [if_pos ⟨h3,h4⟩];exact .inl (by simp [h5])
theorem ZlG {l:List Col} {g:List Int} : ∀(d k:Nat),(RA l g d k).Pairwise fun a b=>tzN a.set.toNat<tzN b.set.toNat
 | 0,k=> .nil
 | d+1,k=>by
  rw [RA,List.pairwise_append];refine ⟨?_,ZlG d (k+1),fun a ha b hb=> ?_⟩
  ·split<;>simp
  ·split at ha
   ·rename_i hh;obtain ⟨i,h1,h2,h3,h4,rfl⟩:=(QR _ _).1 hb
    obtain rfl:a=nth l (nth g k).toNat:=by simpa using ha
    rw [hh.2,h4];omega
   ·simp at ha
theorem Zx9 {x:Inst} (hx:InstOk x) {k:Nat} (hk:k<x.orders.length) (ho:(nth x.orders k).off=false):(0<=(nth x.orders k).penalty↔0<=skpF x k)/\(0<=skpF x k->skpF x k=skR x k):=by
 have ha:=(hx.orders.2 k hk).arg;simp only [argOk,rng,Bool.and_eq_true,decide_eq_true_eq] at ha
 have e:Yg x k=if (nth x.orders k).penalty= -1 then (zSco,23) else (⟨(nth x.orders k).penalty,if (nth x.orders k).now= -1 then 0 else 1,0,0⟩,0):=by
  rw [Yg,if_neg (by omega),Int.toNat_natCast,ho,if_neg (by simp)]
 by_cases hp:(nth x.orders k).penalty= -1
 ·have e2:skpF x k= -1:=by
   rw [skpF,e,if_pos hp,if_neg (fun h=>by have:=h.1;cases this)]
  rw [e2];exact ⟨⟨fun h=>by omega,fun h=>by omega⟩,fun h=>by omega⟩
 ·have hm:(if (nth x.orders k).now= -1 then (0:Int) else 1)=0\/(if (nth x.orders k).now= -1 then (0:Int) else 1)=1:=by split<;>simp
  have e2:skpF x k=skR x k/\0<=skR x k:=by
   rw [skpF,skR,e,if_neg hp];generalize (if (nth x.orders k).now= -1 then (0:Int) else 1)=m at hm
   have:Xs ⟨(nth x.orders k).penalty,m,0,0⟩=((((nth x.orders k).penalty*16+m)*16+0)*65536+0,0):=by
    rw [Xs,if_neg (by simp only;omega),if_neg (by simp only;omega)]
   simp only [this,and_self,if_true,true_and];omega
  rw [e2.1];exact ⟨⟨fun _=>e2.2,fun _=>by omega⟩,fun _=>rfl⟩
theorem ZlX {x:Inst} {l ys:List Col} (hx:InstOk x) (hn:x.orders.length<=4) (hC:Cheap l ys) (hr: ∀c∈l,rightB x c=true) (hs: ∀c∈l,c.set<9223372036854775808):Ctx x l ys :=
 have hok:=Zc3 hx hn hC hr hs
 ⟨hn,hok.typ.1,hC,hr,hs,hok,fun _ hk ho=>Zx9 hx hk ho⟩
theorem ZcY {l:List Col} {n:Nat} {T:Int} : ∀m,m<=n->usdI l (List.replicate n (-1)) T m=0
 | 0,_=>rfl
 | m+1,h=>by
  rw [usdI,ZcY m (by omega),ZfP,Zhq (by omega),decide_eq_false (by omega)];rfl
theorem Zik (x:Inst) (l:List Col):Nd x l (List.replicate x.orders.length (-1)) zSt 0:=by
 have hz: ∀i,i<x.orders.length->nth (List.replicate x.orders.length (-1:Int)) i= -1:=fun i hi=>Zhq hi;refine ⟨by simp,rfl,Zow _,fun i hi=> ?_,fun i hi=>by rw [hz i hi];omega,fun T hT=> ?_,fun i hi h=>by rw [hz i hi] at h;omega,fun i hi _ h=>by rw [hz i hi] at h;omega,fun i hi h=>by rw [hz i hi] at h;omega⟩
 ·rw [hz i hi,decide_eq_false (by omega)];simp [zSt]
 ·rw [ZcY _ (Nat.le_refl _)]
  have:T=0\/T=1\/T=2\/T=3\/T=4\/T=5:=by omega
  rcases this with rfl | rfl | rfl | rfl | rfl | rfl<;>rfl
theorem Zk5 {x:Inst} {l ys:List Col} (hc:Ctx x l ys) {D:Nat} : ∀(d k:Nat) (s:St) (a:List Int),k+d=x.orders.length->Nd x l a s k-> ∃s',Nd x l (gr x l ys D d k s a) s' x.orders.length
 | 0,k,s,a,hd,h=>⟨s,by rw [gr,<- hd];exact h⟩
 | d+1,k,s,a,hd,h=>by
  have hk:k<x.orders.length:=by omega
  rw [gr]
  split
  ·exact Zk5 hc d (k+1) _ _ (by omega) (h.skip' hk)
  ·split
   ·rename_i c hf;have hsel:=List.find?_some hf;simp only [Zcm,Bool.and_eq_true] at hsel;obtain ⟨p1,p2,p3⟩:=Vp hc h hk (List.mem_of_find?_eq_some hf) hsel.1;have hch:=h.child hc hk p1 p3;rw [p2] at hch;exact Zk5 hc d (k+1) _ _ (by omega) hch
   ·exact Zk5 hc d (k+1) _ _ (by omega) (h.skip' hk)
theorem Zd4 {x:Inst} {ys:List Col} {D:Nat} (hD:D=20):Zak x ys=Lx x ys D zSt:=by subst hD;rfl
def Zv5 (x:Inst) (l:List Col) (js:List Nat):Int:=(js.map fun j=>(nth l j).price).sum+((List.range x.orders.length).map fun k=>if Zau x l js k=true then skR x k else 0).sum
theorem Znp {x:Inst} {l ys:List Col} (hc:Ctx x l ys) {js:List Nat} (hp:Prt x l js) (hne: ∀j∈js,∃t,hasC l j t=true) {D:Nat} (hD:10<D):0<=Lx x ys D zSt/\Lx x ys D zSt<=Zv5 x l js:=by
 have hz:=Zik x l;obtain ⟨q,hq,e⟩:=K5 hp x.orders.length (List.replicate x.orders.length (-1)) 0 (Nat.le_refl _) (by rw [Nat.sub_self];exact Zjm);obtain ⟨h1,h2,_⟩:=Jc hc hD x.orders.length 0 zSt _ _ 0 (by omega) hz hz KE.refl q hq;rw [ZmD hp hne] at e;rw [Zv5];exact ⟨h1,by omega⟩
theorem ZmA {x:Inst} {l:List Col} {p:Pln} {c e:Int} (hx:InstOk x) (hn:x.orders.length<=4) (hs: ∀c∈l,c.set<9223372036854775808) (h:Zo9 x l p c e) (hl:l.length<=8192) (hr: ∀c∈l,rightB x c=true) {js:List Nat} (hp:Prt x l js) (hne: ∀j∈js,∃t,hasC l j t=true):e=0/\c<=Zv5 x l js:=by
 rcases h with ⟨g1,_⟩ | ⟨g1,⟨c,gc,g2⟩,_⟩ | ⟨g1,g2,ys,g3,g4,g5⟩
 ·omega
 ·rw [hr c gc] at g2;cases g2
 ·obtain ⟨D,hD⟩: ∃D:Nat,D=20:=⟨20,rfl⟩;have hc:=ZlX hx hn g3 g2 hs;obtain ⟨q1,q2⟩:=Znp hc hp hne (D:=D) (by omega);rw [Zd4 hD] at g5;rcases g5 with ⟨g6,_⟩ | ⟨g6,rfl,rfl,_⟩
  ·omega
  ·exact ⟨rfl,q2⟩
theorem Zoj (a b:Col):(J5 a b=true->a.price<=b.price)/\(J5 a b=false->b.price<=a.price):=by
 unfold J5
 split
 ·simp only [decide_eq_true_eq,decide_eq_false_iff_not];exact ⟨fun h=>by omega,fun h=>by omega⟩
 ·exact ⟨fun _=>by omega,fun _=>by omega⟩
theorem ZiA {x:Inst} (hx:InstOk x) {k:Int} {m:List Vis} (ht:0<=(nth x.types k.toNat).opn) (hok:okV x k m=true) (z:Col×Bool) :
  XP x.orders x.apart x.before ((XA m:Nat):Int)=0/\(ZfA x k (XA m) z).2=true/\(ZfA x k (XA m) z).1.price<=(Va x (rtV k m)).1:=by
 have hf:=Z4 hx
 have hn:x.orders.length<=60:=by have:=hf.len;omega
 have hr:RightV x m:=XD (YK hok);have ha:=hr.alw hf;have hS:=(hr.lt hf).2;refine ⟨(Vr hn hS hf.val).2 ha,?_⟩;rw [ZlI hx (KU hr) hS ha ht z,Zx1];have hg:=hr.gr hf m.length (Nat.le_refl _);rw [List.take_length] at hg;have hin:m∈lvR (nxV x (XA m)) (UZ x (XA m)) []:=ZlZ hg (UZ x (XA m)) 0 (by rw [hr.len hf,UZ];omega)
 have hR:okR x k (XA m) m=true:=by
  unfold okR;rw [hok,YK hok,hr.ord hf];simp
 exact (Kr Zoj _ z).2 m hin hR
theorem Zgl {g:FuncId} {args:List V} {R:Pln->Int->Int->Prop} {H:List AM.Obj} {K:V->List AM.Obj->Prop} (h:ACalls Tryz.prog g args [] fun y H'=> ∃p c e,R p c e/\y= .tup [.p (JB p),.p (.int .i64 c),.p (.int .i64 e)]/\H'= []) (k: ∀p c e,R p c e->K (.tup [.p (JB p),.p (.int .i64 c),.p (.int .i64 e)]) H) (ha:ZR 0 args=true:=by rfl):ACalls Tryz.prog g args H K :=
 (h.behind ha H).mono fun x H' hq=>by
  obtain ⟨y,H1,⟨p,c,e,hr,rfl,rfl⟩,rfl,rfl⟩:=hq;simpa [shV,shVs] using k p c e hr
theorem Jb {ok:List Vis->Bool} {col:List Vis->Col} {better:Col->Col->Bool} : ∀(L:List (List Vis)) (b:Col×Bool),(L.foldl (WW ok col better) b).2=true->(b.2=true/\(L.foldl (WW ok col better) b).1=b.1)\/ ∃m∈L,ok m=true/\(L.foldl (WW ok col better) b).1=col m
 | [],b,h=> .inl ⟨h,rfl⟩
 | l::L,b,h=>by
  rw [List.foldl_cons] at h ⊢;rcases Jb L _ h with ⟨h1,h2⟩ | ⟨m,h1,h2,h3⟩
  ·rw [h2];unfold WW at h1 ⊢
   split
   ·rename_i hc;exact .inr ⟨l,by simp,hc.1,rfl⟩
   ·rename_i hc;rw [if_neg hc] at h1;exact .inl ⟨h1,rfl⟩
  ·exact .inr ⟨m,List.mem_cons_of_mem _ h1,h2,h3⟩
theorem Jq {x:Inst} {k:Int} {S:Nat} (h:(Kg x k S).2=0): ∃m,m∈lvP x k S (UZ x S) [] (st0 (nth x.types k.toNat))/\okV x k m=true/\(Kg x k S).1=UP x k S m:=by
 unfold Kg at h ⊢
 split at h
 ·rename_i hc;rw [if_pos hc];rcases Jb _ _ hc.2 with ⟨h1,_⟩ | ⟨m,h1,h2,h3⟩
  ·cases h1
  ·exact ⟨m,h1,h2,h3⟩
 ·cases h
theorem Zez {one:Nat->List Col} {c:Col} : ∀q,c∈Zfg one q↔ ∃S,1<=S/\S<=q/\c∈one S
 | 0=>by simp [Zfg];omega
 | q+1=>by
  rw [Zfg,List.mem_append,Zez q]
  constructor
  ·rintro (⟨S,h1,h2,h3⟩ | h)
   ·exact ⟨S,h1,by omega,h3⟩
   ·exact ⟨q+1,by omega,by omega,h⟩
  ·rintro ⟨S,h1,h2,h3⟩;rcases Nat.lt_or_ge q S with h | h
   ·obtain rfl:S=q+1:=by omega
    exact .inr h3
   ·exact .inl ⟨S,h1,h,h3⟩
theorem Zev {one:Nat->Nat->List Col} {N:Nat} {c:Col} : ∀K,c∈Zb8 one N K↔ ∃k S,k<K/\1<=S/\S<=N/\c∈one k S
 | 0=>by simp [Zb8]
 | K+1=>by
  rw [Zb8,List.mem_append,Zev K,Zez]
  constructor
  ·rintro (⟨k,S,h1,h2⟩ | ⟨S,h1,h2,h3⟩)
   ·exact ⟨k,S,by omega,h2⟩
   ·exact ⟨K,S,by omega,h1,h2,h3⟩
  ·rintro ⟨k,S,h1,h2,h3,h4⟩;rcases Nat.lt_or_ge k K with h | h
   ·exact .inl ⟨k,S,h,h2,h3,h4⟩
   ·obtain rfl:k=K:=by omega
    exact .inr ⟨S,h2,h3,h4⟩
noncomputable def W2 (x:Inst):List Col:=Zb8 (Kz x) (2^x.orders.length-1) x.types.length
theorem QA {x:Inst} {c:Col} :c∈W2 x↔ ∃k S,k<x.types.length/\0<S/\S<2^x.orders.length/\(Kg x (k:Int) S).2=0/\c=(Kg x (k:Int) S).1:=by
 have hp1:1<=2^x.orders.length:=Nat.one_le_two_pow;rw [W2,Zev]
 constructor
 ·rintro ⟨k,S,h1,h2,h3,h4⟩;unfold Kz at h4
  split at h4
  ·rename_i hz;exact ⟨k,S,h1,by omega,by omega,hz,by simpa using h4⟩
  ·simp at h4
 ·rintro ⟨k,S,h1,h2,h3,h4,h5⟩;exact ⟨k,S,h1,by omega,by omega,by rw [Kz,if_pos h4,h5];simp⟩
theorem Zj0 {x:Inst} {c:Col} (h:c∈W2 x): ∃(k S:Nat) (m:List Vis),k<x.types.length/\0<S/\S<2^x.orders.length/\m.length=UZ x S/\okV x k m=true/\c=UP x k S m:=by
 obtain ⟨k,S,h1,h2,h3,h4,rfl⟩:=QA.1 h;obtain ⟨m,m1,m2,m3⟩:=Jq h4;exact ⟨k,S,m,h1,h2,h3,by have:=ZcI _ _ _ m m1;simpa using this,m2,m3⟩
theorem Zdi {x:Inst} (hn:x.orders.length<=4) (h6:x.types.length<=6):(W2 x).length<=96/\ ∀c∈W2 x,c.set<9223372036854775808/\Zdq c.route:=by
 have hp2:2^x.orders.length<=2^4:=Nat.pow_le_pow_right (by omega) hn;refine ⟨?_,fun c hc=> ?_⟩
 ·have h1:=Zat (N:=2^x.orders.length-1) (K9 (x:=x)) x.types.length;have h2:x.types.length*(2^x.orders.length-1)<=6*16:=Nat.mul_le_mul (by omega) (by omega);unfold W2;omega
 ·obtain ⟨k,S,m,_,_,h3,h4,_,rfl⟩:=Zj0 hc;have:=ZcM x S x.orders.length;unfold UZ at h4;exact ⟨by simp only [UP];omega,by simp only [UP,rtV];omega,by simp [UP,rtV]⟩
theorem Zgd (x:Inst) (hx:InstOk x) (hn:x.orders.length<=4) (h6:x.types.length<=6) (hbl:x.before.length<=1048576) (hal:x.apart.length<=1048576) :
  ACalls Tryz.prog 8 [.p (ZT x)] [] fun y H'=> ∃p c e,Zo9 x (W2 x) p c e/\y= .tup [.p (JB p),.p (.int .i64 c),.p (.int .i64 e)]/\H'= []:=by
 obtain ⟨hl,hc⟩:=Zdi hn h6;have ca:=ZcZ x hx hn h6 hbl hal;have cc:=Q2 x (W2 x) false hx hn (by omega) (fun c h=>(hc c h).1) (by omega);rw [show Zb8 (Kz x) (2^x.orders.length-1) x.types.length=W2 x from rfl] at ca;generalize W2 x=L at ca cc ⊢;refine Zc [] Tryz.func8 rfl ZEN ?_;simp (disch:=omega) only [Tryz.f8,go_sem,seval];refine ZcP ca ?_;simp (disch:=omega) only [go_sem,seval];refine Zgl cc fun p c e hR=> ?_;simp (disch:=omega) only [go_sem,seval];exact ⟨.tup [.p (JB p),.p (.int .i64 c),.p (.int .i64 e)],[],wk,p,c,e,hR,rfl,rfl⟩
def ZyH (x:Inst):Prop:=x.orders.length<=4/\x.types.length<=2/\InstOk x
theorem JF (x:Inst) (hw:x.wf 1048576):ACalls Tryz.prog 6 [.p (ZT x)] [] fun y H'=> ∃b:Bool,(b=true↔ZyH x)/\y= .p (.bool b)/\H'= []:=by
 have ht:x.types.length<=1048576:=hw.2.1;have ho:x.orders.length<=1048576:=hw.2.2.2.1;refine Zc [] Tryz.func6 rfl ZEA ?_;simp (disch:=omega) only [Tryz.f6,go_sem,seval];refine gT ?_ ?_<;>intro h1<;>simp (disch:=omega) only [Sh.out h1,go_sem,seval]
 ·refine gT ?_ ?_<;>intro h2<;>simp (disch:=omega) only [Sh.out h2,go_sem,seval]
  ·refine ((Zs4 x hw).frozenE).useV fun m hm=> ?_;simp (disch:=omega) only [go_sem,seval];refine ⟨.p (.bool (decide ((m.length:Int)=0))),[],wk,_,?_,rfl,rfl⟩;rw [decide_eq_true_eq];exact ⟨fun h=>⟨by omega,by omega,hm.emp.1 (List.length_eq_zero_iff.1 (by omega))⟩,fun h=>by rw [hm.emp.2 h.2.2];rfl⟩
  ·exact ⟨.p (.bool false),[],wk,false,⟨fun h=>(by cases h),fun h=>by have:=h.2.1;omega⟩,rfl,rfl⟩
 ·exact ⟨.p (.bool false),[],wk,false,⟨fun h=>(by cases h),fun h=>by have:=h.1;omega⟩,rfl,rfl⟩
theorem Zht {x:Inst} {r:Rte} (h0:r.start=0) (hz:r.rests= []):Va x r=Va x (rtV r.typ r.visits):=by
 cases r
 simp only at h0 hz;subst h0;subst hz;rfl
theorem Zs1 {x:Inst} (hx:InstOk x) {r:Rte} (he:(Va x r).2=0) (hty:0<=r.typ/\r.typ<(x.types.length:Int)) (h0:r.start=0) (hz:r.rests= []) :
  ∃j,j<(W2 x).length/\(nth (W2 x) j).typ=r.typ/\(nth (W2 x) j).set=((XA r.visits:Nat):Int)/\(nth (W2 x) j).price<=(Va x r).1:=by
 obtain ⟨k,hk⟩: ∃k:Nat,r.typ=(k:Int):=⟨r.typ.toNat,by omega⟩
 have hkl:k<x.types.length:=by omega
 have hok:okV x (k:Int) r.visits=true:=by
  rw [okV,<- hk,<- Zht h0 hz,he];rfl
 have hr:RightV x r.visits:=XD (r:=rtV (k:Int) r.visits) (YK hok)
 have hopn:0<=(nth x.types (k:Int).toNat).opn:=by
  rw [Int.toNat_natCast];have:=(YP hx hkl).1;omega
 obtain ⟨g1,g2,g3⟩:=ZiA hx (k:=(k:Int)) (m:=r.visits) hopn hok (Uk,false)
 have hv:Kg x (k:Int) (XA r.visits)=((ZfA x (k:Int) (XA r.visits) (Uk,false)).1,0):=by
  rw [Kg,if_pos ⟨g1,g2⟩]
 have hS:XA r.visits<2^x.orders.length:=by
  rcases Nat.div_eq_zero_iff.1 (hr.lt (Z4 hx)).2 with h | h
  ·have:0<pw x.orders.length:=Nat.two_pow_pos _;omega
  ·exact h
 have hmem:(Kg x (k:Int) (XA r.visits)).1∈W2 x:=QA.2 ⟨k,XA r.visits,hkl,Nat.pos_of_ne_zero (KU hr),hS,by rw [hv],rfl⟩;obtain ⟨m,_,_,m3⟩:=Jq (x:=x) (k:=(k:Int)) (S:=XA r.visits) (by rw [hv]);obtain ⟨j,hj,e⟩:=List.getElem_of_mem hmem;refine ⟨j,hj,?_⟩;rw [Zd hj,e];refine ⟨by rw [m3,hk];rfl,by rw [m3];rfl,?_⟩;rw [hv,Zht h0 hz,hk];exact g3
theorem ZoK {x:Inst} {t:Typ} {sp:List Stp} {k:Nat} {L:Lab} {b:Bool} (hT:TrpOk x t sp) (hk:k<sp.length) (he:(nxtF x t sp k L b).2=0):L.ready<=(nxtF x t sp k L b).1.ready:=by
 have hrs:=hT.rst
 have hd:L.ready<=XK t L b:=by unfold XK;split<;>omega
 have hgo:(goL x t sp k (XK t L b)).2.2=0->XK t L b<=(goL x t sp k (XK t L b)).1:=fun e=>ZlV hT.net e;have hst:=hT.stp _ (Zn hk);unfold nxtF at he ⊢
 generalize goL x t sp k (XK t L b)=g at *
 generalize XK t L b=d at *
 generalize QT L b=s at *
 generalize Yu k d b L.she=m at *
 have hk2: ¬k=sp.length:=by omega
 unfold Qg at he ⊢;simp only [if_neg hk2] at he ⊢
 split at he
 ·simp at he
 ·rename_i c1;rw [if_neg c1];have hg:=hgo (by omega)
  split at he
  ·simp at he
  ·rename_i c2;rw [if_neg c2]
   split at he
   ·simp at he
   ·rename_i c3;rw [if_neg c3];simp only;omega
theorem Zok {x:Inst} {t:Typ} {sp:List Stp} {L:Lab} {b:Bool} (hT:TrpOk x t sp) (he:(nxtF x t sp sp.length L b).2=0):L.ready<=(nxtF x t sp sp.length L b).1.she.fin/\(nxtF x t sp sp.length L b).1.she.fin<=t.cls:=by
 have hrs:=hT.rst
 have hd:L.ready<=XK t L b:=by unfold XK;split<;>omega
 have hgo:(goL x t sp sp.length (XK t L b)).2.2=0->XK t L b<=(goL x t sp sp.length (XK t L b)).1:=fun e=>ZlV hT.net e;unfold nxtF at he ⊢
 generalize goL x t sp sp.length (XK t L b)=g at *
 generalize XK t L b=d at *
 generalize QT L b=s at *
 generalize Yu sp.length d b L.she=m at *
 unfold Qg at he ⊢;simp only [if_true] at he ⊢
 split at he
 ·simp at he
 ·rename_i c1;rw [if_neg c1];have hg:=hgo (by omega)
  split at he
  ·simp at he
  ·rename_i c2;rw [if_neg c2]
   split at he
   ·simp at he
   ·rename_i c3;rw [if_neg c3];simp only;omega
theorem Zgq {x:Inst} {t:Typ} {sp:List Stp} (hT:TrpOk x t sp): ∀(bs:List Bool) (k:Nat) (L:Lab),k+bs.length=sp.length+1->0<bs.length->(YD x t sp k L bs).2=0->L.ready<=(YD x t sp k L bs).1.she.fin/\(YD x t sp k L bs).1.she.fin<=t.cls
 | [],k,L,_,h3,_=>by simp at h3
 | b::bs,k,L,h2,_,h=>by
  rw [YD] at h ⊢
  by_cases h4:(nxtF x t sp k L b).2=0
  ·simp only [h4,if_true] at h ⊢
   cases bs with
   | nil =>
    simp at h2;subst h2;rw [YD];exact Zok hT h4
   | cons b2 bs =>
    simp at h2;have h5:=Zgq hT (b2::bs) (k+1) _ (by simp;omega) (by simp) h;have h6:=ZoK hT (show k<sp.length by omega) h4;exact ⟨Int.le_trans h6 h5.1,h5.2⟩
  ·simp [h4] at h
theorem ZmB {x:Inst} {r:Rte} (hx:InstOk x) (h:ZS x r=0):(XX x r).opn<=(Y9 x r).fin/\(Y9 x r).fin<=(XX x r).cls:=by
 obtain ⟨hty,h0,hs⟩:=YA (Yf h)
 have e:Y9 x r=(X0 x r).1:=by rw [Y9,if_pos h]
 have ee:(X0 x r).2=0:=by rw [ZS,if_pos (Yf h)] at h;exact h
 have hT:=Qz hx hty (Wg h0);obtain ⟨bs,hb1,hb2,hb3⟩:=ZbO (by rw [XH];exact hs.2.2) ee;have hb3:(X0 x r).1=_:=hb3;rw [e,hb3];have h1:=Zgq hT bs 0 _ (by omega) (by omega) hb2;simp only [labF] at h1;exact ⟨Int.le_trans (by omega) h1.1,h1.2⟩
def Qn (l:List Vis) (N:Nat):Nat:=(List.range N).countP fun i:Nat=>hasO l (i:Int)
theorem Ziy {l m:List Vis} {N:Nat} (h: ∀v∈l,v∈m):Qn l N<=Qn m N:=List.countP_mono_left fun i _ hi=>by
 obtain ⟨v,hv,e⟩:=ZV.1 hi;exact ZV.2 ⟨v,h v hv,e⟩
theorem Ziv {x:Inst} {l:List Vis} {t:Int} (hi:Inr x l): ∀n,n<=l.length->(0<=(chgF x l t n).1/\(chgF x l t n).1<=(Qn (l.take n) x.orders.length:Int))/\(0<=(chgF x l t n).2/\(chgF x l t n).2<=(Qn (l.take n) x.orders.length:Int))
 | 0,_=>by simp [chgF]
 | n+1,h=>by
  have ih:=Ziv (t:=t) hi n (by omega)
  have hn:n<l.length:=by omega
  have hv:=hi _ (Zn hn)
  have htk:l.take (n+1)=l.take n++ [nth l n]:=by rw [List.take_succ_eq_append_getElem hn,Zd hn]
  have hmono:Qn (l.take n) x.orders.length<=Qn (l.take (n+1)) x.orders.length:=Ziy fun v hv=>by rw [htk];exact List.mem_append_left _ hv
  have hap: ∀i:Int,hasO (l.take (n+1)) i=(hasO (l.take n) i||decide ((nth l n).order=i)):=fun i=>by rw [htk,hasO,hasO,List.any_append];simp
  rw [chgF]
  split
  ·rename_i hf
   have hadd:Qn (l.take (n+1)) x.orders.length=Qn (l.take n) x.orders.length+1:=by
    unfold Qn;rw [List.countP_eq_length_filter,List.countP_eq_length_filter]
    have ei:(((nth l n).order.toNat:Nat):Int)=(nth l n).order:=by omega
    refine Um (a:=(nth l n).order.toNat) List.nodup_range (List.mem_range.2 (by omega)) ?_ ?_ fun b _ hb=> ?_
    ·rw [ei];simp only [Ko,Bool.not_eq_true'] at hf;exact hf
    ·rw [ei,hap];simp
    ·rw [hap,decide_eq_false (by omega),Bool.or_false]
   simp only
   constructor<;>split<;>omega
  ·omega
theorem Uy {x:Inst} {r:Rte} (hx:InstOk x) (h:ZS x r=0):VC (Xf x r)/\(Xf x r).cost<=22000000/\(Xf x r).moved<=(Qn r.visits x.orders.length:Int)/\(Xf x r).other<=(Qn r.visits x.orders.length:Int)/\(Xf x r).work<=4096:=by
 have hg:=Zek hx h;have hf:=ZmB hx h;obtain ⟨hty,_,_⟩:=YA (Yf h);have hnum:=YP hx (show r.typ.toNat<x.types.length by omega);have htyp:nth x.types r.typ.toNat=XX x r:=rfl;rw [htyp] at hnum
 have e:(X0 x r).1=Y9 x r:=by rw [Y9,if_pos h]
 have hch:=Ziv (t:=r.typ) (XD h).inr r.visits.length (Nat.le_refl _);rw [List.take_length] at hch;rw [Xf,if_pos h,e];unfold ZpB VC
 generalize Y9 x r=s at *
 generalize XX x r=t at *
 have p1:0<=t.perMile*s.miles/\t.perMile*s.miles<=100*210000:=⟨Int.mul_nonneg (by omega) (by omega),Int.mul_le_mul (by omega) (by omega) (by omega) (by omega)⟩
 have hW:0<=s.fin-t.opn/\s.fin-t.opn<=4096:=by omega
 have p2:0<=t.perTick*(s.fin-t.opn)/\t.perTick*(s.fin-t.opn)<=100*4096:=⟨Int.mul_nonneg (by omega) (by omega),Int.mul_le_mul (by omega) (by omega) (by omega) (by omega)⟩
 have p3:0<=(s.fin-t.opn).tdiv 64/\(s.fin-t.opn).tdiv 64<=64:=by
  generalize s.fin-t.opn=w at hW;rw [Int.tdiv_eq_ediv_of_nonneg hW.1];omega
 have p4:0<=(s.fin-t.opn).tdiv 64*(s.fin-t.opn).tdiv 64/\(s.fin-t.opn).tdiv 64*(s.fin-t.opn).tdiv 64<=64*64:=⟨Int.mul_nonneg p3.1 p3.1,Int.mul_le_mul p3.2 p3.2 p3.1 (by omega)⟩;simp only;omega
theorem Zde {α:Type} {f:α->Nat} {p:α->Bool} : ∀l:List α,(l.map fun a=>f a+(if p a=true then 1 else 0)).sum=(l.map f).sum+l.countP p
 | []=>rfl
 | a::l=>by
  rw [List.map_cons,List.map_cons,List.sum_cons,List.sum_cons,Zde l,List.countP_cons];omega
theorem ZlK {rs:List Rte} {us:List Int} {N:Nat} (h: ∀i:Nat,i<N->rs.countP (fun r=>hasO r.visits (i:Int))+us.countP (fun u=>decide (u=(i:Int)))<=1): ∀n,n<=N->(rs.map fun r=>Qn r.visits n).sum+(us.map fun u=>(List.range n).countP fun i=>decide (u=((i:Nat):Int))).sum<=n
 | 0,_=>by
  have h1: ∀l:List Rte,(l.map fun r=>Qn r.visits 0).sum=0:=fun l=>by
   induction l with
   | nil=>rfl
   | cons a l ih=>rw [List.map_cons,List.sum_cons,ih];simp [Qn]
  have h2: ∀l:List Int,(l.map fun u=>(List.range 0).countP fun i=>decide (u=((i:Nat):Int))).sum=0:=fun l=>by
   induction l with
   | nil=>rfl
   | cons a l ih=>rw [List.map_cons,List.sum_cons,ih];simp [Qn]
  rw [h1,h2];omega
 | n+1,hn=>by
  have ih:=ZlK h n (by omega);have hh:=h n (by omega)
  have e1:(fun r:Rte=>Qn r.visits (n+1))=fun r=>Qn r.visits n+(if hasO r.visits (n:Int)=true then 1 else 0):=funext fun r=>by
   simp only [Qn,List.range_succ,List.countP_append,List.countP_cons,List.countP_nil,Nat.zero_add]
  have e2:(fun u:Int=>(List.range (n+1)).countP fun i=>decide (u=((i:Nat):Int)))=fun u=>((List.range n).countP fun i=>decide (u=((i:Nat):Int)))+(if decide (u=(n:Int))=true then 1 else 0):=funext fun u=>by
   simp only [List.range_succ,List.countP_append,List.countP_cons,List.countP_nil,Nat.zero_add]
  rw [e1,e2,Zde (p:=fun r:Rte=>hasO r.visits (n:Int)),Zde (p:=fun u:Int=>decide (u=(n:Int)))];omega
theorem K4 {α:Type} {f:α->Sco} {g:α->Nat} : ∀(l:List α) (s:Sco),(∀a∈l,(f a).cost<=22000000/\(f a).moved<=(g a:Int)/\(f a).other<=(g a:Int)/\(f a).work<=4096) ->
  (l.foldl (fun s a=>Z7 s (f a)) s).cost<=s.cost+22000000*(l.length:Int)/\(l.foldl (fun s a=>Z7 s (f a)) s).moved<=s.moved+((l.map g).sum:Nat)/\(l.foldl (fun s a=>Z7 s (f a)) s).other<=s.other+((l.map g).sum:Nat)/\(l.foldl (fun s a=>Z7 s (f a)) s).work<=s.work+4096*(l.length:Int)
 | [],s,_=>by simp
 | a::l,s,h=>by
  have h1:=h a (by simp);have h2:=K4 l (Z7 s (f a)) fun b hb=>h b (List.mem_cons_of_mem _ hb);rw [List.foldl_cons,List.map_cons,List.sum_cons,List.length_cons];simp only [Z7] at h2 ⊢;omega
theorem Zdw {α:Type} {g:α->Nat} : ∀l:List α,(∀a∈l,1<=g a)->l.length<=(l.map g).sum
 | [],_=>by simp
 | a::l,h=>by
  have h1:=h a (by simp);have h2:=Zdw l fun b hb=>h b (List.mem_cons_of_mem _ hb);rw [List.map_cons,List.sum_cons,List.length_cons];omega
theorem ZkO {x:Inst} {l:List Vis} (h:RightV x l):1<=Qn l x.orders.length:=by
 obtain ⟨v,hv⟩: ∃v,v∈l:=by
  cases l with
  | nil=>exact absurd rfl h.ne
  | cons v l=>exact ⟨v,by simp⟩
 have hi:=h.inr v hv;exact List.countP_pos_iff.2 ⟨v.order.toNat,List.mem_range.2 (by omega),ZV.2 ⟨v,hv,by omega⟩⟩
theorem ZaN {x:Inst} (hx:InstOk x) (i:Int):VC (Yg x i).1/\(Yg x i).1.cost<=22000000/\(Yg x i).1.moved<=1/\(Yg x i).1.other<=1/\(Yg x i).1.work<=4096:=by
 unfold Yg
 split
 ·simp [VC,zSco]
 ·split
  ·simp [VC,zSco]
  ·split
   ·simp [VC,zSco]
   ·have ha:=(hx.orders.2 i.toNat (by omega)).arg;simp only [argOk,rng,Bool.and_eq_true,decide_eq_true_eq] at ha;simp only [VC]
    split<;>omega
theorem Zah {x:Inst} {p:Pln} (hx:InstOk x) (hn:x.orders.length<=4) (hk:WI x p=0):(Xs (JR x p)).2=0/\p.routes.length+p.unserved.length<=4:=by
 obtain ⟨hev,hun⟩:=Y3 hk;obtain ⟨k1,k2,k3,k4,k5⟩:=QJ hk;have hc:=ZlK (rs:=p.routes) (us:=p.unserved) k2 x.orders.length (Nat.le_refl _);have hR: ∀r∈p.routes,VC (Xf x r)/\(Xf x r).cost<=22000000/\(Xf x r).moved<=(Qn r.visits x.orders.length:Int)/\(Xf x r).other<=(Qn r.visits x.orders.length:Int)/\(Xf x r).work<=4096:=fun r hr=>Uy hx (hev r hr)
 have hU1: ∀u∈p.unserved,1<=(List.range x.orders.length).countP fun i=>decide (u=((i:Nat):Int)):=fun u hu=>by
  have:=k1 u hu;exact List.countP_pos_iff.2 ⟨u.toNat,List.mem_range.2 (by omega),by simp;omega⟩
 have l1:=Zdw p.routes fun r hr=>ZkO (XD (hev r hr));have l2:=Zdw p.unserved hU1;have f1:=K4 (f:=fun r=>Xf x r) (g:=fun r=>Qn r.visits x.orders.length) p.routes zSco fun r hr=>(hR r hr).2
 have f2:=K4 (f:=fun i=>(Yg x i).1) (g:=fun u=>(List.range x.orders.length).countP fun i=>decide (u=((i:Nat):Int))) p.unserved (WB x p.routes) fun u hu=>by
  have h1:=(ZaN hx u).2;have h2:=hU1 u hu;omega
 have hpos: ∀ {α:Type} (f:α->Sco) (l:List α) (s:Sco),(∀a∈l,VC (f a))->VC s->VC (l.foldl (fun s a=>Z7 s (f a)) s):=fun f l=>by
  induction l with
  | nil=>exact fun s _ hs=>hs
  | cons r l ih=>exact fun s hl hs=>ih _ (fun a ha=>hl a (List.mem_cons_of_mem _ ha)) (V4 hs (hl r (by simp)))
 have q1:VC (WB x p.routes):=hpos (fun r=>Xf x r) p.routes zSco (fun r hr=>(hR r hr).1) (by simp [VC,zSco]);have q2:VC (ZaX x (WB x p.routes) p.unserved):=hpos (fun i=>(Yg x i).1) p.unserved _ (fun u _=>(ZaN hx u).1) q1
 have hsc:JR x p=ZaX x (WB x p.routes) p.unserved:=by rw [JR,if_pos hk]
 rw [hsc,WT q2];have f1:(WB x p.routes).cost<=zSco.cost+_/\(WB x p.routes).moved<=zSco.moved+_/\(WB x p.routes).other<=zSco.other+_/\(WB x p.routes).work<=zSco.work+_:=f1;have f2:(ZaX x (WB x p.routes) p.unserved).cost<=(WB x p.routes).cost+_/\(ZaX x (WB x p.routes) p.unserved).moved<=(WB x p.routes).moved+_/\(ZaX x (WB x p.routes) p.unserved).other<=(WB x p.routes).other+_/\(ZaX x (WB x p.routes) p.unserved).work<=(WB x p.routes).work+_:=f2;simp only [zSco] at f1
 generalize (p.routes.map fun r=>Qn r.visits x.orders.length).sum=A at *
 generalize (p.unserved.map fun u=>(List.range x.orders.length).countP fun i=>decide (u=((i:Nat):Int))).sum=B at *
 refine ⟨⟨?_,?_,?_,?_⟩,?_⟩<;>omega
theorem ZbD {x:Inst} (hx:InstOk x) (hn:x.orders.length<=4): ∀c∈W2 x,rightB x c=true:=fun c hc=>by
 obtain ⟨k,S,h1,h2,h3,h4,h5⟩:=QA.1 hc;obtain ⟨m,m1,m2,m3⟩:=Jq h4;have hp4:2^x.orders.length<=2^4:=Nat.pow_le_pow_right (by omega) hn
 have hal:XP x.orders x.apart x.before ((S:Nat):Int)=0:=by
  unfold Kg at h4
  split at h4
  ·rename_i hc;exact hc.1
  ·rename_i hc;simp at h4
 have hf:=Z4 hx;have ha:Alw x S:=(Vr (by omega) (by rw [Nat.div_eq_zero_iff];exact .inr h3) hf.val).1 hal
 have hw:Zno S (Xn x x.orders.length)=true:=by
  rw [ZjK hn (by omega),Bool.and_eq_true,decide_eq_true_eq,List.all_eq_true];refine ⟨h3,fun i hi=> ?_⟩
  cases hb:S.testBit i with
  | false=>rfl
  | true=>rw [ha.off i (List.mem_range.1 hi) hb];rfl
 have he:=YK m2;have hfn:=Uy hx he
 have hcn:Qn (rtV (k:Int) m).visits x.orders.length<=x.orders.length:=by
  have:=List.countP_le_length (p:=fun i:Nat=>hasO (rtV (k:Int) m).visits (i:Int)) (l:=List.range x.orders.length);rw [List.length_range] at this;exact this
 have hpr:(Va x (rtV k m)).1=(((Xf x (rtV k m)).cost*16+(Xf x (rtV k m)).moved)*16+(Xf x (rtV k m)).other)*65536+(Xf x (rtV k m)).work:=by
  rw [Va,if_pos he];exact Qm hfn.1 ((WT hfn.1).2 (by omega))
 have hp:=ZeT x (rtV k m)
 have h6:(UP x k S m).price<=18014398509481984:=by
  show (Va x (rtV k m)).1<=_
  rw [hpr];omega
 rw [h5,m3];simp only [rightB,Bool.and_eq_true,decide_eq_true_eq];refine ⟨?_,?_,?_,?_,?_,h6⟩
 ·show (0:Int)<=(k:Int);omega
 ·show (k:Int)<_;omega
 ·show (0:Int)<(S:Int);omega
 ·show Zno ((S:Nat):Int).toNat _=true
  rw [Int.toNat_natCast];exact hw
 ·exact hp.1
theorem ZlU {α:Type} {f g:α->Int} : ∀ {l:List α},(∀a∈l,f a<=g a)->(l.map f).sum<=(l.map g).sum
 | [],_=>by simp
 | a::l,h=>by
  have h1:=h a (by simp);have h2:=ZlU (l:=l) fun b hb=>h b (List.mem_cons_of_mem _ hb);rw [List.map_cons,List.map_cons,List.sum_cons,List.sum_cons];omega
theorem Zb4 {x:Inst} {p:Pln} (hx:InstOk x) (hn:x.orders.length<=4) (hk:WI x p=0):(∀r∈p.routes,Va x r=Xs (Xf x r)/\(Va x r).2=0)/\(Xs (JR x p)).1=(p.routes.map fun r=>(Va x r).1).sum+(p.unserved.map fun u=>skR x u.toNat).sum:=by
 have hw:=(Zah hx hn hk).1;have hpos: ∀r∈p.routes,VC (Xf x r):=fun r hr=>(Uy hx ((Y3 hk).1 r hr)).1;obtain ⟨hev,hun⟩:=Y3 hk;obtain ⟨k1,k2,k3,k4,k5⟩:=QJ hk
 have hsc:JR x p=ZaX x (WB x p.routes) p.unserved:=by rw [JR,if_pos hk]
 rw [hsc] at hw ⊢
 have hsR:VC (WB x p.routes):=by
  have: ∀(l:List Rte) (s:Sco),(∀r∈l,VC (Xf x r))->VC s->VC (l.foldl (fun s r=>Z7 s (Xf x r)) s):=fun l=>by
   induction l with
   | nil=>exact fun s _ hs=>hs
   | cons r l ih=>exact fun s hl hs=>ih _ (fun a ha=>hl a (List.mem_cons_of_mem _ ha)) (V4 hs (hl r (by simp)))
  exact this _ _ hpos (by simp [VC,zSco])
 obtain ⟨w1,w2,w3⟩:=ZaM (f:=fun i=>(Yg x i).1) p.unserved (WB x p.routes) (fun u _=>(ZaN hx u).1) hsR hw;obtain ⟨_,v2,v3⟩:=ZaM (f:=fun r=>Xf x r) p.routes zSco hpos (by simp [VC,zSco]) w1
 have hpr: ∀r∈p.routes,Va x r=Xs (Xf x r):=fun r hr=>by rw [Va,if_pos (hev r hr)]
 refine ⟨fun r hr=>⟨hpr r hr,by rw [hpr r hr];exact v2 r hr⟩,?_⟩
 have s1:(p.routes.map fun r=>(Va x r).1)=p.routes.map fun r=>(Xs (Xf x r)).1:=List.map_congr_left fun r hr=>by rw [hpr r hr]
 have s2:(p.unserved.map fun u=>skR x u.toNat)=p.unserved.map fun u=>(Xs (Yg x u).1).1:=List.map_congr_left fun u hu=>by
  rw [skR,show ((u.toNat:Nat):Int)=u by have:=k1 u hu;omega]
 have z0:(Xs zSco).1=0:=by decide
 have w3':(Xs (ZaX x (WB x p.routes) p.unserved)).1=(Xs (WB x p.routes)).1+(p.unserved.map fun u=>(Xs (Yg x u).1).1).sum:=w3;have v3':(Xs (WB x p.routes)).1=(Xs zSco).1+(p.routes.map fun r=>(Xs (Xf x r)).1).sum:=v3;rw [s1,s2,w3',v3',z0];omega
theorem Zds {x:Inst} {p q:Pln} {c e:Int} (hx:InstOk x) (hn:x.orders.length<=4) (h6:x.types.length<=6) (h:Zo9 x (W2 x) q c e) (hk:WI x p=0)
  (h0: ∀r∈p.routes,r.start=0/\r.rests= []):e=0/\(Xs (JR x p)).2=0/\c<=(Xs (JR x p)).1:=by
 have hr:=ZbD hx hn;have hw:=(Zah hx hn hk).1;refine (and_congr_right fun _=>and_iff_right hw).2 ?_;obtain ⟨hl,hc⟩:=Zdi hn h6;obtain ⟨hev,hun⟩:=Y3 hk;obtain ⟨k1,k2,k3,k4,k5⟩:=QJ hk;obtain ⟨hpp,hps⟩:=Zb4 hx hn hk;have hty: ∀r∈p.routes,0<=r.typ/\r.typ<(x.types.length:Int):=fun r hr=>(YA (Yf (hev r hr))).1
 have H: ∀r∈p.routes,∃j,j<(W2 x).length/\(nth (W2 x) j).typ=r.typ/\(nth (W2 x) j).set=((XA r.visits:Nat):Int)/\(nth (W2 x) j).price<=(Va x r).1:=fun r hr =>
  Zs1 hx (hpp r hr).2 (hty r hr) (h0 r hr).1 (h0 r hr).2
 obtain ⟨f,hf⟩: ∃f:Rte->Nat,∀r∈p.routes,f r<(W2 x).length/\(nth (W2 x) (f r)).typ=r.typ/\(nth (W2 x) (f r)).set=((XA r.visits:Nat):Int)/\(nth (W2 x) (f r)).price<=(Va x r).1:=by
  classical
  exact ⟨fun r=>if g:r∈p.routes then Classical.choose (H r g) else 0,fun r g=>by
   simp only [dif_pos g];exact Classical.choose_spec (H r g)⟩
 have hRV: ∀r∈p.routes,RightV x r.visits:=fun r hr=>XD (hev r hr)
 have hoff: ∀r∈p.routes,∀i:Nat,i<x.orders.length->hasO r.visits (i:Int)=true->(nth x.orders i).off=false:=fun r hr i hi ho=>by
  have ha:=(hRV r hr).alw (Z4 hx);have hb:(XA r.visits).testBit i=true:=((hRV r hr).bit i).2 (ZV.1 ho);exact (ha.1 i hi hb)
 have hpen: ∀k:Nat,k<x.orders.length->(nth x.orders k).penalty≠ -1->0<=(nth x.orders k).penalty:=fun k hk' hne=>by
  have ha:=(hx.orders.2 k hk').arg;simp only [argOk,rng,Bool.and_eq_true,decide_eq_true_eq] at ha;omega
 obtain ⟨hP,hne,hb⟩:=ZiT (Z4 hx) (fun r hr=>⟨(hf r hr).1,(hf r hr).2.1,(hf r hr).2.2.1⟩) hRV (fun r hr=>(hty r hr).1) (fun i hi=>by have:=k2 i hi;omega) hoff
  (fun r hr=>by
   have h1:=k5 r.typ.toNat (by have:=hty r hr;omega)
   rwa [show ((r.typ.toNat:Nat):Int)=r.typ by have:=hty r hr;omega] at h1)
  (fun k hk' ho=>by
   rcases Nat.eq_zero_or_pos (p.routes.countP fun r=>hasO r.visits (k:Int)) with z | z
   ·have h1:=k4 k hk' ho;obtain ⟨u,h2,h3⟩:=List.countP_pos_iff.1 (show 0<p.unserved.countP (fun u=>decide (u=(k:Int))) by omega);rw [decide_eq_true_eq] at h3;exact .inr (hpen k hk' (k3 k hk' (h3 ▸ h2)).2)
   ·obtain ⟨r,h2,h3⟩:=List.countP_pos_iff.1 z
    exact .inl ⟨r,h2,h3⟩)
 obtain ⟨e0,hle⟩:=ZmA hx hn (fun c h=>(hc c h).1) h (by omega) hr hP hne;refine ⟨e0,Int.le_trans hle ?_⟩;rw [Zv5,Zmx hb k1 k2 (fun i hi hu=>(k3 i hi hu).1) k4]
 have s1:((p.routes.map f).map fun j=>(nth (W2 x) j).price).sum<=(p.routes.map fun r=>(Va x r).1).sum:=by
  rw [List.map_map];exact ZlU fun r hr=>(hf r hr).2.2.2
 rw [hps];omega
theorem Zsn {g:FuncId} {args:List V} {R:Bool->Prop} {H:List AM.Obj} {K:V->List AM.Obj->Prop} (h:ACalls Tryz.prog g args [] fun y H'=> ∃b:Bool,R b/\y= .p (.bool b)/\H'= []) (k: ∀b,R b->K (.p (.bool b)) H) (ha:ZR 0 args=true:=by rfl):ACalls Tryz.prog g args H K :=
 (h.behind ha H).mono fun x H' hq=>by
  obtain ⟨y,H1,⟨b,hr,rfl,rfl⟩,rfl,rfl⟩:=hq;simpa [AM.shV,AM.shVs] using k b hr
theorem Zfd (haw:PC 7 [] (.bool true)) (x:Inst) (hw:x.wf 1048576) (p:Pln) (hp:p.wf 1048576) :
  PC 4 [.p (ZT x),.p (JB p)] (.bool true):=by
 have hal:x.apart.length<=1048576:=hw.2.2.2.2.2.1;have hbl:x.before.length<=1048576:=hw.2.2.2.2.2.2.2.1;have hr:=hp.1;have hb:=Znh hp;have hu:=hp.2.2.1;refine YR [] Tryz.func4 rfl ZEj ?_;simp (disch:=omega) only [Tryz.f4,go_sem,seval];refine Zsn (JF x hw) fun r hr'=> ?_
 cases r with
 | false =>
  simp (disch:=omega) only [Bool.not_false,go_sem,seval];refine (haw).use ?_;simp (disch:=omega) only [go_sem,seval]
 | true =>
  simp (disch:=omega) only [Bool.not_true,go_sem,seval];obtain ⟨h4,h2,hx⟩:=hr'.1 rfl;refine gF ?_ ?_<;>intro h3<;>simp (disch:=omega) only [Sh.out h3,go_sem,seval]
  ·refine (haw).use ?_;simp (disch:=omega) only [go_sem,seval]
  ·refine (ZhO x p hx hr hu hb).use ?_;simp (disch:=omega) only [go_sem,seval];refine cD ?_ ?_<;>intro h5<;>simp (disch:=omega) only [Sh.out h5,go_sem,seval]
   ·refine (haw).use ?_;simp (disch:=omega) only [go_sem,seval]
   ·have hk:WI x p=0:=by omega
    refine Zg [2,3,29,30] (fun k:Nat=> [(31,.p (.int .i64 k))]) (fun _=> [Ze x,Xb p]) (fun k=>k<=p.routes.length/\ ∀j,j<k->(nth p.routes j).start=0/\(nth p.routes j).rests= []) (fun k=>p.routes.length-k) 0 ⟨by omega,fun j hj=>by omega⟩ (Weak.mk ?_) ?_
    ·simp (disch:=omega) only [Ze,Xb,go_sem,seval]
    ·rintro k ⟨hkl,h0⟩;simp (disch:=omega) only [Ze,Xb,go_sem,seval];refine cD ?_ ?_<;>intro h6<;>simp (disch:=omega) only [Sh.out h6,go_sem,seval]
     ·have hk2:k<p.routes.length:=by omega
      obtain ⟨b1,b2⟩:=hb _ (Zn hk2);refine gF ?_ ?_<;>intro h7<;>simp (disch:=omega) only [Sh.out h7,go_sem,seval]
      ·refine (haw).use ?_;simp (disch:=omega) only [go_sem,seval]
      ·refine cD ?_ ?_<;>intro h8<;>simp (disch:=omega) only [Sh.out h8,go_sem,seval]
       ·refine (haw).use ?_;simp (disch:=omega) only [go_sem,seval]
       ·refine ⟨k+1,⟨by omega,fun j hj=> ?_⟩,by omega,Weak.mk (by simp (disch:=omega) only [Ze,Xb,go_sem,seval])⟩;rcases Nat.lt_or_ge j k with h | h
        ·exact h0 j h
        ·obtain rfl:j=k:=by omega
         exact ⟨by omega,List.length_eq_zero_iff.1 (by omega)⟩
     ·have hke:k=p.routes.length:=by omega
      subst hke
      have h00: ∀r∈p.routes,r.start=0/\r.rests= []:=fun r hr=>by
       obtain ⟨j,hj,rfl⟩:=List.mem_iff_getElem.1 hr;rw [<- Zd hj];exact h0 j hj
      have hpr:ZiI x p=Xs (JR x p):=by rw [ZiI,if_pos hk]
      refine ZcP (Zem x p hx hr hu hb) ?_;rw [hpr];simp (disch:=omega) only [go_sem,seval];refine Zgl (Zgd x hx h4 (by omega) hbl hal) fun q c e hP=> ?_;obtain ⟨rfl,e1,e2⟩:=Zds hx h4 (by omega) hP hk h00;rw [e1]
      generalize (Xs (JR x p)).1=A at *
      simp (disch:=omega) only [eq_self,decide_true,decide_eq_true e2,go_sem,seval];refine (haw).use ?_;simp (disch:=omega) only [go_sem,seval]
end Go.Proofs.YthmplgaldjpgiaaGreatDoor.K
