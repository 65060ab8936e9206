/- Declarations that the closing texts need, part 15: joined by tools/slim.py. -/
import Derived.Test.YtgknhiknjimdpaaGreatDoorZ14
import Derived.Shelf.SlSortCmp.NoneTotal
set_option linter.unusedVariables false
set_option linter.unusedSimpArgs false
namespace Go.AM
open Go.RowKit Go.Shelf Go.Lib Go.Sort Go.Proofs
theorem ZaS {W w':World} {H':List AM.Obj} {ι':List (Option Nat)} (g:Good QP [] [] W H' ι' w'): ∃q os',w'=grow (W.drewN q) os':=by
 refine ⟨w'.drawn-W.drawn,w'.heap.extract W.heap.size w'.heap.size,?_⟩
 have h1:w'.heap=W.heap++w'.heap.extract W.heap.size w'.heap.size:=by
  apply Array.ext_getElem?;intro i
  by_cases hi:i<W.heap.size
  ·rw [Array.getElem?_append_left hi];exact g.keep i hi (by simp)
  ·rw [Array.getElem?_append_right (by omega)];have:=g.size;rw [Array.getElem?_extract]
   split
   ·congr 1;omega
   ·rw [Array.getElem?_eq_none (by omega)]
 have h2:W.drawn<=w'.drawn:=g.tape.2.resolve_right fun h=>h;have h3:=g.tape.1;have h4:=g.os;have h5:=g.output
 cases w'
 simp only [grow,World.drewN] at *
 congr 1
 omega
def ZbQ (c:Array Value) (k i:Nat):List Value:=(List.range k).map fun j=>c.getD (i*k+j) undef
theorem W8 (c k i):(ZbQ c k i).length=k:=by simp [ZbQ]
theorem Y1 {c k i j} (h:j<k):(ZbQ c k i)[j]! =c.getD (i*k+j) undef:=by
 rw [List.getElem!_eq_getElem?_getD,ZbQ,List.getElem?_map,List.getElem?_range h];rfl
theorem ACalls.sortFunc {P : Program} {ρ : Ren} (L : SlLaysF0.n6 P ρ) (hg : Zq P (ρ.f 6)) (k : Nat) (aE : ∀ w, (isAgg (ρ.t 24)).run P w = .ok true w) (zE : ∀ w, (Go.sizeOf (ρ.t 24)).run P w = .ok k w)
    {β : Type} [Inhabited β] (f : β -> PV) (hf : ∀ x, ∃ cs, f x = .agg cs /\ cs.length = k /\ cs.all (·.one) = true) (cf : β -> β -> Int) (hO : SWO (ltOf cf)) (g : FuncId)
    (hcmp : ∀ x y, ACalls P g [.p (f x), .p (f y)] [] fun r H' => r = .p (.int .i64 (cf x y)) /\ H' = []) (xs : List β) (hlen : xs.length < 4611686018427387904) {H : List AM.Obj} {o : Nat} (hHo : H[o]? = some (.elems k (xs.map f))) :
    ACalls P (ρ.f 6) [.sl o 0 xs.length xs.length, .fn (.func g) [] []] H fun y H' => y = .tup [] /\ ∃ ys : List β, ys.Perm xs /\ ys.Pairwise (fun a b => ¬ cf b a < 0) /\ H' = H.set o (.elems k (ys.map f)) := by
  refine ⟨hg, fun F ι w vs hr hv => ?_⟩;obtain ⟨hv1, hv2⟩ := hv;have h0 := hv2 0 _ rfl;have h1 := hv2 1 _ rfl
  have hvs : vs = #[vs.getD 0 undef, vs.getD 1 undef] := by
    apply Array.ext
    · simpa using hv1
    · intro i h2 h3
      have : i = 0 \/ i = 1 := by simp at hv1; omega
      rcases this with rfl | rfl <;> simp [Array.getD, h2]
  rw [hvs];generalize vs.getD 0 undef = v0 at h0 ⊢;generalize vs.getD 1 undef = v1 at h1 ⊢;clear hvs hv1 hv2
  cases h1 with | fn _ _ _ a e hs ht _ _ =>
  have ea : a = #[] := Array.eq_empty_of_size_eq_zero (by simpa using hs);have ee : e = #[] := Array.eq_empty_of_size_eq_zero (by simpa using ht);subst ea; subst ee;generalize hL : xs.length = n at h0 hlen
  by_cases hz : n = 0
  · subst hz
    obtain rfl : xs = [] := List.length_eq_zero_iff.1 hL
    have e1 : H.set o (.elems k (([] : List β).map f)) = H := by
      apply List.ext_getElem?;intro i;rw [List.getElem?_set]
      split
      · rename_i hi; subst hi; rw [hHo]; simp [(List.getElem?_eq_some_iff.1 hHo).1]
      · rfl
    obtain ⟨ad, cap, rfl⟩ : ∃ ad cap, v0 = .slice ad 0 cap := by
      cases h0 with
      | slNil => exact ⟨_, _, rfl⟩
      | sl => exact ⟨_, _, rfl⟩
      | slD _ _ _ _ _ hd => rw [hHo] at hd; cases hd
      | slS _ _ _ _ _ S2 xs2 hd hne => rw [hHo] at hd; simp at hd; obtain ⟨_, rfl⟩ := hd; simp at hne
      | slC _ _ _ _ _ _ hd => rw [hHo] at hd; cases hd
    refine (AnyF.slices_SortFunc_none L ad cap _ w).mono ?_;rintro e w' ⟨rfl, rfl⟩;exact ⟨.tup [], _, ι, _, rfl, ⟨rfl, [], .refl _, .nil, e1.symm⟩, Good.refl hr, .tup [] #[] (by simp) (by simp)⟩
  have hn : 0 < n := by omega
  cases h0 with
  | slNil => omega
  | slD _ _ _ _ _ hd => rw [hHo] at hd; cases hd
  | slS _ _ _ _ _ S ys hd hlt => rw [hHo] at hd; simp at hd; obtain ⟨_, rfl⟩ := hd; simp at hlt; omega
  | slC _ _ _ _ _ _ hd => rw [hHo] at hd; cases hd
  | sl _ _ _ _ b S cap t ys c hι hH ht2 hw hcap hl hle hm =>
  rw [hHo] at hH;simp at hH;obtain ⟨rfl, rfl⟩ := hH;rcases hr.elm o k (xs.map f) hHo with ⟨e1, _⟩ | ⟨b2, c2, t2, cap2, e1, e2, e3, e4, e5, e6, e7⟩
  · rw [hι] at e1; cases e1
  rw [hι] at e1;simp at e1; subst e1;rw [hw] at e2;simp at e2;obtain ⟨rfl, rfl⟩ := e2;have hbs : b < w.heap.size := (hr.avo o b hι).2;have hbF : ¬ F b := (hr.avo o b hι).1
  -- an index, made one that there is
  let ix : Nat -> Nat := fun i => if i < n then i else 0
  have hix : ∀ i, ix i < n := fun i => by simp only [ix]; split <;> omega
  have hixe : ∀ i, i < n -> ix i = i := fun i hi => by simp only [ix]; rw [if_pos hi]
  let enc : Nat -> List Value := fun i => ZbQ c k (ix i)
  have hk : ∀ x, (enc x).length = k := fun x => W8 _ _ _
  -- one cell of an element
  have cell : ∀ i, i < n -> ∃ cs, f (nth xs i) = .agg cs /\ cs.length = k /\ ∀ (j : Nat) (y : PV), cs[j]? = some y -> y.one = true /\ RP (Own F ι) w y (c.getD (i * k + j) undef) := fun i hi => by
    obtain ⟨cs, q1, q2, q3⟩ := hf (nth xs i);refine ⟨cs, q1, q2, fun j y hj => ⟨List.all_eq_true.1 q3 y (List.mem_of_getElem? hj), ?_⟩⟩;refine e7 i (f (nth xs i)) j y ?_ (by rw [q1]; exact hj);rw [List.getElem?_map, List.getElem?_eq_getElem (by omega), Zn (by omega)]; rfl
  have one : ∀ x, ∀ v ∈ enc x, v.oneCell' = true := fun x v hv => by
    obtain ⟨j, hj, rfl⟩ := List.mem_iff_getElem.1 hv
    have hjk : j < k := by rw [hk] at hj; exact hj
    obtain ⟨cs, q1, q2, q3⟩ := cell (ix x) (hix x);have hg := q3 j (cs[j]'(by omega)) (by simp)
    have e9 : (enc x)[j] = c.getD (ix x * k + j) undef := by
      have := Y1 (c := c) (i := ix x) hjk;rw [List.getElem!_eq_getElem?_getD, List.getElem?_eq_getElem (by rw [W8]; exact hjk)] at this;exact this
    rw [e9];exact hg.2.oneCell hg.1
  let d : Array Nat := Array.range n
  have hd : d.size = n := by simp [d]
  let cf' : Nat -> Nat -> Int := fun i j => cf (nth xs (ix i)) (nth xs (ix j))
  have hO' : SWO (ltOf cf') := ⟨fun x => hO.irrefl _, fun x y z h1 h2 => hO.trans _ _ _ h1 h2, fun x y z h1 h2 => hO.ntrans _ _ _ h1 h2⟩
  have hsz : n * k <= c.size := by
    rw [e3]; exact Nat.mul_le_mul_right k (by simpa [hL] using e4)
  have hcell : ∀ j, j < c.size -> w.cell? ⟨b, j, none⟩ = some (c.getD j undef) := fun j hj => by
    simp [World.cell?, hw, hj]
  have hHolds : HoldsK enc k w b (0 * k) d := fun j hj => by
    have hj2 : j < n * k := by simpa [hd] using hj
    have k0 : 0 < k := by rcases Nat.eq_zero_or_pos k with h | h; · subst h; simp at hj2
                          · exact h
    rw [get_flatK enc k d j (by rw [hd]; exact hj2)];have hdj : j / k < n := Nat.div_lt_of_lt_mul (by rw [Nat.mul_comm]; exact hj2)
    have hde : d[j / k]! = j / k := by simp [d, hdj]
    rw [hde]
    have e9 : (enc (j / k))[j % k]! = c.getD j undef := by
      show (ZbQ c k (ix (j / k)))[j % k]! = _
      rw [hixe _ hdj, Y1 (Nat.mod_lt _ k0), Nat.div_add_mod']
    rw [e9, Nat.zero_mul, Nat.zero_add];exact ⟨hcell j (by omega), by simp [World.frozen?, hw]⟩
  have hcmp' : CmpLays P g #[] enc k cf' b (0 * k) d.size w := fun m os dk hdk x y => by
    generalize hW : sortWorldK enc k w b (0 * k) m dk os = W
    have hKeep : Keeps (Own F ι) w QP W := fun b' hb' hs' => by
      have hne : b' ≠ b := fun e => hb' (.inr (e ▸ List.mem_of_getElem? hι));refine ⟨fun h => h, ?_, ?_⟩
      · rw [<- hW]; simp [sortWorldK, grow, putRowK, putRow, mapBlock, ahead]; omega
      · rw [<- hW]
        simp only [sortWorldK, grow, putRowK, putRow, mapBlock, ahead];rw [Array.getElem?_append_left (by simpa using hs'), Array.getElem?_modify, if_neg (fun e => hne e.symm)]
        rfl
    have heW : Env QP [] W := (hr.env.of (w' := W) (ι' := ι) (by rw [<- hW]; simp [sortWorldK, grow, putRowK, putRow, mapBlock, ahead]) (fun b' hb' hni => by
      have hne : b' ≠ b := fun e => hni (e ▸ List.mem_of_getElem? hι);rw [<- hW];simp only [sortWorldK, grow, putRowK, putRow, mapBlock, ahead];rw [Array.getElem?_append_left (by simpa using hb'), Array.getElem?_modify, if_neg (fun e => hne e.symm)]
      rfl) (fun _ _ h => h)).noth
    have arg : ∀ i, RV QP [] [] W (.p (f (nth xs (ix i)))) (.agg (enc i).toArray) := fun i => by
      obtain ⟨cs, q1, q2, q3⟩ := cell (ix i) (hix i);refine .p _ _ ?_;rw [q1]
      refine (RP.agg cs (enc i).toArray (by simp [hk, q2]) fun j y hj => ?_ : RP QP W _ _).weaker fun b hb => by
        rcases hb with hb | hb
        · exact hb
        · simp at hb
      have hjk : j < k := by rw [<- q2]; exact (List.getElem?_eq_some_iff.1 hj).1
      have e9 : (enc i).toArray.getD j undef = c.getD (ix i * k + j) undef := by
        have := Y1 (c := c) (i := ix i) hjk;rw [List.getElem!_eq_getElem?_getD, List.getElem?_eq_getElem (by rw [W8]; exact hjk)] at this;simp only [Array.getD_eq_getD_getElem?, List.getElem?_toArray];rw [List.getElem?_eq_getElem (by rw [hk]; exact hjk), Option.getD_some];rw [Option.getD_some] at this;simpa only [Array.getD_eq_getD_getElem?] using this
      rw [e9];exact (q3 j y hj).2.ext hKeep
    refine ((hcmp (nth xs (ix x)) (nth xs (ix y))).2 QP [] W _ (U8 heW) ⟨rfl, fun j q hj => ?_⟩).mono ?_
    · cases j with
      | zero => simp at hj; subst hj; exact arg x
      | succ j => cases j with
        | zero => simp at hj; subst hj; exact arg y
        | succ j => simp at hj
    · rintro e' w' ⟨x', H', ι', v, rfl, ⟨rfl, rfl⟩, gd, rv⟩
      cases rv with | p _ _ rp =>
      rw [rp.int_inv];exact ⟨rfl, ZaS gd⟩
  have eg := (hcmp default default).1;have main := AnyQ.slices_SortFunc L k aE zE enc hk one cf' hO' g #[] b (0 * k) cap d w (fun args w => eg args w) hcmp' hHolds hbs (by rw [hd]; exact hlen);rw [hd] at main;refine main.mono ?_;rintro e' w' ⟨rfl, d', m, os, hp, hso, rfl⟩;obtain ⟨p1, _, p3⟩ := hp;rw [hd] at p1
  have hperm : d'.toList.Perm (List.range n) := by
    have e8 : (d'.extract 0 n).toList = d'.toList := by rw [<- p1]; simp
    have e9 : (d.extract 0 n).toList = List.range n := by
      have : d.extract 0 n = d := by rw [<- hd]; simp
      rw [this]; simp [d]
    rw [e8, e9] at p3; exact p3
  have hlt : ∀ i ∈ d'.toList, i < n := fun i hi => by simpa using hperm.mem_iff.1 hi
  have hlt2 : ∀ i, i < n -> d'.toList[i]?.isSome = true := fun i hi => by simp [p1, hi]
  have hget : ∀ i (hi : i < n), d'[i]! = d'.toList[i]'(by simp [p1, hi]) := fun i hi => by
    rw [getElem!_pos d' i (by omega)]; simp
  let ys : List β := d'.toList.map (nth xs)
  have hyl : ys.length = n := by simp [ys, p1]
  have hys : ∀ i (hi : i < n), ys[i]'(by omega) = nth xs d'[i]! := fun i hi => by
    simp only [ys, List.getElem_map]; rw [hget i hi]
  have hdl : ∀ i, i < n -> d'[i]! < n := fun i hi => by rw [hget i hi]; exact hlt _ (List.getElem_mem _)
  have yperm : ys.Perm xs := by
    have h9 : (List.range n).map (nth xs) = xs := by
      refine List.ext_getElem (by simp [hL]) fun i h1 h2 => ?_;simp only [List.getElem_map, List.getElem_range];rw [Zn h2]
    have := hperm.map (nth xs);rw [h9] at this; exact this
  have ysort : ys.Pairwise fun a b => ¬ cf b a < 0 := by
    rw [List.pairwise_iff_getElem];intro i j hi hj hij;rw [hys i (by omega), hys j (by omega)];have h9 := hso i j (Nat.zero_le _) hij (by omega);simp only [ltOf, cf', decide_eq_false_iff_not] at h9;rwa [hixe _ (hdl j (by omega)), hixe _ (hdl i (by omega))] at h9
  let c' : Array Value := putCells id (0 * k) (flatK enc k d') c
  have hcs : c'.size = c.size := by simp [c', putCells]
  have hat : (sortWorldK enc k w b (0 * k) m d' os).heap[b]? = some (.cells c' t (0, 0)) := by
    simp only [sortWorldK, grow, putRowK, putRow, mapBlock, ahead];rw [Array.getElem?_append_left (by simpa using hbs), Array.getElem?_modify, if_pos rfl]
    show Option.map _ w.heap[b]? = _
    rw [hw]; rfl
  have hoth : ∀ q, q < w.heap.size -> q ≠ b -> (sortWorldK enc k w b (0 * k) m d' os).heap[q]? = w.heap[q]? := fun q hq hne => by
    simp only [sortWorldK, grow, putRowK, putRow, mapBlock, ahead];rw [Array.getElem?_append_left (by simpa using hq), Array.getElem?_modify, if_neg (fun e => hne e.symm)]
    rfl
  have hc' : ∀ i j, i < n -> j < k -> c'.getD (i * k + j) undef = c.getD (d'[i]! * k + j) undef := fun i j hi hj => by
    have hb1 : i * k + j < n * k := by
      have := Nat.mul_le_mul_right k (show i + 1 <= n from hi);rw [Nat.add_mul, Nat.one_mul] at this; omega
    have e8 : (flatK enc k d')[i * k + j]! = c.getD (d'[i]! * k + j) undef := by
      rw [get_flatK enc k d' _ (by rw [p1]; exact hb1)]
      have q1 : (i * k + j) / k = i := by rw [Nat.mul_comm, Nat.mul_add_div (by omega), Nat.div_eq_of_lt hj]; omega
      have q2 : (i * k + j) % k = j := by rw [Nat.mul_comm, Nat.mul_add_mod, Nat.mod_eq_of_lt hj]
      rw [q1, q2]
      show (ZbQ c k (ix d'[i]!))[j]! = _
      rw [Y1 hj, hixe _ (hdl i hi)]
    have e9 : c'[i * k + j]? = some ((flatK enc k d')[i * k + j]!) := by
      simp only [c', putCells, Array.getElem?_mapIdx];rw [Array.getElem?_eq_getElem (by omega)];simp only [Option.map_some, Nat.zero_mul, Nat.zero_le, true_and, Nat.zero_add, size_flatK, p1, hb1, if_true, Nat.sub_zero, id]
    rw [Array.getD_eq_getD_getElem?, e9, Option.getD_some, e8]
  have good := ZE (w' := sortWorldK enc k w b (0 * k) m d' os) (c := c') (t := t) (xs' := ys.map f) (cap := cap2) (b' := b) hr (o := o) (S := k) (xs := xs.map f) hHo rfl (Tp.of rfl (by simp [sortWorldK, grow, putRowK, putRow, mapBlock, ahead])) rfl
    (fun c0 t0 h => by rw [hw] at h; simp at h; obtain ⟨rfl, rfl⟩ := h; exact ⟨rfl, hcs⟩) (by simp [sortWorldK, grow, putRowK, putRow, mapBlock, ahead]) hat hoth (.inl ⟨hι, .inl ⟨by simp [hyl, hL], fun c0 t0 h => by rw [hw] at h; simp at h; obtain ⟨rfl, rfl⟩ := h; exact ⟨rfl, hcs⟩⟩⟩)
    (by rw [hcs]; exact e3) (by simp only [List.length_map, hyl]; simpa [hL] using e4) e5
    (fun i x hi => by
      rw [List.getElem?_map, Option.map_eq_some_iff] at hi;obtain ⟨y, _, rfl⟩ := hi;obtain ⟨cs, q1, q2, _⟩ := hf y
      rw [q1]; exact q2)
    (fun i x j y hi hj => by
      rw [List.getElem?_map, Option.map_eq_some_iff] at hi;obtain ⟨z, hz, rfl⟩ := hi
      have hin : i < n := by have := (List.getElem?_eq_some_iff.1 hz).1; omega
      have e8 : z = nth xs d'[i]! := by
        obtain ⟨h9, h10⟩ := List.getElem?_eq_some_iff.1 hz;rw [<- h10]; exact hys i hin
      obtain ⟨cs, q1, q2, q3⟩ := cell _ (hdl i hin);rw [e8, q1] at hj
      have hjk : j < k := by rw [<- q2]; exact (List.getElem?_eq_some_iff.1 hj).1
      rw [hc' i j hin hjk]
      exact (q3 j y hj).2)
  have ZF : ι.set o (some b) = ι := by
    refine List.ext_getElem? fun i => ?_;rw [List.getElem?_set]
    split
    · rename_i e; subst e
      have := (List.getElem?_eq_some_iff.1 hι).1;rw [if_pos this, hι]
    · rfl
  rw [ZF] at good;exact ⟨.tup [], _, ι, .tuple #[], rfl, ⟨rfl, ys, yperm, ysort, rfl⟩, good, .tup [] #[] rfl (fun j c hj => by simp at hj)⟩
end Go.AM
set_option linter.unusedVariables false
set_option linter.unusedSimpArgs false
namespace Go.Proofs.YtgknhiknjimdpaaGreatDoor.K
open Go Go.AM Go.Proofs
set_option maxRecDepth 8000
set_option maxHeartbeats 8000000
deriving instance DecidableEq for Itm
theorem X8 {v w:Itm} :v=w↔v.kind=w.kind/\v.a=w.a:=by cases v;cases w;simp
def JC (a b:Itm):Int:=if QX a.kind b.kind=0 then QX a.a b.a else QX a.kind b.kind
theorem UC (a b:Itm):PC 74 [.p (XN a),.p (XN b)] (.int .i64 (JC a b)):=by
 refine Zd Tryz.func74 rfl Zjh ?_;simp (disch:=omega) only [Tryz.f74,go_sem,seval];refine Zk mixed (by kernel_rfl) (by kernel_rfl) ?_;simp (disch:=omega) only [go_sem,seval];refine Zm (ZdX a.kind b.kind) ?_;simp (disch:=omega) only [go_sem,seval];refine Zm (ZdX a.a b.a) ?_;simp (disch:=omega) only [go_sem,seval];refine Zm (ZkO [QX a.kind b.kind,QX a.a b.a] false (by simp)) ?_;simp (disch:=omega) only [go_sem,seval];rw [ZbL,JC]
def K3 (x:Inst) (o:Int):Bool:=decide (o<0)||decide ((x.orders.length:Int)<=o)||(nth x.orders o.toNat).off
theorem UW (x:Inst) (o:Int) (hl:x.orders.length<=1048576):PC 72 [.p (Xw x),.p (.int .i64 o)] (.bool (K3 x o)):=by
 refine Zd Tryz.func72 rfl Zis ?_;simp (disch:=omega) only [Tryz.f72,go_sem,seval];refine gF ?_ ?_<;>intro h<;>simp (disch:=omega) only [Sh.out h,go_sem,seval]
 ·simp [K3,h]
 ·refine gF ?_ ?_<;>intro h2<;>simp (disch:=omega) only [Sh.out h2,go_sem,seval]
  ·simp [K3,h2]
  ·simp [K3,h,h2]
def itO (x:Inst) (i:Nat):List Itm:=if (nth x.orders i).off=true then [] else
 (if (nth x.orders i).pick.place≠ -1 then [⟨1,i⟩] else [])++(if (nth x.orders i).drp.place≠ -1 then [⟨2,i⟩] else [])++(if (nth x.orders i).skills≠0 then [⟨4,i⟩] else [])++(if (nth x.orders i).penalty= -1 then [⟨10,i⟩] else [])
def QU (x:Inst) (k:Nat):List Itm:=(List.range k).flatMap (itO x)
theorem Ua (x k):QU x (k+1)=QU x k++itO x k:=by simp [QU,List.range_succ]
theorem Zb5 (x i):(itO x i).length<=4:=by
 unfold itO
 split
 ·simp
 ·simp only [List.length_append]
  split<;>split<;>split<;>split<;>simp
theorem YY (x): ∀k,(QU x k).length<=4*k
 | 0=>by simp [QU]
 | k+1=>by
  have h1:=YY x k;have h2:=Zb5 x k;rw [Ua,List.length_append];omega
def hO (x:Inst) (m:List Itm) (i:Nat):List AM.Obj:= [Zr x,.cells [.sl 2 0 m.length m.length],.elems 2 (m.map XN),.cells [.p (.int .i64 (i:Nat))]]
theorem Vj (x:Inst) (m:List Itm) (i:Nat) (has:Bool) (kind:Int) (hm:m.length<=1048576):ACalls Tryz.prog 92 [.p (.bool has),.p (.int .i64 kind),.ptr 1 0,.ptr 3 0] (hO x m i) fun y H'=>y= .tup []/\H'=hO x (if has=true then m++ [⟨kind,i⟩] else m) i:=by
 refine Yb [] Tryz.func92 rfl Zh1 ?_
 cases has with
 | true =>
  simp (disch:=omega) only [Tryz.f92,hO,Zr,go_sem,seval];exact ⟨.tup [],hO x (m++ [⟨kind,i⟩]) i,Weak.mk (by simp (disch:=omega) only [hO,Zr,go_sem,seval]),rfl,by simp [hO,Zr,XN]⟩
 | false =>
  simp (disch:=omega) only [Tryz.f92,hO,Zr,go_sem,seval];exact ⟨.tup [],hO x m i,Weak.mk (by simp (disch:=omega) only [hO,Zr,go_sem,seval]),rfl,by simp [hO,Zr]⟩
theorem Ug (x:Inst) (hl:x.orders.length<=1000):ACalls Tryz.prog 71 [.p (Xw x)] [] fun y H'=> ∃m:List Itm,m=QU x x.orders.length/\y= .sl 0 0 m.length m.length/\H'= [.elems 2 (m.map XN)]:=by
 refine Zi [2] Tryz.func71 rfl Zir ?_;simp (disch:=omega) only [Tryz.f71,go_sem,seval];refine ZM (Weak.nilC (o:=1) (j:=0) 2 rfl rfl (by simp)) ?_;refine Za [] _ _ _ _ ?_;simp (disch:=omega) only [List.set_cons_succ,List.set_cons_zero,List.cons_append,List.nil_append,go_sem,seval];refine Zs [3,8,9] (fun q:Nat×List Itm=> [(10,.p (.int .i64 q.1))]) (fun q=> [Zr x,.cells [.sl 2 0 q.2.length q.2.length],.elems 2 (q.2.map XN)]) (fun q=>q.1<=x.orders.length/\q.2=QU x q.1) (fun q=>x.orders.length-q.1) (0,[]) ⟨by simp,by simp [QU]⟩ (Weak.mk ?_) ?_
 ·simp (disch:=omega) only [Zr,go_sem,seval]
 ·rintro ⟨i,m⟩ ⟨hi,hm⟩;simp only at hi hm
  have hml:m.length<=4*i:=by rw [hm];exact YY x i
  have hsc:=Ua x i;simp (disch:=omega) only [Zr,go_sem,seval];refine cD ?_ ?_<;>intro h<;>simp (disch:=omega) only [Sh.out h,go_sem,seval]
  ·have hi2:i<x.orders.length:=by omega
   refine cD ?_ ?_<;>intro h2<;>simp (disch:=omega) only [Sh.out h2,go_sem,seval]
   ·exact ⟨(i+1,m),⟨by simp only;omega,by simp only [hsc,itO,h2,if_true,hm,List.append_nil]⟩,by simp only;omega,Weak.mk (by simp (disch:=omega) only [Zr,go_sem,seval])⟩
   ·have c1:=Vj x m i (decide ((nth x.orders i).pick.place≠ -1)) 1 (by omega)
    have ifl: ∀ {c:Prop} [Decidable c] (m:List Itm) (v:Itm),(if decide c=true then m++ [v] else m)=m++(if c then [v] else []):=fun {c} _ m v=>by by_cases h:c<;>simp [h]
    have ifn: ∀ {c:Prop} [Decidable c] (v:Itm),(if c then [v] else []).length<=1:=fun {c} _ v=>by split<;>simp
    rw [ifl] at c1;refine c1.useP (L:= [_]) (by rfl) ?_ (by rfl) (by rfl);have n1:=ifn (c:=(nth x.orders i).pick.place≠ -1) ⟨1,i⟩;have n2:=ifn (c:=(nth x.orders i).drp.place≠ -1) ⟨2,i⟩;have n3:=ifn (c:=(nth x.orders i).skills≠0) ⟨4,i⟩;have n4:=ifn (c:=(nth x.orders i).penalty= -1) ⟨10,i⟩
    have hit:itO x i=(if (nth x.orders i).pick.place≠ -1 then [⟨1,i⟩] else [])++(if (nth x.orders i).drp.place≠ -1 then [⟨2,i⟩] else [])++(if (nth x.orders i).skills≠0 then [⟨4,i⟩] else [])++(if (nth x.orders i).penalty= -1 then [⟨10,i⟩] else []):=by rw [itO,if_neg (by rw [h2];simp)]
    generalize hA:(if (nth x.orders i).pick.place≠ -1 then [(⟨1,i⟩:Itm)] else [])=A at hit n1 c1 ⊢;have c2:=Vj x (m++A) i (decide ((nth x.orders i).drp.place≠ -1)) 2 (by simp;omega);rw [ifl] at c2;generalize (if (nth x.orders i).drp.place≠ -1 then [(⟨2,i⟩:Itm)] else [])=B at hit n2 c2;have c3:=Vj x (m++A++B) i (decide ((nth x.orders i).skills≠0)) 4 (by simp;omega);rw [ifl] at c3;generalize (if (nth x.orders i).skills≠0 then [(⟨4,i⟩:Itm)] else [])=C at hit n3 c3;have c4:=Vj x (m++A++B++C) i (decide ((nth x.orders i).penalty= -1)) 10 (by simp;omega)
    rw [ifl] at c4;generalize (if (nth x.orders i).penalty= -1 then [(⟨10,i⟩:Itm)] else [])=D at hit n4 c4;generalize hm1:m++A=m1 at c2 c3 c4 ⊢;generalize hm2:m1++B=m2 at c2 c3 c4 ⊢;generalize hm3:m2++C=m3 at c3 c4 ⊢;generalize hm4:m3++D=m4 at c4;simp (disch:=omega) only [hO,Zr,Z7,go_sem,seval];refine c2.useP (L:= [_]) (by rfl) ?_ (by rfl) (by rfl);simp (disch:=omega) only [hO,Zr,Z7,go_sem,seval];refine c3.useP (L:= [_]) (by rfl) ?_ (by rfl) (by rfl);simp (disch:=omega) only [hO,Zr,Z7,go_sem,seval];refine c4.useP (L:= [_]) (by rfl) ?_ (by rfl) (by rfl)
    simp (disch:=omega) only [hO,Zr,Z7,go_sem,seval];refine ⟨(i+1,m4),⟨by simp only;omega,?_⟩,by simp only;omega,Weak.mk (by simp (disch:=omega) only [hO,Zr,Z7,go_sem,seval])⟩;simp only [hsc,hit,<- hm4,<- hm3,<- hm2,<- hm1,hm,List.append_assoc]
  ·have hin:i=x.orders.length:=by omega
   subst hin;exact ⟨m,hm,2,by simp (disch:=omega) only [Zr,go_sem,seval]⟩
def itT (k:Nat):List Itm:=(List.range k).flatMap fun (i:Nat)=> [⟨3,i⟩,⟨7,i⟩,⟨8,i⟩,⟨9,i⟩]
def KV (x:Inst) (i:Nat):List Itm:=if (!K3 x (nth x.apart i).1&& !K3 x (nth x.apart i).2)=true then [⟨5,i⟩] else []
def itA (x:Inst) (k:Nat):List Itm:=(List.range k).flatMap (KV x)
def K6 (x:Inst) (i:Nat):List Itm:=if (!K3 x (nth x.before i).2)=true then [⟨6,i⟩] else []
def itB (x:Inst) (k:Nat):List Itm:=(List.range k).flatMap (K6 x)
def KY (x:Inst):List Itm:=QU x x.orders.length++itT x.types.length++itA x x.apart.length++itB x x.before.length
theorem U9 (k):itT (k+1)=itT k++ [⟨3,k⟩,⟨7,k⟩,⟨8,k⟩,⟨9,k⟩]:=by simp [itT,List.range_succ]
theorem YX (x k):itA x (k+1)=itA x k++KV x k:=by simp [itA,List.range_succ]
theorem Vf (x k):itB x (k+1)=itB x k++K6 x k:=by simp [itB,List.range_succ]
theorem Vt : ∀k,(itT k).length=4*k
 | 0=>by simp [itT]
 | k+1=>by rw [U9,List.length_append,Vt k];simp;omega
theorem UQ (x): ∀k,(itA x k).length<=k
 | 0=>by simp [itA]
 | k+1=>by
  have h1:=UQ x k
  have h2:(KV x k).length<=1:=by unfold KV;split<;>simp
  rw [YX,List.length_append];omega
theorem UL (x): ∀k,(itB x k).length<=k
 | 0=>by simp [itB]
 | k+1=>by
  have h1:=UL x k
  have h2:(K6 x k).length<=1:=by unfold K6;split<;>simp
  rw [Vf,List.length_append];omega
theorem XK {a b:Itm} :JC a b<0↔a.kind<b.kind\/(a.kind=b.kind/\a.a<b.a):=by
 unfold JC
 split
 ·rename_i h;rw [Ui] at h;rw [JH];omega
 ·rename_i h;rw [Ui] at h;rw [JH];omega
theorem Za0 : Go.Sort.SWO (ltOf JC) where
 irrefl x:=by simp only [ltOf,decide_eq_false_iff_not,XK];omega
 trans x y z h1 h2:=by simp only [ltOf,decide_eq_true_eq,XK] at *;omega
 ntrans x y z h1 h2:=by simp only [ltOf,decide_eq_false_iff_not,XK] at *;omega
theorem UO (xs:List Itm) (hne:xs≠ []) (hl:xs.length<=1048576) {H:List AM.Obj} {o:Nat} (hH:H[o]? =some (.elems 2 (xs.map XN))) :
  ACalls Tryz.prog 73 [.sl o 0 xs.length xs.length,.fn (.func 74) [] []] H fun y H'=>y= .tup []/\ ∃ys:List Itm,ys.Perm xs/\ys.Pairwise (fun a b=> ¬JC b a<0)/\H'=H.set o (.elems 2 (ys.map XN)) :=
 ACalls.sortFunc J7 ZhW 2 Tryz.isAgg79 Tryz.sizeOf79 XN (fun x=>⟨_,rfl,rfl,rfl⟩) JC Za0 74 UC xs (by omega) hH
theorem KK (x:Inst) (ho:x.orders.length<=1000) (ht:0<x.types.length/\x.types.length<=1000) (ha:x.apart.length<=1000) (hb:x.before.length<=1000):ACalls Tryz.prog 52 [.p (Xw x)] [] fun y H'=> ∃m:List Itm,(m.Perm (KY x)/\m.Pairwise (fun a b=> ¬JC b a<0))/\y= .sl 0 0 m.length m.length/\H'= [.elems 2 (m.map XN)]:=by
 refine Zi [] Tryz.func52 rfl Zh9 ?_;simp (disch:=omega) only [Tryz.f52,go_sem,seval];obtain ⟨os,hos⟩: ∃os,os=QU x x.orders.length:=⟨_,rfl⟩;have hosl:=YY x x.orders.length;rw [<- hos] at hosl;refine ACalls.useF (S:=2) (n:=os.length) (xs:=os.map XN) ((Ug x ho).mono fun y H' ⟨m,hm,h1,h2⟩=>by rw [hos,<- hm];exact ⟨h1,h2⟩) ?_;simp (disch:=omega) only [go_sem,seval];obtain ⟨ks,hks⟩: ∃ks:List Int,ks= [3,7,8,9]:=⟨_,rfl⟩
 have hkl:ks.length=4:=by rw [hks];rfl
 have hke:(ks.map eI).length=ks.length:=by simp
 refine Zs [1,15] (fun q:Nat×List Itm=> [(3,.sl 1 0 q.2.length q.2.length),(16,.p (.int .i64 q.1))]) (fun q=> [Zr x,.elems 2 (q.2.map XN)]) (fun q=>q.1<=x.types.length/\q.2=os++itT q.1) (fun q=>x.types.length-q.1) (0,os) ⟨by simp,by simp [itT]⟩ (Weak.mk ?_) ?_
 ·simp (disch:=omega) only [Zr,go_sem,seval]
 ·rintro ⟨i,m⟩ ⟨hi,hm⟩;simp only at hi hm
  have hml:m.length=os.length+4*i:=by rw [hm,List.length_append,Vt]
  simp (disch:=omega) only [Zr,go_sem,seval];refine cD ?_ ?_<;>intro h<;>simp (disch:=omega) only [Sh.out h,go_sem,seval]
  ·have hi2:i<x.types.length:=by omega
   refine Zs [1,4,15,16,20] (fun q:Nat×List Itm=> [(3,.sl 1 0 q.2.length q.2.length),(19,.sl 2 0 ks.length ks.length),(21,.p (.int .i64 q.1))]) (fun q=> [Zr x,.elems 2 (q.2.map XN),.elems 1 (ks.map eI)]) (fun q=>q.1<=4/\q.2=m++(ks.take q.1).map fun c=>(⟨c,i⟩:Itm)) (fun q=>4-q.1) (0,m) ⟨by simp,by simp⟩ (Weak.mk ?_) ?_
   ·rw [hks];simp (disch:=omega) only [Zr,List.map_cons,List.map_nil,List.length_cons,List.length_nil,go_sem,seval]
   ·rintro ⟨k,m2⟩ ⟨hk,hm2⟩;simp only at hk hm2
    have hm2l:m2.length=m.length+k:=by rw [hm2];simp;omega
    simp (disch:=omega) only [Zr,go_sem,seval];refine cD ?_ ?_<;>intro h2<;>simp (disch:=omega) only [Sh.out h2,JD,go_sem,seval]
    ·have hk2:k<ks.length:=by omega
     have htk:ks.take (k+1)=ks.take k++ [nth ks k]:=by rw [List.take_succ_eq_append_getElem hk2,Zn hk2]
     simp (disch:=omega) only [hk2,go_sem,seval];exact ⟨(k+1,m2++ [⟨nth ks k,i⟩]),⟨by simp only;omega,by simp only [htk,hm2,List.map_append,List.append_assoc];rfl⟩,by simp only;omega,Weak.mk (by simp (disch:=omega) only [Zr,go_sem,seval])⟩
    ·have hk4:k=4:=by omega
     subst hk4;refine ⟨(i+1,m2),⟨by simp only;omega,?_⟩,by simp only;omega,Weak.mk (by simp (disch:=omega) only [Zr,go_sem,seval])⟩;simp only [U9,hm2,hm,List.append_assoc];rw [hks];rfl
  ·have hin:i=x.types.length:=by omega
   subst hin;clear hi h;refine Zs [1,34,35] (fun q:Nat×List Itm=> [(3,.sl 1 0 q.2.length q.2.length),(36,.p (.int .i64 q.1))]) (fun q=> [Zr x,.elems 2 (q.2.map XN)]) (fun q=>q.1<=x.apart.length/\q.2=m++itA x q.1) (fun q=>x.apart.length-q.1) (0,m) ⟨by simp,by simp [itA]⟩ (Weak.mk ?_) ?_
   ·simp (disch:=omega) only [Zr,go_sem,seval]
   ·rintro ⟨i,m2⟩ ⟨hi,hm2⟩;simp only at hi hm2
    have hm2l:m2.length<=m.length+i:=by have:=UQ x i;rw [hm2,List.length_append];omega
    simp (disch:=omega) only [Zr,go_sem,seval];refine cD ?_ ?_<;>intro h<;>simp (disch:=omega) only [Sh.out h,go_sem,seval]
    ·have hi2:i<x.apart.length:=by omega
     refine (UW x (nth x.apart i).1 (by omega)).use ?_;simp (disch:=omega) only [go_sem,seval];refine gT ?_ ?_<;>intro h2<;>simp (disch:=omega) only [Sh.out h2,go_sem,seval]
     ·refine (UW x (nth x.apart i).2 (by omega)).use ?_;simp (disch:=omega) only [go_sem,seval];refine cD ?_ ?_<;>intro h3<;>simp (disch:=omega) only [Sh.out h3,go_sem,seval]
      ·exact ⟨(i+1,m2++ [⟨5,i⟩]),⟨by simp only;omega,by simp only [YX,KV,h2,h3,Bool.and_self,if_true,hm2,List.append_assoc]⟩,by simp only;omega,Weak.mk (by simp (disch:=omega) only [Zr,go_sem,seval])⟩
      ·exact ⟨(i+1,m2),⟨by simp only;omega,by simp [YX,KV,h2,h3,hm2]⟩,by simp only;omega,Weak.mk (by simp (disch:=omega) only [Zr,go_sem,seval])⟩
     ·exact ⟨(i+1,m2),⟨by simp only;omega,by simp [YX,KV,h2,hm2]⟩,by simp only;omega,Weak.mk (by simp (disch:=omega) only [Zr,go_sem,seval])⟩
    ·have hin:i=x.apart.length:=by omega
     subst hin;clear hi h;refine Zs [1,60,61] (fun q:Nat×List Itm=> [(3,.sl 1 0 q.2.length q.2.length),(62,.p (.int .i64 q.1))]) (fun q=> [Zr x,.elems 2 (q.2.map XN)]) (fun q=>q.1<=x.before.length/\q.2=m2++itB x q.1) (fun q=>x.before.length-q.1) (0,m2) ⟨by simp,by simp [itB]⟩ (Weak.mk ?_) ?_
     ·simp (disch:=omega) only [Zr,go_sem,seval]
     ·rintro ⟨i,m3⟩ ⟨hi,hm3⟩;simp only at hi hm3
      have hm3l:m3.length<=m2.length+i:=by have:=UL x i;rw [hm3,List.length_append];omega
      simp (disch:=omega) only [Zr,go_sem,seval];refine cD ?_ ?_<;>intro h<;>simp (disch:=omega) only [Sh.out h,go_sem,seval]
      ·have hi2:i<x.before.length:=by omega
       refine (UW x (nth x.before i).2 (by omega)).use ?_;simp (disch:=omega) only [go_sem,seval];refine cD ?_ ?_<;>intro h2<;>simp (disch:=omega) only [Sh.out h2,go_sem,seval]
       ·exact ⟨(i+1,m3++ [⟨6,i⟩]),⟨by simp only;omega,by simp only [Vf,K6,h2,if_true,hm3,List.append_assoc]⟩,by simp only;omega,Weak.mk (by simp (disch:=omega) only [Zr,go_sem,seval])⟩
       ·exact ⟨(i+1,m3),⟨by simp only;omega,by simp [Vf,K6,h2,hm3]⟩,by simp only;omega,Weak.mk (by simp (disch:=omega) only [Zr,go_sem,seval])⟩
      ·have hin:i=x.before.length:=by omega
       subst hin
       have hpre:m3=KY x:=by rw [hm3,hm2,hm,hos];rfl
       have hne:m3≠ []:=fun e=>by have:=congrArg List.length hpre;rw [e] at this;simp [KY,Vt] at this;omega
       refine (UO m3 hne (by omega) (H:=_) (o:=1) rfl).mono ?_;rintro y H' ⟨rfl,ys,h1,h2,rfl⟩;have hyl:ys.length=m3.length:=h1.length_eq;simp (disch:=omega) only [List.set_cons_succ,List.set_cons_zero,go_sem,seval];rw [<- hyl];exact ⟨ys,⟨by rw [<- hpre];exact h1,h2⟩,1,by simp (disch:=omega) only [go_sem,seval]⟩
def Wo (x:Inst) (i:Int):Bool:=decide (0<=i)&&decide (i<(x.orders.length:Int))&& !(nth x.orders i.toNat).off
theorem U6 {x o} :K3 x o= !Wo x o:=by
 unfold K3 Wo
 by_cases h1:o<0
 ·have: ¬ 0<=o:=by omega
  simp [h1,this]
 ·by_cases h2:(x.orders.length:Int)<=o
  ·have: ¬o<(x.orders.length:Int):=by omega
   simp [h2,this]
  ·have h3:0<=o:=by omega
   have h4:o<(x.orders.length:Int):=by omega
   simp [h1,h2,h3,h4]
def KZ (o:Ord) (kind:Int):Bool:=if kind=1 then decide (0<=o.pick.place) else if kind=2 then decide (0<=o.drp.place) else if kind=4 then decide (o.skills≠0) else decide (o.penalty= -1)
def X2 (x:Inst) (v:Itm):Bool :=
 if v.kind=1\/v.kind=2\/v.kind=4\/v.kind=10 then Wo x v.a&&KZ (nth x.orders v.a.toNat) v.kind
 else if v.kind=3\/v.kind=7\/v.kind=8\/v.kind=9 then decide (0<=v.a)&&decide (v.a<(x.types.length:Int))
 else if v.kind=5 then decide (0<=v.a)&&decide (v.a<(x.apart.length:Int))&&Wo x (nth x.apart v.a.toNat).1&&Wo x (nth x.apart v.a.toNat).2
 else if v.kind=6 then decide (0<=v.a)&&decide (v.a<(x.before.length:Int))&&Wo x (nth x.before v.a.toNat).2
 else false
theorem KM {x i} {v:Itm} :v∈itO x i↔(nth x.orders i).off=false/\v.a=(i:Int)/\((v.kind=1/\(nth x.orders i).pick.place≠ -1)\/(v.kind=2/\(nth x.orders i).drp.place≠ -1)\/(v.kind=4/\(nth x.orders i).skills≠0)\/(v.kind=10/\(nth x.orders i).penalty= -1)):=by
 have one: ∀(c:Prop) [Decidable c] (w:Itm),v∈(if c then [w] else [])↔c/\v.kind=w.kind/\v.a=w.a:=fun c _ w=>by
  split<;>simp_all [X8]
 unfold itO
 split
 ·rename_i h;simp [h]
 ·rename_i h;simp only [List.mem_append,one]
  have h2:(nth x.orders i).off=false:=by simpa using h
  simp only [h2,true_and]
  constructor
  ·rintro (((⟨h1,h2,h3⟩ | ⟨h1,h2,h3⟩) | ⟨h1,h2,h3⟩) | ⟨h1,h2,h3⟩)
   ·exact ⟨h3,.inl ⟨h2,h1⟩⟩
   ·exact ⟨h3,.inr (.inl ⟨h2,h1⟩)⟩
   ·exact ⟨h3,.inr (.inr (.inl ⟨h2,h1⟩))⟩
   ·exact ⟨h3,.inr (.inr (.inr ⟨h2,h1⟩))⟩
  ·rintro ⟨h3,(⟨h2,h1⟩ | ⟨h2,h1⟩ | ⟨h2,h1⟩ | ⟨h2,h1⟩)⟩
   ·exact .inl (.inl (.inl ⟨h1,h2,h3⟩))
   ·exact .inl (.inl (.inr ⟨h1,h2,h3⟩))
   ·exact .inl (.inr ⟨h1,h2,h3⟩)
   ·exact .inr ⟨h1,h2,h3⟩
theorem Vb {n} {v:Itm} :v∈itT n↔(v.kind=3\/v.kind=7\/v.kind=8\/v.kind=9)/\0<=v.a/\v.a<(n:Int):=by
 simp only [itT,List.mem_flatMap,List.mem_range,List.mem_cons,List.not_mem_nil,or_false,X8]
 constructor
 ·rintro ⟨i,hi,h⟩;rcases h with ⟨h1,h2⟩ | ⟨h1,h2⟩ | ⟨h1,h2⟩ | ⟨h1,h2⟩<;>refine ⟨by simp [h1],by omega,by omega⟩
 ·rintro ⟨h,h1,h2⟩;refine ⟨v.a.toNat,by omega,?_⟩
  have:v.a=(v.a.toNat:Int):=by omega
  rcases h with h | h | h | h<;>simp [h,<- this]
theorem UD {x n} {v:Itm} :v∈itA x n↔v.kind=5/\0<=v.a/\v.a<(n:Int)/\Wo x (nth x.apart v.a.toNat).1=true/\Wo x (nth x.apart v.a.toNat).2=true:=by
 simp only [itA,List.mem_flatMap,List.mem_range,KV,U6,Bool.not_not,Bool.and_eq_true]
 constructor
 ·rintro ⟨i,hi,h⟩
  split at h
  ·rename_i h3;simp only [List.mem_cons,List.not_mem_nil,or_false,X8] at h
   have e:v.a.toNat=i:=by omega
   rw [e];exact ⟨h.1,by omega,by omega,h3⟩
  ·simp at h
 ·rintro ⟨h,h1,h2,h3⟩;refine ⟨v.a.toNat,by omega,?_⟩;rw [if_pos h3];simp only [List.mem_cons,List.not_mem_nil,or_false,X8];exact ⟨h,by omega⟩
theorem J6 {x n} {v:Itm} :v∈itB x n↔v.kind=6/\0<=v.a/\v.a<(n:Int)/\Wo x (nth x.before v.a.toNat).2=true:=by
 simp only [itB,List.mem_flatMap,List.mem_range,K6,U6,Bool.not_not]
 constructor
 ·rintro ⟨i,hi,h⟩
  split at h
  ·rename_i h3;simp only [List.mem_cons,List.not_mem_nil,or_false,X8] at h
   have e:v.a.toNat=i:=by omega
   rw [e];exact ⟨h.1,by omega,by omega,h3⟩
  ·simp at h
 ·rintro ⟨h,h1,h2,h3⟩;refine ⟨v.a.toNat,by omega,?_⟩;rw [if_pos h3];simp only [List.mem_cons,List.not_mem_nil,or_false,X8];exact ⟨h,by omega⟩
theorem YT {x:Inst} (hp:Plc x) {v:Itm} :v∈QU x x.orders.length↔(v.kind=1\/v.kind=2\/v.kind=4\/v.kind=10)/\Wo x v.a=true/\KZ (nth x.orders v.a.toNat) v.kind=true:=by
 simp only [QU,List.mem_flatMap,List.mem_range,KM]
 constructor
 ·rintro ⟨i,hi,h0,ha,h⟩
  have e:v.a.toNat=i:=by omega
  have hpl:=hp _ (ZP hi);rw [e];refine ⟨?_,by simp only [Wo,e,h0,Bool.not_false,Bool.and_true,Bool.and_eq_true,decide_eq_true_eq];omega,?_⟩
  ·rcases h with h | h | h | h<;>simp [h.1]
  ·rcases h with h | h | h | h<;>simp only [KZ,h.1]<;>simp [h.2]<;>omega
 ·rintro ⟨hk,ha,ho⟩;simp only [Wo,Bool.and_eq_true,decide_eq_true_eq,Bool.not_eq_true'] at ha;refine ⟨v.a.toNat,by omega,ha.2,by omega,?_⟩;rcases hk with h | h | h | h<;>simp only [KZ,h] at ho<;>simp at ho<;>simp [h]<;>first | exact ho | omega
theorem Qy {x:Inst} (hp:Plc x) {v:Itm} :v∈KY x↔X2 x v=true:=by
 simp only [KY,List.mem_append,YT hp,Vb,UD,J6,X2]
 by_cases h1:v.kind=1\/v.kind=2\/v.kind=4\/v.kind=10
 ·rw [if_pos h1]
  have h2: ¬(v.kind=3\/v.kind=7\/v.kind=8\/v.kind=9):=by omega
  have h3: ¬v.kind=5:=by omega
  have h4: ¬v.kind=6:=by omega
  simp [h1,h2,h3,h4]
 ·rw [if_neg h1]
  by_cases h2:v.kind=3\/v.kind=7\/v.kind=8\/v.kind=9
  ·rw [if_pos h2]
   have h3: ¬v.kind=5:=by omega
   have h4: ¬v.kind=6:=by omega
   simp [h1,h2,h3,h4]
  ·rw [if_neg h2]
   by_cases h3:v.kind=5
   ·rw [if_pos h3];simp [h1,h2,h3,and_assoc]
   ·rw [if_neg h3]
    by_cases h4:v.kind=6
    ·rw [if_pos h4];simp [h1,h2,h3,h4,and_assoc]
    ·simp [h1,h2,h3,h4]
theorem Kh (x i):(itO x i).Nodup:=by
 unfold itO
 split
 ·simp
 ·split<;>split<;>split<;>split<;>simp
theorem XV {f:Nat->List Itm} {n:Nat} (h: ∀i,(f i).Nodup) (ha: ∀i,∀v∈f i,v.a=(i:Int)):((List.range n).flatMap f).Nodup:=by
 rw [List.Nodup,List.pairwise_flatMap];refine ⟨fun i _=>h i,List.Pairwise.imp ?_ (List.nodup_range (n:=n))⟩;intro i j hij v hv w hw e;have h1:=ha i v hv;have h2:=ha j w hw;rw [e] at h1;omega
theorem WP {x:Inst} (hp:Plc x):(KY x).Nodup:=by
 have n1:(QU x x.orders.length).Nodup:=XV (Kh x) fun i v hv=>(KM.1 hv).2.1
 have n2:(itT x.types.length).Nodup:=XV (fun i=>by simp) fun i v hv=>by
  simp only [List.mem_cons,List.not_mem_nil,or_false] at hv;rcases hv with rfl | rfl | rfl | rfl<;>rfl
 have n3:(itA x x.apart.length).Nodup:=XV (fun i=>by unfold KV;split<;>simp) fun i v hv=>by
  unfold KV at hv;split at hv
  ·simp at hv;rw [hv]
  ·simp at hv
 have n4:(itB x x.before.length).Nodup:=XV (fun i=>by unfold K6;split<;>simp) fun i v hv=>by
  unfold K6 at hv;split at hv
  ·simp at hv;rw [hv]
  ·simp at hv
 rw [KY,List.nodup_append,List.nodup_append,List.nodup_append];refine ⟨⟨⟨n1,n2,fun v hv w hw e=> ?_⟩,n3,fun v hv w hw e=> ?_⟩,n4,fun v hv w hw e=> ?_⟩
 ·subst e;have h1:=(YT hp).1 hv;have h2:=Vb.1 hw;omega
 ·subst e;have h2:=UD.1 hw;rcases List.mem_append.1 hv with hv | hv
  ·have h1:=(YT hp).1 hv;omega
  ·have h1:=Vb.1 hv;omega
 ·subst e;have h2:=J6.1 hw;rcases List.mem_append.1 hv with hv | hv
  ·rcases List.mem_append.1 hv with hv | hv
   ·have h1:=(YT hp).1 hv;omega
   ·have h1:=Vb.1 hv;omega
  ·have h1:=UD.1 hv;omega
def Zf6 (x:Inst) (k:Nat) (a:Nat):List Itm:=if X2 x ⟨k+1,a⟩=true then [⟨k+1,a⟩] else []
def ZgM (x:Inst) (k n:Nat):List Itm:=(List.range n).flatMap (Zf6 x k)
def Zci (x:Inst):Nat:=max (max (max x.orders.length x.types.length) x.apart.length) x.before.length
def KR (x:Inst) (n:Nat):List Itm:=(List.range n).flatMap fun k=>ZgM x k (Zci x)
theorem YZ {x k a} {v:Itm} :v∈Zf6 x k a↔X2 x v=true/\v.kind=(k:Int)+1/\v.a=(a:Int):=by
 unfold Zf6
 constructor
 ·intro h
  split at h
  ·simp at h;subst h;rename_i h2;exact ⟨h2,rfl,rfl⟩
  ·simp at h
 ·rintro ⟨h1,h2,h3⟩;have:v=⟨(k:Int)+1,a⟩:=X8.2 ⟨h2,h3⟩;subst this;rw [if_pos h1];simp
theorem Vp {x:Inst} {v:Itm} :v∈KR x 10↔X2 x v=true:=by
 simp only [KR,ZgM,List.mem_flatMap,List.mem_range,YZ]
 constructor
 ·rintro ⟨k,_,a,_,h,_⟩;exact h
 ·intro h
  have hk:1<=v.kind/\v.kind<=10/\0<=v.a/\v.a<(Zci x:Int):=by
   unfold X2 at h;unfold Zci
   split at h
   ·simp only [Wo,Bool.and_eq_true,decide_eq_true_eq] at h;omega
   ·split at h
    ·simp only [Bool.and_eq_true,decide_eq_true_eq] at h;omega
    ·split at h
     ·simp only [Bool.and_eq_true,decide_eq_true_eq] at h;omega
     ·split at h
      ·simp only [Bool.and_eq_true,decide_eq_true_eq] at h;omega
      ·simp at h
  exact ⟨(v.kind-1).toNat,by omega,v.a.toNat,by omega,h,by omega,by omega⟩
theorem Wg (x:Inst) (n:Nat):(KR x n).Pairwise fun a b=>JC a b<0:=by
 rw [KR,List.pairwise_flatMap];refine ⟨fun k _=> ?_,List.Pairwise.imp ?_ (List.pairwise_lt_range (n:=n))⟩
 ·rw [ZgM,List.pairwise_flatMap];refine ⟨fun a _=>by unfold Zf6;split<;>simp,List.Pairwise.imp ?_ (List.pairwise_lt_range (n:=_))⟩;intro i j hij v hv w hw;have h1:=YZ.1 hv;have h2:=YZ.1 hw;rw [XK];omega
 ·intro i j hij v hv w hw;simp only [ZgM,List.mem_flatMap,YZ] at hv hw;obtain ⟨_,_,h1⟩:=hv;obtain ⟨_,_,h2⟩:=hw;rw [XK];omega
theorem WQ {α:Type} {R:α->α->Prop} (asym: ∀a b,R a b-> ¬R b a): ∀ {l m:List α},l.Pairwise R->m.Pairwise R->(∀v,v∈l↔v∈m)->l=m
 | [],[],_,_,_=>rfl
 | [],b::m,_,_,h=>absurd ((h b).2 (by simp)) (by simp)
 | a::l,[],_,_,h=>absurd ((h a).1 (by simp)) (by simp)
 | a::l,b::m,hl,hm,h=>by
  rw [List.pairwise_cons] at hl hm
  have e:a=b:=by
   rcases List.mem_cons.1 ((h a).1 (by simp)) with e | e
   ·exact e
   ·rcases List.mem_cons.1 ((h b).2 (by simp)) with e2 | e2
    ·exact e2.symm
    ·exact absurd (hl.1 b e2) (asym _ _ (hm.1 a e))
  subst e;have irr: ¬R a a:=fun h=>asym a a h h;rw [WQ asym hl.2 hm.2 fun v=>⟨fun hv=> ?_,fun hv=> ?_⟩]
  ·rcases List.mem_cons.1 ((h v).1 (by simp [hv])) with e | e
   ·subst e;exact absurd (hl.1 _ hv) irr
   ·exact e
  ·rcases List.mem_cons.1 ((h v).2 (by simp [hv])) with e | e
   ·subst e;exact absurd (hm.1 _ hv) irr
   ·exact e
theorem ZaQ {x:Inst} (hp:Plc x) {m:List Itm} (h1:m.Perm (KY x)) (h2:m.Pairwise fun a b=> ¬JC b a<0):m=KR x 10:=by
 refine WQ (R:=fun a b=>JC a b<0) (fun a b h k=> ?_) ?_ (Wg x 10) fun v=> ?_
 ·rw [XK] at h k;omega
 ·have h3:m.Nodup:=h1.nodup_iff.2 (WP hp);have h4:=List.Pairwise.and h2 h3;refine h4.imp ?_;rintro a b ⟨h5,h6⟩;rw [XK] at h5 ⊢;have: ¬(a.kind=b.kind/\a.a=b.a):=fun h=>h6 (X8.2 h);omega
 ·rw [h1.mem_iff,Qy hp,Vp]
theorem ZcI (x:Inst) (hp:Plc x) (ho:x.orders.length<=1000) (ht:0<x.types.length/\x.types.length<=1000) (ha:x.apart.length<=1000) (hb:x.before.length<=1000):PC 52 [.p (Xw x)] (.list false ((KR x 10).map XN)):=by
 refine ACalls.frozen (S:=2) (n:=(KR x 10).length) (by simp) ?_;refine (KK x ho ht ha hb).mono ?_;rintro y H' ⟨m,⟨h1,h2⟩,h3,h4⟩;rw [ZaQ hp h1 h2] at h3 h4;exact ⟨h3,h4⟩
def tIx (l:List Itm) (v:Itm):Int:=match l.findIdx? (fun w=>decide (v=w)) with | some i=>(i:Int) | none=> -1
theorem ZeH {l:List Itm} {v:Itm} {k:Nat} (hk:k<l.length) (h:v=nth l k) (hno: ∀j,j<k-> ¬v=nth l j):tIx l v=(k:Int):=by
 have:l.findIdx? (fun w=>decide (v=w))=some k:=by
  rw [List.findIdx?_eq_some_iff_getElem];refine ⟨hk,by rw [<- Zn hk];simpa using h,fun j hj=> ?_⟩;have h2:=hno j hj;rw [Zn (by omega)] at h2;simpa using h2
 simp [tIx,this]
theorem ZeG {l:List Itm} {v:Itm} (hno: ∀j,j<l.length-> ¬v=nth l j):tIx l v= -1:=by
 have:l.findIdx? (fun w=>decide (v=w))=none:=by
  rw [List.findIdx?_eq_none_iff];intro x hx;obtain ⟨j,hj,rfl⟩:=List.mem_iff_getElem.1 hx;have:=hno j hj;rw [Zn hj] at this;simpa using this
 simp [tIx,this]
theorem Zch {l:List Itm} {v:Itm} :0<=tIx l v↔v∈l:=by
 unfold tIx
 cases h:l.findIdx? (fun w=>decide (v=w)) with
 | none =>
  rw [List.findIdx?_eq_none_iff] at h
  have:v ∉ l:=fun hm=>by simpa using h v hm
  simp [this]
 | some i =>
  rw [List.findIdx?_eq_some_iff_getElem] at h;obtain ⟨h1,h2,_⟩:=h
  have h3:v=l[i]:=by simpa using h2
  have:v∈l:=by rw [h3];exact List.getElem_mem _
  simp [this]
theorem JR (l:List Itm) (c:Bool) (v:Itm) (hl:l.length<=1048576):PC 70 [.p (.list c (l.map XN)),.p (XN v)] (.int .i64 (tIx l v)):=by
 refine Zd Tryz.func70 rfl ZjA ?_;simp (disch:=omega) only [Tryz.f70,go_sem,seval];refine Zs [0,3,7] (fun k:Nat=> [(8,.p (.int .i64 k))]) (fun _=> [.cells [.p (.int .i64 v.kind),.p (.int .i64 v.a)]]) (fun k=>k<=l.length/\ ∀j,j<k-> ¬v=nth l j) (fun k=>l.length-k) 0 (by simp) (Weak.mk ?_) ?_
 ·simp (disch:=omega) only [go_sem,seval]
 ·rintro k ⟨hk,hno⟩;simp (disch:=omega) only [go_sem,seval];refine cD ?_ ?_<;>intro h<;>simp (disch:=omega) only [Sh.out h,go_sem,seval]
  ·have hk2:k<l.length:=by omega
   refine Zk mixed (by kernel_rfl) (by kernel_rfl) ?_;simp (disch:=omega) only [go_sem,seval];refine cD ?_ ?_<;>intro h2<;>simp (disch:=omega) only [Sh.out h2,go_sem,seval]
   ·have:v=nth l k:=by rw [X8];simpa using h2
    rw [ZeH hk2 this hno]
   ·have: ¬v=nth l k:=by rw [X8];simpa using h2
    exact ⟨k+1,⟨by omega,Zu.2 ⟨hno,this⟩⟩,by omega,wk⟩
  ·have hkl:k=l.length:=by omega
   subst hkl;rw [ZeG hno]
theorem V8 (l:List Itm) (c:Bool) (v:Itm) (hl:l.length<=1048576):PC 51 [.p (.list c (l.map XN)),.p (XN v)] (.bool (decide (v∈l))):=by
 refine Zd Tryz.func51 rfl Zh7 ?_;simp (disch:=omega) only [Tryz.f51,go_sem,seval];refine (JR l c v hl).use ?_;simp (disch:=omega) only [go_sem,seval];simp only [Zch]
theorem KC {α:Type} : ∀ {cs:List α} {j:Nat},spl cs j []=cs
 | [],_=>rfl
 | _::_,0=>rfl
 | _::_,_+1=>by simp [spl,KC]
structure ISz (x:Inst):Prop where
 plc:Plc x
 ord:x.orders.length<=1000
 typ0:0<x.types.length
 typ:x.types.length<=1000
 ap:x.apart.length<=1000
 be:x.before.length<=1000
theorem Zag {x:Inst} (h:ISz x):(KR x 10).length<=1048576:=by
 have e:(KR x 10).Perm (KY x):=by
  refine (List.perm_ext_iff_of_nodup ?_ (WP h.plc)).2 fun v=>by rw [Vp,Qy h.plc]
  exact (Wg x 10).imp fun {a b} hh e=>by subst e;rw [XK] at hh;omega
 rw [e.length_eq];have h1:=YY x x.orders.length;have h2:=Vt (k:=x.types.length);have h3:=UQ x x.apart.length;have h4:=UL x x.before.length;have:=h.ord;have:=h.typ;have:=h.ap;have:=h.be;simp only [KY,List.length_append];omega
theorem Zei (x:Inst) (h:ISz x):PC 52 [.p (Xw x)] (.list false ((KR x 10).map XN)):=ZcI x h.plc h.ord ⟨h.typ0,h.typ⟩ h.ap h.be
theorem ZbO (x:Inst) (h:ISz x) (v:Itm):PC 32 [.p (Xw x),.p (XN v)] (.bool (X2 x v)):=by
 refine Zd Tryz.func32 rfl Zif ?_;simp (disch:=omega) only [Tryz.f32,go_sem,seval];refine Zk mixed (by kernel_rfl) (by kernel_rfl) ?_;simp (disch:=omega) only [go_sem,seval];refine Zm (Zei x h) ?_;simp (disch:=omega) only [go_sem,seval];refine Zm (V8 (KR x 10) false v (Zag h)) ?_;simp (disch:=omega) only [go_sem,seval];simp [Vp]
theorem X1 (o:Ord) (k:Int) (hk:k=1\/k=2\/k=4\/k=10):PC 76 [.p (Ur o),.p (.int .i64 k)] (.bool (KZ o k)):=by
 refine Zd Tryz.func76 rfl Zjz ?_;rcases hk with rfl | rfl | rfl | rfl
 ·simp (disch:=omega) only [Tryz.f76,KZ,go_sem,seval]
 ·simp (disch:=omega) only [Tryz.f76,KZ,go_sem,seval]
 ·simp (disch:=omega) only [Tryz.f76,KZ,go_sem,seval]
 ·simp (disch:=omega) only [Tryz.f76,KZ,go_sem,seval]
theorem XC (x:Inst) (i:Int) (hl:x.orders.length<=1048576):PC 75 [.p (Xw x),.p (.int .i64 i)] (.bool (Wo x i)):=by
 refine Zd Tryz.func75 rfl Zjr ?_;simp (disch:=omega) only [Tryz.f75,go_sem,seval];refine gT ?_ ?_<;>intro h<;>simp (disch:=omega) only [Sh.out h,go_sem,seval]
 ·refine gT ?_ ?_<;>intro h2<;>simp (disch:=omega) only [Sh.out h2,go_sem,seval]
  ·simp [Wo,h,h2]
  ·simp [Wo,h2]
 ·simp [Wo,h]
theorem ZaB (x:Inst) (h:ISz x) (v:Itm):PC 54 [.p (Xw x),.p (XN v)] (.bool (X2 x v)):=by
 have s1:=h.ord;have s2:=h.typ;have s3:=h.ap;have s4:=h.be;refine Zd Tryz.func54 rfl ZiV ?_;obtain ⟨k,a⟩:=v
 have gO: ∀k:Int,(k=1\/k=2\/k=4\/k=10)->X2 x ⟨k,a⟩=(Wo x a&&KZ (nth x.orders a.toNat) k):=fun k h=>by simp only [X2];rw [if_pos h]
 by_cases h1:k=1\/k=2\/k=4\/k=10
 ·rw [gO k h1];rcases h1 with rfl | rfl | rfl | rfl
  ·simp (disch:=omega) only [Tryz.f54,go_sem,seval];refine Zk mixed (by kernel_rfl) (by kernel_rfl) ?_;simp (disch:=omega) only [go_sem,seval];refine Zm (XC x a (by omega)) ?_;simp (disch:=omega) only [go_sem,seval];refine gT ?_ ?_<;>intro h<;>simp (disch:=omega) only [Sh.out h,go_sem,seval]
   ·have h2:0<=a/\a<(x.orders.length:Int):=by simp only [Wo,Bool.and_eq_true,decide_eq_true_eq] at h;omega
    simp (disch:=omega) only [go_sem,seval];refine Zm (X1 (nth x.orders a.toNat) 1 (by omega)) ?_;simp (disch:=omega) only [go_sem,seval];simp [h]
  ·simp (disch:=omega) only [Tryz.f54,go_sem,seval];refine Zk mixed (by kernel_rfl) (by kernel_rfl) ?_;simp (disch:=omega) only [go_sem,seval];refine Zm (XC x a (by omega)) ?_;simp (disch:=omega) only [go_sem,seval];refine gT ?_ ?_<;>intro h<;>simp (disch:=omega) only [Sh.out h,go_sem,seval]
   ·have h2:0<=a/\a<(x.orders.length:Int):=by simp only [Wo,Bool.and_eq_true,decide_eq_true_eq] at h;omega
    simp (disch:=omega) only [go_sem,seval];refine Zm (X1 (nth x.orders a.toNat) 2 (by omega)) ?_;simp (disch:=omega) only [go_sem,seval];simp [h]
  ·simp (disch:=omega) only [Tryz.f54,go_sem,seval];refine Zk mixed (by kernel_rfl) (by kernel_rfl) ?_;simp (disch:=omega) only [go_sem,seval];refine Zm (XC x a (by omega)) ?_;simp (disch:=omega) only [go_sem,seval];refine gT ?_ ?_<;>intro h<;>simp (disch:=omega) only [Sh.out h,go_sem,seval]
   ·have h2:0<=a/\a<(x.orders.length:Int):=by simp only [Wo,Bool.and_eq_true,decide_eq_true_eq] at h;omega
    simp (disch:=omega) only [go_sem,seval];refine Zm (X1 (nth x.orders a.toNat) 4 (by omega)) ?_;simp (disch:=omega) only [go_sem,seval];simp [h]
  ·simp (disch:=omega) only [Tryz.f54,go_sem,seval];refine Zk mixed (by kernel_rfl) (by kernel_rfl) ?_;simp (disch:=omega) only [go_sem,seval];refine Zm (XC x a (by omega)) ?_;simp (disch:=omega) only [go_sem,seval];refine gT ?_ ?_<;>intro h<;>simp (disch:=omega) only [Sh.out h,go_sem,seval]
   ·have h2:0<=a/\a<(x.orders.length:Int):=by simp only [Wo,Bool.and_eq_true,decide_eq_true_eq] at h;omega
    simp (disch:=omega) only [go_sem,seval];refine Zm (X1 (nth x.orders a.toNat) 10 (by omega)) ?_;simp (disch:=omega) only [go_sem,seval];simp [h]
 ·by_cases h2:k=3\/k=7\/k=8\/k=9
  ·rcases h2 with rfl | rfl | rfl | rfl
   ·simp (disch:=omega) only [Tryz.f54,go_sem,seval];refine gT ?_ ?_<;>intro hq<;>simp (disch:=omega) only [Sh.out hq,go_sem,seval]
    ·simp [X2,hq]
    ·simp [X2,hq]
   ·simp (disch:=omega) only [Tryz.f54,go_sem,seval];refine gT ?_ ?_<;>intro hq<;>simp (disch:=omega) only [Sh.out hq,go_sem,seval]
    ·simp [X2,hq]
    ·simp [X2,hq]
   ·simp (disch:=omega) only [Tryz.f54,go_sem,seval];refine gT ?_ ?_<;>intro hq<;>simp (disch:=omega) only [Sh.out hq,go_sem,seval]
    ·simp [X2,hq]
    ·simp [X2,hq]
   ·simp (disch:=omega) only [Tryz.f54,go_sem,seval];refine gT ?_ ?_<;>intro hq<;>simp (disch:=omega) only [Sh.out hq,go_sem,seval]
    ·simp [X2,hq]
    ·simp [X2,hq]
  ·by_cases h3:k=5
   ·subst h3;simp (disch:=omega) only [Tryz.f54,go_sem,seval];refine Zk mixed (by kernel_rfl) (by kernel_rfl) ?_;simp (disch:=omega) only [go_sem,seval];refine gT ?_ ?_<;>intro hq<;>simp (disch:=omega) only [Sh.out hq,go_sem,seval]
    ·refine gT ?_ ?_<;>intro hq2<;>simp (disch:=omega) only [Sh.out hq2,go_sem,seval]
     ·refine Zm (XC x (nth x.apart a.toNat).1 (by omega)) ?_;simp (disch:=omega) only [go_sem,seval];refine gT ?_ ?_<;>intro hq3<;>simp (disch:=omega) only [Sh.out hq3,go_sem,seval]
      ·refine Zm (XC x (nth x.apart a.toNat).2 (by omega)) ?_;simp (disch:=omega) only [go_sem,seval];simp [X2,hq,hq2,hq3]
      ·simp [X2,hq3]
     ·simp [X2,hq2]
    ·simp [X2,hq]
   ·by_cases h4:k=6
    ·subst h4;simp (disch:=omega) only [Tryz.f54,go_sem,seval];refine Zk mixed (by kernel_rfl) (by kernel_rfl) ?_;simp (disch:=omega) only [go_sem,seval];refine gT ?_ ?_<;>intro hq<;>simp (disch:=omega) only [Sh.out hq,go_sem,seval]
     ·refine gT ?_ ?_<;>intro hq2<;>simp (disch:=omega) only [Sh.out hq2,go_sem,seval]
      ·refine Zm (XC x (nth x.before a.toNat).2 (by omega)) ?_;simp (disch:=omega) only [go_sem,seval];simp [X2,hq,hq2]
      ·simp [X2,hq2]
     ·simp [X2,hq]
    ·have e1: ¬k=1:=by omega
     have e2: ¬k=2:=by omega
     have e3: ¬k=3:=by omega
     have e4: ¬k=4:=by omega
     have e7: ¬k=7:=by omega
     have e8: ¬k=8:=by omega
     have e9: ¬k=9:=by omega
     have e10: ¬k=10:=by omega
     simp (disch:=omega) only [Tryz.f54,X2,e1,e2,e3,e4,h3,h4,e7,e8,e9,e10,go_sem,seval]
theorem Zcr {n word sm l i} :flt n word sm l i= []↔okP n (nth l i)=true/\(l.take i).any (sm (nth l i))=false:=by
 unfold flt;split<;>(try split)<;>simp_all
theorem Qg {n word sm l} :WF n word sm l l.length= []↔l.length<=16/\(∀p∈l,okP n p=true)/\l.Pairwise (fun p q=>sm q p=false):=by
 rw [WF,List.append_eq_nil_iff,List.flatMap_eq_nil_iff];refine and_congr (by unfold hdr;split<;>simp<;>omega) ?_;simp only [List.mem_range,Zcr]
 constructor
 ·intro h;refine ⟨fun p hp=> ?_,?_⟩
  ·obtain ⟨i,hi,rfl⟩:=List.mem_iff_getElem.1 hp;have:=(h i hi).1;rwa [Zn hi] at this
  ·rw [List.pairwise_iff_getElem];intro i j hi hj hij;have:=(h j hj).2;rw [List.any_eq_false,Zn hj] at this;have h2:=this l[i] (List.mem_iff_getElem.2 ⟨i,by simp;omega,by simp⟩);simpa using h2
 ·rintro ⟨h1,h2⟩ i hi;refine ⟨h1 _ (ZP hi),?_⟩;rw [List.any_eq_false];intro p hp;obtain ⟨j,hj,rfl⟩:=List.mem_iff_getElem.1 hp;rw [List.pairwise_iff_getElem] at h2
  have hji:j<i:=by simp at hj;omega
  have:=h2 j i (by omega) hi hji;rw [Zn hi,List.getElem_take,this];simp
theorem KL {n:Int} {ap be:List (Int×Int)} :chk n ap be= []↔(ap.length<=16/\(∀p∈ap,okP n p=true)/\ap.Pairwise (fun p q=>decide (q=p\/(q.1=p.2/\q.2=p.1))=false))/\(be.length<=16/\(∀p∈be,okP n p=true)/\be.Pairwise (fun p q=>decide (q=p)=false)):=by
 rw [chk,List.append_eq_nil_iff,Qg,Qg]
theorem ZcK {n lo hi:Int} :rng n lo hi=true↔lo<=n/\n<=hi:=by simp [rng]
theorem Jw {x:Inst} (h:InstOk x):ISz x:=by
 have hf:=Jo h;have ht:=ZcK.1 h.types.1;obtain ⟨⟨a1,_,_⟩,b1,_,_⟩:=KL.1 h.rules;have:=h.orders.1;exact ⟨hf.plc,by omega,by omega,by omega,by omega,by omega⟩
set_option maxRecDepth 60000
def nmO (x:Inst) (i:Int):List UInt8:=(nth x.orders i.toNat).name
def nmT (x:Inst) (i:Int):List UInt8:=(nth x.types i.toNat).name
def KP (x:Inst) (v:Itm):List UInt8 :=
 if v.kind=1 then [112,105,99,107,117,112,32,119,105,110,100,111,119,32,111,102,32]++nmO x v.a else
 if v.kind=2 then [100,101,108,105,118,101,114,121,32,119,105,110,100,111,119,32,111,102,32]++nmO x v.a else
 if v.kind=3 then [99,97,112,97,99,105,116,121,32,111,102,32]++nmT x v.a else
 if v.kind=4 then [115,107,105,108,108,115,32,111,102,32]++nmO x v.a else
 if v.kind=7 then [101,110,100,32,111,102,32,116,104,101,32,115,104,105,102,116,32,111,102,32]++nmT x v.a else
 if v.kind=8 then [114,101,115,116,115,32,111,102,32]++nmT x v.a else
 if v.kind=9 then [110,117,109,98,101,114,32,111,102,32]++nmT x v.a else
 if v.kind=5 then nmO x (nth x.apart v.a.toNat).1++ [32,97,110,100,32]++nmO x (nth x.apart v.a.toNat).2++ [32,97,112,97,114,116] else
 if v.kind=6 then nmO x (nth x.before v.a.toNat).1++ [32,98,101,102,111,114,101,32]++nmO x (nth x.before v.a.toNat).2 else
 nmO x v.a++ [32,109,117,115,116,32,98,101,32,115,101,114,118,101,100]
def Wd (x:Inst) (v:Itm):List UInt8:=if X2 x v=true then KP x v else [117,110,107,110,111,119,110]
inductive HasK (x:Inst):Itm->Prop
 | o (k a:Int) (hk:k=1\/k=2\/k=4\/k=10) (ha:0<=a/\a<x.orders.length):HasK x ⟨k,a⟩
 | t (k a:Int) (hk:k=3\/k=7\/k=8\/k=9) (ha:0<=a/\a<x.types.length):HasK x ⟨k,a⟩
 | p (a:Int) (ha:0<=a/\a<x.apart.length):HasK x ⟨5,a⟩
 | b (a:Int) (ha:0<=a/\a<x.before.length):HasK x ⟨6,a⟩
theorem ZjR {x:Inst} {v:Itm} (h:X2 x v=true):HasK x v:=by
 obtain ⟨k,a⟩:=v;simp only [X2] at h
 split at h
 ·rename_i hk;simp only [Wo,Bool.and_eq_true,decide_eq_true_eq] at h;exact .o k a hk h.1.1
 ·split at h
  ·rename_i hk;simp only [Bool.and_eq_true,decide_eq_true_eq] at h;exact .t k a hk h
  ·split at h
   ·rename_i hk;subst hk;simp only [Bool.and_eq_true,decide_eq_true_eq] at h;exact .p a h.1.1
   ·split at h
    ·rename_i hk;subst hk;simp only [Bool.and_eq_true,decide_eq_true_eq] at h;exact .b a h.1
    ·cases h
structure LnOk (x:Inst):Prop where
 ord:x.orders.length<=1000
 typ:x.types.length<=1000
 nmo: ∀o∈x.orders,o.name.length<=1048576
 nmt: ∀t∈x.types,t.name.length<=1048576
 ap:x.apart.length<=1000
 be:x.before.length<=1000
 app: ∀p∈x.apart,(0<=p.1/\p.1<x.orders.length)/\0<=p.2/\p.2<x.orders.length
 bep: ∀p∈x.before,(0<=p.1/\p.1<x.orders.length)/\0<=p.2/\p.2<x.orders.length
theorem LnOk.no {x:Inst} (h:LnOk x) {a:Int} (ha:0<=a/\a<x.orders.length):(nth x.orders a.toNat).name.length<=1048576:=h.nmo _ (ZP (by omega))
theorem LnOk.nt {x:Inst} (h:LnOk x) {a:Int} (ha:0<=a/\a<x.types.length):(nth x.types a.toNat).name.length<=1048576:=h.nmt _ (ZP (by omega))
def Zan (v:Itm):AM.Obj:= .cells [.p (.int .i64 v.kind),.p (.int .i64 v.a)]
theorem Yg (x:Inst) (n:Int) (v:Itm) (h:0<=n/\n<x.orders.length) (hl:x.orders.length<=1000):ACalls Tryz.prog 53 [.p (.int .i64 n),.ptr 0 0] [Zr x,Zan v] fun y H'=>y= .p (.str (nmO x n))/\H'= [Zr x,Zan v]:=by
 refine Yb [] Tryz.func53 rfl Zh2 ?_;simp (disch:=omega) only [Tryz.f53,Zr,Zan,go_sem,seval];exact we (by simp (disch:=omega) only [Zr,Zan,nmO,go_sem,seval])
theorem Vu {P:Program} {H:List AM.Obj} {f az} {z:PV} {B:V->Prop} {t} (h:ACalls P f az H fun x H'=>x= .p z/\H'=H) (k:B (.p z)) :
  exq (fun y=>ACalls P f az H (Zw (Zw (fun x H'=>x=y/\H'=H) ⟨⟩) ⟨⟩)) (Zw B t):=⟨.p z,h,k⟩
theorem ZbW {P:Program} {H:List AM.Obj} {f az} {z:V} {K:V->List AM.Obj->Prop} (h:ACalls P f az H fun x H'=>x=z/\H'=H) (k:K z H):ACalls P f az H K:=h.mono fun x H' hq=>by
 obtain ⟨rfl,rfl⟩:=hq;exact k
theorem ZaR (x:Inst) (hx:LnOk x) (v:Itm) (hv:X2 x v=true):PC 33 [.p (Xw x),.p (XN v)] (.str (KP x v)):=by
 have s1:=hx.ord;have s2:=hx.typ;have s3:=hx.ap;have s4:=hx.be;refine Zd Tryz.func33 rfl Zh0 ?_
 cases ZjR hv with
 | o k a hk ha =>
  have hn:=hx.no ha;have hc:=fun k=>Yg x a ⟨k,a⟩ ha s1;rcases hk with rfl | rfl | rfl | rfl
  all_goals
   simp (disch:=omega) only [Tryz.f33,go_sem,seval];refine ZbW (hc _) ?_;simp (disch:=first | omega | (simp only [List.length_cons,List.length_nil,List.length_append,List.length_map,List.length_take,List.length_drop]<;>omega)) only [Zr,Zan,nmO,go_sem,seval];simp [KP,nmO]
 | t k a hk ha =>
  have hn:=hx.nt ha;rcases hk with rfl | rfl | rfl | rfl
  all_goals
   simp (disch:=first | omega | (simp only [List.length_cons,List.length_nil,List.length_append,List.length_map,List.length_take,List.length_drop]<;>omega)) only [Tryz.f33,go_sem,seval];simp [KP,nmT]
 | p a ha =>
  have hp:=hx.app _ (ZP (l:=x.apart) (i:=a.toNat) (by omega));have n1:=hx.no hp.1;have n2:=hx.no hp.2;simp (disch:=omega) only [Tryz.f33,go_sem,seval];refine Zk mixed (by kernel_rfl) (by kernel_rfl) ?_;simp (disch:=omega) only [go_sem,seval];refine Vu (Yg x _ ⟨5,a⟩ hp.1 s1) ?_;simp (disch:=first | omega | (simp only [List.length_cons,List.length_nil,List.length_append,List.length_map,List.length_take,List.length_drop]<;>omega)) only [Zr,Zan,nmO,go_sem,seval];refine Vu (Yg x _ ⟨5,a⟩ hp.2 s1) ?_;simp (disch:=first | omega | (simp only [List.length_cons,List.length_nil,List.length_append,List.length_map,List.length_take,List.length_drop]<;>omega)) only [Zr,Zan,nmO,go_sem,seval]
  simp [KP,nmO]
 | b a ha =>
  have hp:=hx.bep _ (ZP (l:=x.before) (i:=a.toNat) (by omega));have n1:=hx.no hp.1;have n2:=hx.no hp.2;simp (disch:=omega) only [Tryz.f33,go_sem,seval];refine Zk mixed (by kernel_rfl) (by kernel_rfl) ?_;simp (disch:=omega) only [go_sem,seval];refine Vu (Yg x _ ⟨6,a⟩ hp.1 s1) ?_;simp (disch:=first | omega | (simp only [List.length_cons,List.length_nil,List.length_append,List.length_map,List.length_take,List.length_drop]<;>omega)) only [Zr,Zan,nmO,go_sem,seval];refine Vu (Yg x _ ⟨6,a⟩ hp.2 s1) ?_;simp (disch:=first | omega | (simp only [List.length_cons,List.length_nil,List.length_append,List.length_map,List.length_take,List.length_drop]<;>omega)) only [Zr,Zan,nmO,go_sem,seval]
  simp [KP,nmO]
theorem Kx (x:Inst) (hx:LnOk x) (hs:ISz x) (v:Itm):PC 34 [.p (Xw x),.p (XN v)] (.str (Wd x v)):=by
 have s1:=hx.ord;have s2:=hx.typ;have s3:=hx.ap;have s4:=hx.be;have hh:=ZaB x hs v;refine Zd Tryz.func34 rfl Zje ?_
 by_cases hv:X2 x v=true
 ·rw [hv] at hh;rw [Wd,if_pos hv]
  cases ZjR hv with
  | o k a hk ha =>
   have hn:=hx.no ha;rcases hk with rfl | rfl | rfl | rfl
   all_goals
    simp (disch:=omega) only [Tryz.f34,go_sem,seval];refine hh.use ?_;simp (disch:=first | omega | (simp only [List.length_cons,List.length_nil,List.length_append,List.length_map,List.length_take,List.length_drop]<;>omega)) only [go_sem,seval];simp [KP,nmO]
  | t k a hk ha =>
   have hn:=hx.nt ha;rcases hk with rfl | rfl | rfl | rfl
   all_goals
    simp (disch:=omega) only [Tryz.f34,go_sem,seval];refine hh.use ?_;simp (disch:=first | omega | (simp only [List.length_cons,List.length_nil,List.length_append,List.length_map,List.length_take,List.length_drop]<;>omega)) only [go_sem,seval];simp [KP,nmT]
  | p a ha =>
   have hp:=hx.app _ (ZP (l:=x.apart) (i:=a.toNat) (by omega));have n1:=hx.no hp.1;have n2:=hx.no hp.2;simp (disch:=omega) only [Tryz.f34,go_sem,seval];refine (hh).use ?_;simp (disch:=omega) only [go_sem,seval];refine Zk mixed (by kernel_rfl) (by kernel_rfl) ?_;simp (disch:=first | omega | (simp only [List.length_cons,List.length_nil,List.length_append,List.length_map,List.length_take,List.length_drop]<;>omega)) only [go_sem,seval];simp [KP,nmO]
  | b a ha =>
   have hp:=hx.bep _ (ZP (l:=x.before) (i:=a.toNat) (by omega));have n1:=hx.no hp.1;have n2:=hx.no hp.2;simp (disch:=omega) only [Tryz.f34,go_sem,seval];refine (hh).use ?_;simp (disch:=omega) only [go_sem,seval];refine Zk mixed (by kernel_rfl) (by kernel_rfl) ?_;simp (disch:=first | omega | (simp only [List.length_cons,List.length_nil,List.length_append,List.length_map,List.length_take,List.length_drop]<;>omega)) only [go_sem,seval];simp [KP,nmO]
 ·rw [show X2 x v=false from by simpa using hv] at hh;rw [Wd,if_neg hv];simp (disch:=omega) only [Tryz.f34,go_sem,seval];refine (hh).use ?_;simp (disch:=omega) only [go_sem,seval]
theorem JZ (x:Inst) (hx:LnOk x) (hs:ISz x) (l:List Itm) (c:Bool) (hl:l.length<=1000):PC 13 [.p (Xw x),.p (.list c (l.map XN))] (.list false ((l.map (Wd x)).map eS)):=by
 refine ACalls.frozen (S:=1) (n:=(l.map (Wd x)).length) (by simp) ?_
 suffices hh:ACalls Tryz.prog 13 [.p (Xw x),.p (.list c (l.map XN))] [] fun y H'=> ∃m:List (List UInt8),m=l.map (Wd x)/\y= .sl 0 0 m.length m.length/\H'= [.elems 1 (m.map eS)] by
  refine hh.mono ?_;rintro x H' ⟨m,rfl,h1,h2⟩;exact ⟨h1,h2⟩
 refine Zi [2] Tryz.func13 rfl ZhX ?_;simp (disch:=omega) only [Tryz.f13,go_sem,seval];refine ZM (Weak.ofNil 5 1 (by simp (disch:=omega) only [go_sem,seval]) (by simp) (Weak.refl _ _ _)) ?_;refine Za [] _ _ _ _ ?_;simp (disch:=omega) only [go_sem,seval];refine Zs [2,8,9] (fun q:Nat×List (List UInt8)=> [(5,.sl 1 0 q.2.length q.2.length),(10,.p (.int .i64 q.1))]) (fun q=> [Zr x,.elems 1 (q.2.map eS)]) (fun q=>q.1<=l.length/\q.2=(l.take q.1).map (Wd x)) (fun q=>l.length-q.1) (0,[]) ⟨by simp,by simp⟩ (Weak.mk ?_) ?_
 ·simp (disch:=omega) only [Zr,go_sem,seval]
 ·rintro ⟨k,m⟩ ⟨hk,hm⟩;simp only at hk hm
  have hml:m.length=k:=by rw [hm];simp;omega
  have hh:=ZbO x hs (nth l k);simp (disch:=omega) only [Zr,go_sem,seval];refine cD ?_ ?_<;>intro h<;>simp (disch:=omega) only [Sh.out h,go_sem,seval]
  ·have hk2:k<l.length:=by omega
   have hsn:(l.take (k+1)).map (Wd x)=m++ [Wd x (nth l k)]:=by rw [hm,List.take_succ_eq_append_getElem hk2,Zn hk2,List.map_append,List.map_cons,List.map_nil]
   by_cases hv:X2 x (nth l k)=true
   ·have hc:=ZaR x hx (nth l k) hv
    have hlf:KP x (nth l k)=Wd x (nth l k):=by rw [Wd,if_pos hv]
    rw [hlf] at hc;rw [hv] at hh;refine (hh).use ?_;simp (disch:=omega) only [go_sem,seval];refine (hc).use ?_;simp (disch:=omega) only [go_sem,seval];exact ⟨(k+1,m++ [Wd x (nth l k)]),⟨by simp only;omega,by simp only [hsn]⟩,by simp only;omega,Weak.mk (by simp (disch:=omega) only [Zr,go_sem,seval])⟩
   ·have hlf:Wd x (nth l k)= [117,110,107,110,111,119,110]:=by rw [Wd,if_neg hv]
    rw [show X2 x (nth l k)=false from by simpa using hv] at hh;refine (hh).use ?_;simp (disch:=omega) only [go_sem,seval];exact ⟨(k+1,m++ [Wd x (nth l k)]),⟨by simp only;omega,by simp only [hsn]⟩,by simp only;omega,Weak.mk (by simp (disch:=omega) only [Zr,hlf,go_sem,seval])⟩
  ·have hkl:k=l.length:=by omega
   subst hkl;exact ⟨m,by rw [hm,List.take_length],1,by simp (disch:=omega) only [Zr,go_sem,seval]⟩
theorem QO (x:Inst) (hx:LnOk x) (hs:ISz x) (l:List Itm) (c:Bool) (hl:l.length<=1000):PC 14 [.p (Xw x),.p (.list c (l.map XN))] (.list false ((l.map (Wd x)).map eS)):=by
 refine ACalls.frozen (S:=1) (n:=(l.map (Wd x)).length) (by simp) ?_
 suffices hh:ACalls Tryz.prog 14 [.p (Xw x),.p (.list c (l.map XN))] [] fun y H'=> ∃m:List (List UInt8),m=l.map (Wd x)/\y= .sl 0 0 m.length m.length/\H'= [.elems 1 (m.map eS)] by
  refine hh.mono ?_;rintro x H' ⟨m,rfl,h1,h2⟩;exact ⟨h1,h2⟩
 refine Zi [2] Tryz.func14 rfl Zih ?_;simp (disch:=omega) only [Tryz.f14,go_sem,seval];refine ZM (Weak.ofNil 5 1 (by simp (disch:=omega) only [go_sem,seval]) (by simp) (Weak.refl _ _ _)) ?_;refine Za [] _ _ _ _ ?_;simp (disch:=omega) only [go_sem,seval];refine Zs [1,2] (fun q:Nat×List (List UInt8)=> [(5,.sl 1 0 q.2.length q.2.length),(6,.p (.int .i64 q.1))]) (fun q=> [Zr x,.elems 1 (q.2.map eS)]) (fun q=>q.1<=l.length/\q.2=(l.take q.1).map (Wd x)) (fun q=>l.length-q.1) (0,[]) ⟨by simp,by simp⟩ (Weak.mk ?_) ?_
 ·simp (disch:=omega) only [Zr,go_sem,seval]
 ·rintro ⟨k,m⟩ ⟨hk,hm⟩;simp only at hk hm
  have hml:m.length=k:=by rw [hm];simp;omega
  simp (disch:=omega) only [Zr,go_sem,seval];refine cD ?_ ?_<;>intro h<;>simp (disch:=omega) only [Sh.out h,go_sem,seval]
  ·have hk2:k<l.length:=by omega
   have hsn:(l.take (k+1)).map (Wd x)=m++ [Wd x (nth l k)]:=by rw [hm,List.take_succ_eq_append_getElem hk2,Zn hk2,List.map_append,List.map_cons,List.map_nil]
   refine Zk mixed (by kernel_rfl) (by kernel_rfl) ?_;simp (disch:=omega) only [go_sem,seval];refine Zm (Kx x hx hs (nth l k)) ?_;simp (disch:=omega) only [go_sem,seval];exact ⟨(k+1,m++ [Wd x (nth l k)]),⟨by simp only;omega,by simp only [hsn]⟩,by simp only;omega,Weak.mk (by simp (disch:=omega) only [Zr,go_sem,seval])⟩
  ·have hkl:k=l.length:=by omega
   subst hkl;exact ⟨m,by rw [hm,List.take_length],1,by simp (disch:=omega) only [Zr,go_sem,seval]⟩
theorem ZaU (x:Inst) (hw:x.wf 1048576) (n:Int):ACalls Tryz.prog 5 [.p (Xw x),.p (.int .i64 n)] [] fun y H'=> ∃b:Bool,(b=true->x.orders.length<=n/\x.types.length<=2/\x.apart.length<=4/\x.before.length<=4/\InstOk x)/\y= .p (.bool b)/\H'= []:=by
 have w1:=hw.1.1;have w2:=hw.1.2.2.1;have w3:=hw.2.1;have w4:=hw.2.2.2.1;have w5:=hw.2.2.2.2.2.1;have w6:=hw.2.2.2.2.2.2.2.1;refine ACalls.pureE (Z1 Tryz.func5 rfl ZlC (Za [] _ _ _ _ ?_));simp (disch:=omega) only [Tryz.f5,go_sem,seval];refine gT ?_ ?_<;>intro h1<;>simp (disch:=omega) only [Sh.out h1,go_sem,seval]
 ·refine gT ?_ ?_<;>intro h2<;>simp (disch:=omega) only [Sh.out h2,go_sem,seval]
  ·refine gT ?_ ?_<;>intro h3<;>simp (disch:=omega) only [Sh.out h3,go_sem,seval]
   ·refine gT ?_ ?_<;>intro h4<;>simp (disch:=omega) only [Sh.out h4,go_sem,seval]
    ·refine gT ?_ ?_<;>intro h5<;>simp (disch:=omega) only [Sh.out h5,go_sem,seval]
     ·refine gT ?_ ?_<;>intro h6<;>simp (disch:=omega) only [Sh.out h6,go_sem,seval]
      ·refine ((Zfk x hw).frozenE).useV fun m hm=> ?_;simp (disch:=omega) only [go_sem,seval];refine ⟨decide (m.length=0),fun hb=>⟨by omega,by omega,by omega,by omega,?_⟩,by simp⟩;have:=hm.emp;rw [decide_eq_true_eq,List.length_eq_zero_iff,this] at hb;exact hb
      ·exact ⟨false,by simp,rfl⟩
     ·exact ⟨false,by simp,rfl⟩
    ·exact ⟨false,by simp,rfl⟩
   ·exact ⟨false,by simp,rfl⟩
  ·exact ⟨false,by simp,rfl⟩
 ·exact ⟨false,by simp,rfl⟩
theorem Zin {x:Inst} (hw:x.wf 1048576) (h:InstOk x):LnOk x:=by
 have hs:=Jw h;obtain ⟨⟨a1,a2,_⟩,b1,b2,_⟩:=KL.1 h.rules;refine ⟨hs.ord,hs.typ,fun o ho=>(hw.2.2.2.2.1 o ho).1,fun t ht=>(hw.2.2.1 t ht).1,hs.ap,hs.be,fun p hp=> ?_,fun p hp=> ?_⟩
 ·have:=a2 p hp;simp only [okP,Bool.and_eq_true,decide_eq_true_eq] at this;exact ⟨this.1.1,this.1.2⟩
 ·have:=b2 p hp;simp only [okP,Bool.and_eq_true,decide_eq_true_eq] at this;exact ⟨this.1.1,this.1.2⟩
theorem QK (haw:PC 12 [] (.bool true)) (x:Inst) (hw:x.wf 1048576) (l:List Itm) (c:Bool) (hl:l.length<=1048576) :
  PC 4 [.p (Xw x),.p (.list c (l.map XN))] (.bool true):=by
 refine VT [] Tryz.func4 rfl ZlA ?_;simp (disch:=omega) only [Tryz.f4,go_sem,seval];refine (ZaU x hw 6).useV fun b hb=> ?_;simp (disch:=omega) only [go_sem,seval]
 cases b with
 | false =>
  simp (disch:=omega) only [Bool.not_false,go_sem,seval];refine (haw).use ?_;simp (disch:=omega) only [go_sem,seval]
 | true =>
  simp (disch:=omega) only [Bool.not_true,go_sem,seval];obtain ⟨h1,h2,h3,h4,hx⟩:=hb rfl;have hs:=Jw hx;have hn:=Zin hw hx;refine cD ?_ ?_<;>intro h<;>simp (disch:=omega) only [Sh.out h,go_sem,seval]
  ·refine (haw).use ?_;simp (disch:=omega) only [go_sem,seval]
  ·refine Zk mixed (by kernel_rfl) (by kernel_rfl) ?_;simp (disch:=omega) only [go_sem,seval];refine Zm (JZ x hn hs l c (by omega)) ?_;simp (disch:=omega) only [go_sem,seval];refine Zm (QO x hn hs l c (by omega)) ?_;simp (disch:=omega) only [go_sem,seval];generalize hL:l.map (Wd x)=L
   have hLl:L.length=l.length:=by rw [<- hL];simp
   refine Zs [5,6] (fun k:Nat=> [(7,.p (.int .i64 k))]) (fun _=> [Zr x]) (fun k=>k<=L.length) (fun k=>L.length-k) 0 (by simp) (Weak.mk ?_) ?_
   ·simp (disch:=omega) only [Zr,go_sem,seval]
   ·intro k hk;simp (disch:=omega) only [Zr,go_sem,seval];refine cD ?_ ?_<;>intro h5<;>simp (disch:=omega) only [Sh.out h5,go_sem,seval]
    ·refine Zk mixed (by kernel_rfl) (by kernel_rfl) ?_;simp (disch:=omega) only [eq_self,decide_true,go_sem,seval];exact ⟨k+1,by omega,by omega,Weak.mk (by simp (disch:=omega) only [Zr,go_sem,seval])⟩
    ·refine (haw).use ?_;simp (disch:=omega) only [go_sem,seval]
theorem JW : PC 12 [] (.bool true) :=
 ZaZ { kp:= [92,71] } 60 mixed (by kernel_rfl)
theorem VD (x:Inst) (hw:x.wf 1048576) (l:List Itm) (c:Bool) (hl:l.length<=1048576) :
  PC 4 [.p (Xw x),.p (.list c (l.map XN))] (.bool true):=QK JW x hw l c hl
end Go.Proofs.YtgknhiknjimdpaaGreatDoor.K
