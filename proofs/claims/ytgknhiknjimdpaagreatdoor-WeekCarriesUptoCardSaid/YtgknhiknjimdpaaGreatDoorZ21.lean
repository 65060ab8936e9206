/- Declarations that the closing texts need, part 21: joined by tools/slim.py. -/
import Derived.Test.YtgknhiknjimdpaaGreatDoorZ20
import Derived.Shelf.SlSortCmp.NoneTotal
set_option linter.unusedVariables false
set_option linter.unusedSimpArgs false
namespace Go.AM
open Go.RowKit Go.Shelf Go.Lib Go.Sort Go.Proofs
theorem ZbA {W w':World} {H':List AM.Obj} {ι':List (Option Nat)} (g:Good Um [] [] W H' ι' w'): ∃q os',w'=grow (W.drewN q) os':=by
 refine ⟨w'.drawn-W.drawn,w'.heap.extract W.heap.size w'.heap.size,?_⟩
 have h1:w'.heap=W.heap++w'.heap.extract W.heap.size w'.heap.size:=by
  apply Array.ext_getElem?;intro i
  by_cases hi:i<W.heap.size
  ·rw [Array.getElem?_append_left hi];exact g.keep i hi (by simp)
  ·rw [Array.getElem?_append_right (by omega)];have:=g.size;rw [Array.getElem?_extract]
   split
   ·congr 1;omega
   ·rw [Array.getElem?_eq_none (by omega)]
 have h2:W.drawn<=w'.drawn:=g.tape.2.resolve_right fun h=>h;have h3:=g.tape.1;have h4:=g.os;have h5:=g.output
 cases w'
 simp only [grow,World.drewN] at *
 congr 1
 omega
def ZeO (c:Array Value) (k i:Nat):List Value:=(List.range k).map fun j=>c.getD (i*k+j) undef
theorem Vx (c k i):(ZeO c k i).length=k:=by simp [ZeO]
theorem Wi {c k i j} (h:j<k):(ZeO c k i)[j]! =c.getD (i*k+j) undef:=by
 rw [List.getElem!_eq_getElem?_getD,ZeO,List.getElem?_map,List.getElem?_range h];rfl
theorem ACalls.sortFunc {P : Program} {ρ : Ren} (L : SlLaysF0.n6 P ρ) (hg : Zo P (ρ.f 6)) (k : Nat) (aE : ∀ w, (isAgg (ρ.t 24)).run P w = .ok true w) (zE : ∀ w, (Go.sizeOf (ρ.t 24)).run P w = .ok k w)
    {β : Type} [Inhabited β] (f : β -> PV) (hf : ∀ x, ∃ cs, f x = .agg cs /\ cs.length = k /\ cs.all (·.one) = true) (cf : β -> β -> Int) (hO : SWO (ltOf cf)) (g : FuncId)
    (hcmp : ∀ x y, ACalls P g [.p (f x), .p (f y)] [] fun r H' => r = .p (.int .i64 (cf x y)) /\ H' = []) (xs : List β) (hlen : xs.length < 4611686018427387904) {H : List AM.Obj} {o : Nat} (hHo : H[o]? = some (.elems k (xs.map f))) :
    ACalls P (ρ.f 6) [.sl o 0 xs.length xs.length, .fn (.func g) [] []] H fun y H' => y = .tup [] /\ ∃ ys : List β, ys.Perm xs /\ ys.Pairwise (fun a b => ¬ cf b a < 0) /\ H' = H.set o (.elems k (ys.map f)) := by
  refine ⟨hg, fun F ι w vs hr hv => ?_⟩;obtain ⟨hv1, hv2⟩ := hv;have h0 := hv2 0 _ rfl;have h1 := hv2 1 _ rfl
  have hvs : vs = #[vs.getD 0 undef, vs.getD 1 undef] := by
    apply Array.ext
    · simpa using hv1
    · intro i h2 h3
      have : i = 0 \/ i = 1 := by simp at hv1; omega
      rcases this with rfl | rfl <;> simp [Array.getD, h2]
  rw [hvs];generalize vs.getD 0 undef = v0 at h0 ⊢;generalize vs.getD 1 undef = v1 at h1 ⊢;clear hvs hv1 hv2
  cases h1 with | fn _ _ _ a e hs ht _ _ =>
  have ea : a = #[] := Array.eq_empty_of_size_eq_zero (by simpa using hs);have ee : e = #[] := Array.eq_empty_of_size_eq_zero (by simpa using ht);subst ea; subst ee;generalize hL : xs.length = n at h0 hlen
  by_cases hz : n = 0
  · subst hz
    obtain rfl : xs = [] := List.length_eq_zero_iff.1 hL
    have e1 : H.set o (.elems k (([] : List β).map f)) = H := by
      apply List.ext_getElem?;intro i;rw [List.getElem?_set]
      split
      · rename_i hi; subst hi; rw [hHo]; simp [(List.getElem?_eq_some_iff.1 hHo).1]
      · rfl
    obtain ⟨ad, cap, rfl⟩ : ∃ ad cap, v0 = .slice ad 0 cap := by
      cases h0 with
      | slNil => exact ⟨_, _, rfl⟩
      | sl => exact ⟨_, _, rfl⟩
      | slD _ _ _ _ _ hd => rw [hHo] at hd; cases hd
      | slS _ _ _ _ _ S2 xs2 hd hne => rw [hHo] at hd; simp at hd; obtain ⟨_, rfl⟩ := hd; simp at hne
      | slC _ _ _ _ _ _ hd => rw [hHo] at hd; cases hd
    refine (AnyF.slices_SortFunc_none L ad cap _ w).mono ?_;rintro e w' ⟨rfl, rfl⟩;exact ⟨.tup [], _, ι, _, rfl, ⟨rfl, [], .refl _, .nil, e1.symm⟩, Good.refl hr, .tup [] #[] (by simp) (by simp)⟩
  have hn : 0 < n := by omega
  cases h0 with
  | slNil => omega
  | slD _ _ _ _ _ hd => rw [hHo] at hd; cases hd
  | slS _ _ _ _ _ S ys hd hlt => rw [hHo] at hd; simp at hd; obtain ⟨_, rfl⟩ := hd; simp at hlt; omega
  | slC _ _ _ _ _ _ hd => rw [hHo] at hd; cases hd
  | sl _ _ _ _ b S cap t ys c hι hH ht2 hw hcap hl hle hm =>
  rw [hHo] at hH;simp at hH;obtain ⟨rfl, rfl⟩ := hH;rcases hr.elm o k (xs.map f) hHo with ⟨e1, _⟩ | ⟨b2, c2, t2, cap2, e1, e2, e3, e4, e5, e6, e7⟩
  · rw [hι] at e1; cases e1
  rw [hι] at e1;simp at e1; subst e1;rw [hw] at e2;simp at e2;obtain ⟨rfl, rfl⟩ := e2;have hbs : b < w.heap.size := (hr.avo o b hι).2;have hbF : ¬ F b := (hr.avo o b hι).1
  -- an index, made one that there is
  let ix : Nat -> Nat := fun i => if i < n then i else 0
  have hix : ∀ i, ix i < n := fun i => by simp only [ix]; split <;> omega
  have hixe : ∀ i, i < n -> ix i = i := fun i hi => by simp only [ix]; rw [if_pos hi]
  let enc : Nat -> List Value := fun i => ZeO c k (ix i)
  have hk : ∀ x, (enc x).length = k := fun x => Vx _ _ _
  -- one cell of an element
  have cell : ∀ i, i < n -> ∃ cs, f (nth xs i) = .agg cs /\ cs.length = k /\ ∀ (j : Nat) (y : PV), cs[j]? = some y -> y.one = true /\ RP (Own F ι) w y (c.getD (i * k + j) undef) := fun i hi => by
    obtain ⟨cs, q1, q2, q3⟩ := hf (nth xs i);refine ⟨cs, q1, q2, fun j y hj => ⟨List.all_eq_true.1 q3 y (List.mem_of_getElem? hj), ?_⟩⟩;refine e7 i (f (nth xs i)) j y ?_ (by rw [q1]; exact hj);rw [List.getElem?_map, List.getElem?_eq_getElem (by omega), Zh (by omega)]; rfl
  have one : ∀ x, ∀ v ∈ enc x, v.oneCell' = true := fun x v hv => by
    obtain ⟨j, hj, rfl⟩ := List.mem_iff_getElem.1 hv
    have hjk : j < k := by rw [hk] at hj; exact hj
    obtain ⟨cs, q1, q2, q3⟩ := cell (ix x) (hix x);have hg := q3 j (cs[j]'(by omega)) (by simp)
    have e9 : (enc x)[j] = c.getD (ix x * k + j) undef := by
      have := Wi (c := c) (i := ix x) hjk;rw [List.getElem!_eq_getElem?_getD, List.getElem?_eq_getElem (by rw [Vx]; exact hjk)] at this;exact this
    rw [e9];exact hg.2.oneCell hg.1
  let d : Array Nat := Array.range n
  have hd : d.size = n := by simp [d]
  let cf' : Nat -> Nat -> Int := fun i j => cf (nth xs (ix i)) (nth xs (ix j))
  have hO' : SWO (ltOf cf') := ⟨fun x => hO.irrefl _, fun x y z h1 h2 => hO.trans _ _ _ h1 h2, fun x y z h1 h2 => hO.ntrans _ _ _ h1 h2⟩
  have hsz : n * k <= c.size := by
    rw [e3]; exact Nat.mul_le_mul_right k (by simpa [hL] using e4)
  have hcell : ∀ j, j < c.size -> w.cell? ⟨b, j, none⟩ = some (c.getD j undef) := fun j hj => by
    simp [World.cell?, hw, hj]
  have hHolds : HoldsK enc k w b (0 * k) d := fun j hj => by
    have hj2 : j < n * k := by simpa [hd] using hj
    have k0 : 0 < k := by rcases Nat.eq_zero_or_pos k with h | h; · subst h; simp at hj2
                          · exact h
    rw [get_flatK enc k d j (by rw [hd]; exact hj2)];have hdj : j / k < n := Nat.div_lt_of_lt_mul (by rw [Nat.mul_comm]; exact hj2)
    have hde : d[j / k]! = j / k := by simp [d, hdj]
    rw [hde]
    have e9 : (enc (j / k))[j % k]! = c.getD j undef := by
      show (ZeO c k (ix (j / k)))[j % k]! = _
      rw [hixe _ hdj, Wi (Nat.mod_lt _ k0), Nat.div_add_mod']
    rw [e9, Nat.zero_mul, Nat.zero_add];exact ⟨hcell j (by omega), by simp [World.frozen?, hw]⟩
  have hcmp' : CmpLays P g #[] enc k cf' b (0 * k) d.size w := fun m os dk hdk x y => by
    generalize hW : sortWorldK enc k w b (0 * k) m dk os = W
    have hKeep : Keeps (Own F ι) w Um W := fun b' hb' hs' => by
      have hne : b' ≠ b := fun e => hb' (.inr (e ▸ List.mem_of_getElem? hι));refine ⟨fun h => h, ?_, ?_⟩
      · rw [<- hW]; simp [sortWorldK, grow, putRowK, putRow, mapBlock, ahead]; omega
      · rw [<- hW]
        simp only [sortWorldK, grow, putRowK, putRow, mapBlock, ahead];rw [Array.getElem?_append_left (by simpa using hs'), Array.getElem?_modify, if_neg (fun e => hne e.symm)]
        rfl
    have heW : Env Um [] W := (hr.env.of (w' := W) (ι' := ι) (by rw [<- hW]; simp [sortWorldK, grow, putRowK, putRow, mapBlock, ahead]) (fun b' hb' hni => by
      have hne : b' ≠ b := fun e => hni (e ▸ List.mem_of_getElem? hι);rw [<- hW];simp only [sortWorldK, grow, putRowK, putRow, mapBlock, ahead];rw [Array.getElem?_append_left (by simpa using hb'), Array.getElem?_modify, if_neg (fun e => hne e.symm)]
      rfl) (fun _ _ h => h)).noth
    have arg : ∀ i, RV Um [] [] W (.p (f (nth xs (ix i)))) (.agg (enc i).toArray) := fun i => by
      obtain ⟨cs, q1, q2, q3⟩ := cell (ix i) (hix i);refine .p _ _ ?_;rw [q1]
      refine (RP.agg cs (enc i).toArray (by simp [hk, q2]) fun j y hj => ?_ : RP Um W _ _).weaker fun b hb => by
        rcases hb with hb | hb
        · exact hb
        · simp at hb
      have hjk : j < k := by rw [<- q2]; exact (List.getElem?_eq_some_iff.1 hj).1
      have e9 : (enc i).toArray.getD j undef = c.getD (ix i * k + j) undef := by
        have := Wi (c := c) (i := ix i) hjk;rw [List.getElem!_eq_getElem?_getD, List.getElem?_eq_getElem (by rw [Vx]; exact hjk)] at this;simp only [Array.getD_eq_getD_getElem?, List.getElem?_toArray];rw [List.getElem?_eq_getElem (by rw [hk]; exact hjk), Option.getD_some];rw [Option.getD_some] at this;simpa only [Array.getD_eq_getD_getElem?] using this
      rw [e9];exact (q3 j y hj).2.ext hKeep
    refine ((hcmp (nth xs (ix x)) (nth xs (ix y))).2 Um [] W _ (Ws heW) ⟨rfl, fun j q hj => ?_⟩).mono ?_
    · cases j with
      | zero => simp at hj; subst hj; exact arg x
      | succ j => cases j with
        | zero => simp at hj; subst hj; exact arg y
        | succ j => simp at hj
    · rintro e' w' ⟨x', H', ι', v, rfl, ⟨rfl, rfl⟩, gd, rv⟩
      cases rv with | p _ _ rp =>
      rw [rp.int_inv];exact ⟨rfl, ZbA gd⟩
  have eg := (hcmp default default).1;have main := AnyQ.slices_SortFunc L k aE zE enc hk one cf' hO' g #[] b (0 * k) cap d w (fun args w => eg args w) hcmp' hHolds hbs (by rw [hd]; exact hlen);rw [hd] at main;refine main.mono ?_;rintro e' w' ⟨rfl, d', m, os, hp, hso, rfl⟩;obtain ⟨p1, _, p3⟩ := hp;rw [hd] at p1
  have hperm : d'.toList.Perm (List.range n) := by
    have e8 : (d'.extract 0 n).toList = d'.toList := by rw [<- p1]; simp
    have e9 : (d.extract 0 n).toList = List.range n := by
      have : d.extract 0 n = d := by rw [<- hd]; simp
      rw [this]; simp [d]
    rw [e8, e9] at p3; exact p3
  have hlt : ∀ i ∈ d'.toList, i < n := fun i hi => by simpa using hperm.mem_iff.1 hi
  have hlt2 : ∀ i, i < n -> d'.toList[i]?.isSome = true := fun i hi => by simp [p1, hi]
  have hget : ∀ i (hi : i < n), d'[i]! = d'.toList[i]'(by simp [p1, hi]) := fun i hi => by
    rw [getElem!_pos d' i (by omega)]; simp
  let ys : List β := d'.toList.map (nth xs)
  have hyl : ys.length = n := by simp [ys, p1]
  have hys : ∀ i (hi : i < n), ys[i]'(by omega) = nth xs d'[i]! := fun i hi => by
    simp only [ys, List.getElem_map]; rw [hget i hi]
  have hdl : ∀ i, i < n -> d'[i]! < n := fun i hi => by rw [hget i hi]; exact hlt _ (List.getElem_mem _)
  have yperm : ys.Perm xs := by
    have h9 : (List.range n).map (nth xs) = xs := by
      refine List.ext_getElem (by simp [hL]) fun i h1 h2 => ?_;simp only [List.getElem_map, List.getElem_range];rw [Zh h2]
    have := hperm.map (nth xs);rw [h9] at this; exact this
  have ysort : ys.Pairwise fun a b => ¬ cf b a < 0 := by
    rw [List.pairwise_iff_getElem];intro i j hi hj hij;rw [hys i (by omega), hys j (by omega)];have h9 := hso i j (Nat.zero_le _) hij (by omega);simp only [ltOf, cf', decide_eq_false_iff_not] at h9;rwa [hixe _ (hdl j (by omega)), hixe _ (hdl i (by omega))] at h9
  let c' : Array Value := putCells id (0 * k) (flatK enc k d') c
  have hcs : c'.size = c.size := by simp [c', putCells]
  have hat : (sortWorldK enc k w b (0 * k) m d' os).heap[b]? = some (.cells c' t (0, 0)) := by
    simp only [sortWorldK, grow, putRowK, putRow, mapBlock, ahead];rw [Array.getElem?_append_left (by simpa using hbs), Array.getElem?_modify, if_pos rfl]
    show Option.map _ w.heap[b]? = _
    rw [hw]; rfl
  have hoth : ∀ q, q < w.heap.size -> q ≠ b -> (sortWorldK enc k w b (0 * k) m d' os).heap[q]? = w.heap[q]? := fun q hq hne => by
    simp only [sortWorldK, grow, putRowK, putRow, mapBlock, ahead];rw [Array.getElem?_append_left (by simpa using hq), Array.getElem?_modify, if_neg (fun e => hne e.symm)]
    rfl
  have hc' : ∀ i j, i < n -> j < k -> c'.getD (i * k + j) undef = c.getD (d'[i]! * k + j) undef := fun i j hi hj => by
    have hb1 : i * k + j < n * k := by
      have := Nat.mul_le_mul_right k (show i + 1 <= n from hi);rw [Nat.add_mul, Nat.one_mul] at this; omega
    have e8 : (flatK enc k d')[i * k + j]! = c.getD (d'[i]! * k + j) undef := by
      rw [get_flatK enc k d' _ (by rw [p1]; exact hb1)]
      have q1 : (i * k + j) / k = i := by rw [Nat.mul_comm, Nat.mul_add_div (by omega), Nat.div_eq_of_lt hj]; omega
      have q2 : (i * k + j) % k = j := by rw [Nat.mul_comm, Nat.mul_add_mod, Nat.mod_eq_of_lt hj]
      rw [q1, q2]
      show (ZeO c k (ix d'[i]!))[j]! = _
      rw [Wi hj, hixe _ (hdl i hi)]
    have e9 : c'[i * k + j]? = some ((flatK enc k d')[i * k + j]!) := by
      simp only [c', putCells, Array.getElem?_mapIdx];rw [Array.getElem?_eq_getElem (by omega)];simp only [Option.map_some, Nat.zero_mul, Nat.zero_le, true_and, Nat.zero_add, size_flatK, p1, hb1, if_true, Nat.sub_zero, id]
    rw [Array.getD_eq_getD_getElem?, e9, Option.getD_some, e8]
  have good := ZJ (w' := sortWorldK enc k w b (0 * k) m d' os) (c := c') (t := t) (xs' := ys.map f) (cap := cap2) (b' := b) hr (o := o) (S := k) (xs := xs.map f) hHo rfl (Tp.of rfl (by simp [sortWorldK, grow, putRowK, putRow, mapBlock, ahead])) rfl
    (fun c0 t0 h => by rw [hw] at h; simp at h; obtain ⟨rfl, rfl⟩ := h; exact ⟨rfl, hcs⟩) (by simp [sortWorldK, grow, putRowK, putRow, mapBlock, ahead]) hat hoth (.inl ⟨hι, .inl ⟨by simp [hyl, hL], fun c0 t0 h => by rw [hw] at h; simp at h; obtain ⟨rfl, rfl⟩ := h; exact ⟨rfl, hcs⟩⟩⟩)
    (by rw [hcs]; exact e3) (by simp only [List.length_map, hyl]; simpa [hL] using e4) e5
    (fun i x hi => by
      rw [List.getElem?_map, Option.map_eq_some_iff] at hi;obtain ⟨y, _, rfl⟩ := hi;obtain ⟨cs, q1, q2, _⟩ := hf y
      rw [q1]; exact q2)
    (fun i x j y hi hj => by
      rw [List.getElem?_map, Option.map_eq_some_iff] at hi;obtain ⟨z, hz, rfl⟩ := hi
      have hin : i < n := by have := (List.getElem?_eq_some_iff.1 hz).1; omega
      have e8 : z = nth xs d'[i]! := by
        obtain ⟨h9, h10⟩ := List.getElem?_eq_some_iff.1 hz;rw [<- h10]; exact hys i hin
      obtain ⟨cs, q1, q2, q3⟩ := cell _ (hdl i hin);rw [e8, q1] at hj
      have hjk : j < k := by rw [<- q2]; exact (List.getElem?_eq_some_iff.1 hj).1
      rw [hc' i j hin hjk]
      exact (q3 j y hj).2)
  have Zy : ι.set o (some b) = ι := by
    refine List.ext_getElem? fun i => ?_;rw [List.getElem?_set]
    split
    · rename_i e; subst e
      have := (List.getElem?_eq_some_iff.1 hι).1;rw [if_pos this, hι]
    · rfl
  rw [Zy] at good;exact ⟨.tup [], _, ι, .tuple #[], rfl, ⟨rfl, ys, yperm, ysort, rfl⟩, good, .tup [] #[] rfl (fun j c hj => by simp at hj)⟩
end Go.AM
set_option linter.unusedVariables false
set_option linter.unusedSimpArgs false
namespace Go.Proofs.YtgknhiknjimdpaaGreatDoor.K
open Go Go.AM Go.Proofs
set_option maxRecDepth 8000
set_option maxHeartbeats 8000000
deriving instance DecidableEq for Itm
theorem Yo {v w:Itm} :v=w↔v.kind=w.kind/\v.a=w.a:=by cases v;cases w;simp
def Zam (a b:Itm):Int:=if JN a.kind b.kind=0 then JN a.a b.a else JN a.kind b.kind
theorem QO (a b:Itm):PC 74 [.p (Y9 a),.p (Y9 b)] (.int .i64 (Zam a b)):=by
 refine Zb Tryz.func74 rfl ZmK ?_;simp (disch:=omega) only [Tryz.f74,go_sem,seval];refine Zq mixed (by kernel_rfl) (by kernel_rfl) ?_;simp (disch:=omega) only [go_sem,seval];refine ZM (Zhl a.kind b.kind) ?_;simp (disch:=omega) only [go_sem,seval];refine ZM (Zhl a.a b.a) ?_;simp (disch:=omega) only [go_sem,seval];refine ZM (Zp0 [JN a.kind b.kind,JN a.a b.a] false (by simp)) ?_;simp (disch:=omega) only [go_sem,seval];rw [Zd9,Zam]
def Zcy (x:Inst) (o:Int):Bool:=decide (o<0)||decide ((x.orders.length:Int)<=o)||(nth x.orders o.toNat).off
theorem Ql (x:Inst) (o:Int) (hl:x.orders.length<=1048576):PC 72 [.p (ZW x),.p (.int .i64 o)] (.bool (Zcy x o)):=by
 refine Zb Tryz.func72 rfl ZlB ?_;simp (disch:=omega) only [Tryz.f72,go_sem,seval];refine gF ?_ ?_<;>intro h<;>simp (disch:=omega) only [Sh.out h,go_sem,seval]
 ·simp [Zcy,h]
 ·refine gF ?_ ?_<;>intro h2<;>simp (disch:=omega) only [Sh.out h2,go_sem,seval]
  ·simp [Zcy,h2]
  ·simp [Zcy,h,h2]
def itO (x:Inst) (i:Nat):List Itm:=if (nth x.orders i).off=true then [] else
 (if (nth x.orders i).pick.place≠ -1 then [⟨1,i⟩] else [])++(if (nth x.orders i).drp.place≠ -1 then [⟨2,i⟩] else [])++(if (nth x.orders i).skills≠0 then [⟨4,i⟩] else [])++(if (nth x.orders i).penalty= -1 then [⟨10,i⟩] else [])
def Kc (x:Inst) (k:Nat):List Itm:=(List.range k).flatMap (itO x)
theorem Ud (x k):Kc x (k+1)=Kc x k++itO x k:=by simp [Kc,List.range_succ]
theorem Zei (x i):(itO x i).length<=4:=by
 unfold itO
 split
 ·simp
 ·simp only [List.length_append]
  split<;>split<;>split<;>split<;>simp
theorem Wn (x): ∀k,(Kc x k).length<=4*k
 | 0=>by simp [Kc]
 | k+1=>by
  have h1:=Wn x k;have h2:=Zei x k;rw [Ud,List.length_append];omega
def hO (x:Inst) (m:List Itm) (i:Nat):List AM.Obj:= [Ze x,.cells [.sl 2 0 m.length m.length],.elems 2 (m.map Y9),.cells [.p (.int .i64 (i:Nat))]]
theorem VB (x:Inst) (m:List Itm) (i:Nat) (has:Bool) (kind:Int) (hm:m.length<=1048576):ACalls Tryz.prog 92 [.p (.bool has),.p (.int .i64 kind),.ptr 1 0,.ptr 3 0] (hO x m i) fun y H'=>y= .tup []/\H'=hO x (if has=true then m++ [⟨kind,i⟩] else m) i:=by
 refine ZQ [] Tryz.func92 rfl ZlJ ?_
 cases has with
 | true =>
  simp (disch:=omega) only [Tryz.f92,hO,Ze,go_sem,seval];exact ⟨.tup [],hO x (m++ [⟨kind,i⟩]) i,Weak.mk (by simp (disch:=omega) only [hO,Ze,go_sem,seval]),rfl,by simp [hO,Ze,Y9]⟩
 | false =>
  simp (disch:=omega) only [Tryz.f92,hO,Ze,go_sem,seval];exact ⟨.tup [],hO x m i,Weak.mk (by simp (disch:=omega) only [hO,Ze,go_sem,seval]),rfl,by simp [hO,Ze]⟩
theorem Us (x:Inst) (hl:x.orders.length<=1000):ACalls Tryz.prog 71 [.p (ZW x)] [] fun y H'=> ∃m:List Itm,m=Kc x x.orders.length/\y= .sl 0 0 m.length m.length/\H'= [.elems 2 (m.map Y9)]:=by
 refine Zn [2] Tryz.func71 rfl Zk6 ?_;simp (disch:=omega) only [Tryz.f71,go_sem,seval];refine ZD (Weak.nilC (o:=1) (j:=0) 2 rfl rfl (by simp)) ?_;refine Za [] _ _ _ _ ?_;simp (disch:=omega) only [List.set_cons_succ,List.set_cons_zero,List.cons_append,List.nil_append,go_sem,seval];refine Zf [3,8,9] (fun q:Nat×List Itm=> [(10,.p (.int .i64 q.1))]) (fun q=> [Ze x,.cells [.sl 2 0 q.2.length q.2.length],.elems 2 (q.2.map Y9)]) (fun q=>q.1<=x.orders.length/\q.2=Kc x q.1) (fun q=>x.orders.length-q.1) (0,[]) ⟨by simp,by simp [Kc]⟩ (Weak.mk ?_) ?_
 ·simp (disch:=omega) only [Ze,go_sem,seval]
 ·rintro ⟨i,m⟩ ⟨hi,hm⟩;simp only at hi hm
  have hml:m.length<=4*i:=by rw [hm];exact Wn x i
  have hsc:=Ud x i;simp (disch:=omega) only [Ze,go_sem,seval];refine cD ?_ ?_<;>intro h<;>simp (disch:=omega) only [Sh.out h,go_sem,seval]
  ·have hi2:i<x.orders.length:=by omega
   refine cD ?_ ?_<;>intro h2<;>simp (disch:=omega) only [Sh.out h2,go_sem,seval]
   ·exact ⟨(i+1,m),⟨by simp only;omega,by simp only [hsc,itO,h2,if_true,hm,List.append_nil]⟩,by simp only;omega,Weak.mk (by simp (disch:=omega) only [Ze,go_sem,seval])⟩
   ·have c1:=VB x m i (decide ((nth x.orders i).pick.place≠ -1)) 1 (by omega)
    have ifl: ∀ {c:Prop} [Decidable c] (m:List Itm) (v:Itm),(if decide c=true then m++ [v] else m)=m++(if c then [v] else []):=fun {c} _ m v=>by by_cases h:c<;>simp [h]
    have ifn: ∀ {c:Prop} [Decidable c] (v:Itm),(if c then [v] else []).length<=1:=fun {c} _ v=>by split<;>simp
    rw [ifl] at c1;refine c1.useP (L:= [_]) (by rfl) ?_ (by rfl) (by rfl);have n1:=ifn (c:=(nth x.orders i).pick.place≠ -1) ⟨1,i⟩;have n2:=ifn (c:=(nth x.orders i).drp.place≠ -1) ⟨2,i⟩;have n3:=ifn (c:=(nth x.orders i).skills≠0) ⟨4,i⟩;have n4:=ifn (c:=(nth x.orders i).penalty= -1) ⟨10,i⟩
    have hit:itO x i=(if (nth x.orders i).pick.place≠ -1 then [⟨1,i⟩] else [])++(if (nth x.orders i).drp.place≠ -1 then [⟨2,i⟩] else [])++(if (nth x.orders i).skills≠0 then [⟨4,i⟩] else [])++(if (nth x.orders i).penalty= -1 then [⟨10,i⟩] else []):=by rw [itO,if_neg (by rw [h2];simp)]
    generalize hA:(if (nth x.orders i).pick.place≠ -1 then [(⟨1,i⟩:Itm)] else [])=A at hit n1 c1 ⊢;have c2:=VB x (m++A) i (decide ((nth x.orders i).drp.place≠ -1)) 2 (by simp;omega);rw [ifl] at c2;generalize (if (nth x.orders i).drp.place≠ -1 then [(⟨2,i⟩:Itm)] else [])=B at hit n2 c2;have c3:=VB x (m++A++B) i (decide ((nth x.orders i).skills≠0)) 4 (by simp;omega);rw [ifl] at c3;generalize (if (nth x.orders i).skills≠0 then [(⟨4,i⟩:Itm)] else [])=C at hit n3 c3;have c4:=VB x (m++A++B++C) i (decide ((nth x.orders i).penalty= -1)) 10 (by simp;omega)
    rw [ifl] at c4;generalize (if (nth x.orders i).penalty= -1 then [(⟨10,i⟩:Itm)] else [])=D at hit n4 c4;generalize hm1:m++A=m1 at c2 c3 c4 ⊢;generalize hm2:m1++B=m2 at c2 c3 c4 ⊢;generalize hm3:m2++C=m3 at c3 c4 ⊢;generalize hm4:m3++D=m4 at c4;simp (disch:=omega) only [hO,Ze,Xg,go_sem,seval];refine c2.useP (L:= [_]) (by rfl) ?_ (by rfl) (by rfl);simp (disch:=omega) only [hO,Ze,Xg,go_sem,seval];refine c3.useP (L:= [_]) (by rfl) ?_ (by rfl) (by rfl);simp (disch:=omega) only [hO,Ze,Xg,go_sem,seval];refine c4.useP (L:= [_]) (by rfl) ?_ (by rfl) (by rfl)
    simp (disch:=omega) only [hO,Ze,Xg,go_sem,seval];refine ⟨(i+1,m4),⟨by simp only;omega,?_⟩,by simp only;omega,Weak.mk (by simp (disch:=omega) only [hO,Ze,Xg,go_sem,seval])⟩;simp only [hsc,hit,<- hm4,<- hm3,<- hm2,<- hm1,hm,List.append_assoc]
  ·have hin:i=x.orders.length:=by omega
   subst hin;exact ⟨m,hm,2,by simp (disch:=omega) only [Ze,go_sem,seval]⟩
def itT (k:Nat):List Itm:=(List.range k).flatMap fun (i:Nat)=> [⟨3,i⟩,⟨7,i⟩,⟨8,i⟩,⟨9,i⟩]
def Zbh (x:Inst) (i:Nat):List Itm:=if (!Zcy x (nth x.apart i).1&& !Zcy x (nth x.apart i).2)=true then [⟨5,i⟩] else []
def itA (x:Inst) (k:Nat):List Itm:=(List.range k).flatMap (Zbh x)
def Zct (x:Inst) (i:Nat):List Itm:=if (!Zcy x (nth x.before i).2)=true then [⟨6,i⟩] else []
def itB (x:Inst) (k:Nat):List Itm:=(List.range k).flatMap (Zct x)
def Zbo (x:Inst):List Itm:=Kc x x.orders.length++itT x.types.length++itA x x.apart.length++itB x x.before.length
theorem Q0 (k):itT (k+1)=itT k++ [⟨3,k⟩,⟨7,k⟩,⟨8,k⟩,⟨9,k⟩]:=by simp [itT,List.range_succ]
theorem Wk (x k):itA x (k+1)=itA x k++Zbh x k:=by simp [itA,List.range_succ]
theorem V1 (x k):itB x (k+1)=itB x k++Zct x k:=by simp [itB,List.range_succ]
theorem VP : ∀k,(itT k).length=4*k
 | 0=>by simp [itT]
 | k+1=>by rw [Q0,List.length_append,VP k];simp;omega
theorem QF (x): ∀k,(itA x k).length<=k
 | 0=>by simp [itA]
 | k+1=>by
  have h1:=QF x k
  have h2:(Zbh x k).length<=1:=by unfold Zbh;split<;>simp
  rw [Wk,List.length_append];omega
theorem Qx (x): ∀k,(itB x k).length<=k
 | 0=>by simp [itB]
 | k+1=>by
  have h1:=Qx x k
  have h2:(Zct x k).length<=1:=by unfold Zct;split<;>simp
  rw [V1,List.length_append];omega
theorem X0 {a b:Itm} :Zam a b<0↔a.kind<b.kind\/(a.kind=b.kind/\a.a<b.a):=by
 unfold Zam
 split
 ·rename_i h;rw [Uv] at h;rw [Za9];omega
 ·rename_i h;rw [Uv] at h;rw [Za9];omega
theorem Zb6 : Go.Sort.SWO (ltOf Zam) where
 irrefl x:=by simp only [ltOf,decide_eq_false_iff_not,X0];omega
 trans x y z h1 h2:=by simp only [ltOf,decide_eq_true_eq,X0] at *;omega
 ntrans x y z h1 h2:=by simp only [ltOf,decide_eq_false_iff_not,X0] at *;omega
theorem Qk (xs:List Itm) (hne:xs≠ []) (hl:xs.length<=1048576) {H:List AM.Obj} {o:Nat} (hH:H[o]? =some (.elems 2 (xs.map Y9))) :
  ACalls Tryz.prog 73 [.sl o 0 xs.length xs.length,.fn (.func 74) [] []] H fun y H'=>y= .tup []/\ ∃ys:List Itm,ys.Perm xs/\ys.Pairwise (fun a b=> ¬Zam b a<0)/\H'=H.set o (.elems 2 (ys.map Y9)) :=
 ACalls.sortFunc ZaO ZlH 2 Tryz.isAgg79 Tryz.sizeOf79 Y9 (fun x=>⟨_,rfl,rfl,rfl⟩) Zam Zb6 74 QO xs (by omega) hH
theorem KV (x:Inst) (ho:x.orders.length<=1000) (ht:0<x.types.length/\x.types.length<=1000) (ha:x.apart.length<=1000) (hb:x.before.length<=1000):ACalls Tryz.prog 52 [.p (ZW x)] [] fun y H'=> ∃m:List Itm,(m.Perm (Zbo x)/\m.Pairwise (fun a b=> ¬Zam b a<0))/\y= .sl 0 0 m.length m.length/\H'= [.elems 2 (m.map Y9)]:=by
 refine Zn [] Tryz.func52 rfl Zlb ?_;simp (disch:=omega) only [Tryz.f52,go_sem,seval];obtain ⟨os,hos⟩: ∃os,os=Kc x x.orders.length:=⟨_,rfl⟩;have hosl:=Wn x x.orders.length;rw [<- hos] at hosl;refine ACalls.useF (S:=2) (n:=os.length) (xs:=os.map Y9) ((Us x ho).mono fun y H' ⟨m,hm,h1,h2⟩=>by rw [hos,<- hm];exact ⟨h1,h2⟩) ?_;simp (disch:=omega) only [go_sem,seval];obtain ⟨ks,hks⟩: ∃ks:List Int,ks= [3,7,8,9]:=⟨_,rfl⟩
 have hkl:ks.length=4:=by rw [hks];rfl
 have hke:(ks.map eI).length=ks.length:=by simp
 refine Zf [1,15] (fun q:Nat×List Itm=> [(3,.sl 1 0 q.2.length q.2.length),(16,.p (.int .i64 q.1))]) (fun q=> [Ze x,.elems 2 (q.2.map Y9)]) (fun q=>q.1<=x.types.length/\q.2=os++itT q.1) (fun q=>x.types.length-q.1) (0,os) ⟨by simp,by simp [itT]⟩ (Weak.mk ?_) ?_
 ·simp (disch:=omega) only [Ze,go_sem,seval]
 ·rintro ⟨i,m⟩ ⟨hi,hm⟩;simp only at hi hm
  have hml:m.length=os.length+4*i:=by rw [hm,List.length_append,VP]
  simp (disch:=omega) only [Ze,go_sem,seval];refine cD ?_ ?_<;>intro h<;>simp (disch:=omega) only [Sh.out h,go_sem,seval]
  ·have hi2:i<x.types.length:=by omega
   refine Zf [1,4,15,16,20] (fun q:Nat×List Itm=> [(3,.sl 1 0 q.2.length q.2.length),(19,.sl 2 0 ks.length ks.length),(21,.p (.int .i64 q.1))]) (fun q=> [Ze x,.elems 2 (q.2.map Y9),.elems 1 (ks.map eI)]) (fun q=>q.1<=4/\q.2=m++(ks.take q.1).map fun c=>(⟨c,i⟩:Itm)) (fun q=>4-q.1) (0,m) ⟨by simp,by simp⟩ (Weak.mk ?_) ?_
   ·rw [hks];simp (disch:=omega) only [Ze,List.map_cons,List.map_nil,List.length_cons,List.length_nil,go_sem,seval]
   ·rintro ⟨k,m2⟩ ⟨hk,hm2⟩;simp only at hk hm2
    have hm2l:m2.length=m.length+k:=by rw [hm2];simp;omega
    simp (disch:=omega) only [Ze,go_sem,seval];refine cD ?_ ?_<;>intro h2<;>simp (disch:=omega) only [Sh.out h2,XX,go_sem,seval]
    ·have hk2:k<ks.length:=by omega
     have htk:ks.take (k+1)=ks.take k++ [nth ks k]:=by rw [List.take_succ_eq_append_getElem hk2,Zh hk2]
     simp (disch:=omega) only [hk2,go_sem,seval];exact ⟨(k+1,m2++ [⟨nth ks k,i⟩]),⟨by simp only;omega,by simp only [htk,hm2,List.map_append,List.append_assoc];rfl⟩,by simp only;omega,Weak.mk (by simp (disch:=omega) only [Ze,go_sem,seval])⟩
    ·have hk4:k=4:=by omega
     subst hk4;refine ⟨(i+1,m2),⟨by simp only;omega,?_⟩,by simp only;omega,Weak.mk (by simp (disch:=omega) only [Ze,go_sem,seval])⟩;simp only [Q0,hm2,hm,List.append_assoc];rw [hks];rfl
  ·have hin:i=x.types.length:=by omega
   subst hin;clear hi h;refine Zf [1,34,35] (fun q:Nat×List Itm=> [(3,.sl 1 0 q.2.length q.2.length),(36,.p (.int .i64 q.1))]) (fun q=> [Ze x,.elems 2 (q.2.map Y9)]) (fun q=>q.1<=x.apart.length/\q.2=m++itA x q.1) (fun q=>x.apart.length-q.1) (0,m) ⟨by simp,by simp [itA]⟩ (Weak.mk ?_) ?_
   ·simp (disch:=omega) only [Ze,go_sem,seval]
   ·rintro ⟨i,m2⟩ ⟨hi,hm2⟩;simp only at hi hm2
    have hm2l:m2.length<=m.length+i:=by have:=QF x i;rw [hm2,List.length_append];omega
    simp (disch:=omega) only [Ze,go_sem,seval];refine cD ?_ ?_<;>intro h<;>simp (disch:=omega) only [Sh.out h,go_sem,seval]
    ·have hi2:i<x.apart.length:=by omega
     refine (Ql x (nth x.apart i).1 (by omega)).use ?_;simp (disch:=omega) only [go_sem,seval];refine gT ?_ ?_<;>intro h2<;>simp (disch:=omega) only [Sh.out h2,go_sem,seval]
     ·refine (Ql x (nth x.apart i).2 (by omega)).use ?_;simp (disch:=omega) only [go_sem,seval];refine cD ?_ ?_<;>intro h3<;>simp (disch:=omega) only [Sh.out h3,go_sem,seval]
      ·exact ⟨(i+1,m2++ [⟨5,i⟩]),⟨by simp only;omega,by simp only [Wk,Zbh,h2,h3,Bool.and_self,if_true,hm2,List.append_assoc]⟩,by simp only;omega,Weak.mk (by simp (disch:=omega) only [Ze,go_sem,seval])⟩
      ·exact ⟨(i+1,m2),⟨by simp only;omega,by simp [Wk,Zbh,h2,h3,hm2]⟩,by simp only;omega,Weak.mk (by simp (disch:=omega) only [Ze,go_sem,seval])⟩
     ·exact ⟨(i+1,m2),⟨by simp only;omega,by simp [Wk,Zbh,h2,hm2]⟩,by simp only;omega,Weak.mk (by simp (disch:=omega) only [Ze,go_sem,seval])⟩
    ·have hin:i=x.apart.length:=by omega
     subst hin;clear hi h;refine Zf [1,60,61] (fun q:Nat×List Itm=> [(3,.sl 1 0 q.2.length q.2.length),(62,.p (.int .i64 q.1))]) (fun q=> [Ze x,.elems 2 (q.2.map Y9)]) (fun q=>q.1<=x.before.length/\q.2=m2++itB x q.1) (fun q=>x.before.length-q.1) (0,m2) ⟨by simp,by simp [itB]⟩ (Weak.mk ?_) ?_
     ·simp (disch:=omega) only [Ze,go_sem,seval]
     ·rintro ⟨i,m3⟩ ⟨hi,hm3⟩;simp only at hi hm3
      have hm3l:m3.length<=m2.length+i:=by have:=Qx x i;rw [hm3,List.length_append];omega
      simp (disch:=omega) only [Ze,go_sem,seval];refine cD ?_ ?_<;>intro h<;>simp (disch:=omega) only [Sh.out h,go_sem,seval]
      ·have hi2:i<x.before.length:=by omega
       refine (Ql x (nth x.before i).2 (by omega)).use ?_;simp (disch:=omega) only [go_sem,seval];refine cD ?_ ?_<;>intro h2<;>simp (disch:=omega) only [Sh.out h2,go_sem,seval]
       ·exact ⟨(i+1,m3++ [⟨6,i⟩]),⟨by simp only;omega,by simp only [V1,Zct,h2,if_true,hm3,List.append_assoc]⟩,by simp only;omega,Weak.mk (by simp (disch:=omega) only [Ze,go_sem,seval])⟩
       ·exact ⟨(i+1,m3),⟨by simp only;omega,by simp [V1,Zct,h2,hm3]⟩,by simp only;omega,Weak.mk (by simp (disch:=omega) only [Ze,go_sem,seval])⟩
      ·have hin:i=x.before.length:=by omega
       subst hin
       have hpre:m3=Zbo x:=by rw [hm3,hm2,hm,hos];rfl
       have hne:m3≠ []:=fun e=>by have:=congrArg List.length hpre;rw [e] at this;simp [Zbo,VP] at this;omega
       refine (Qk m3 hne (by omega) (H:=_) (o:=1) rfl).mono ?_;rintro y H' ⟨rfl,ys,h1,h2,rfl⟩;have hyl:ys.length=m3.length:=h1.length_eq;simp (disch:=omega) only [List.set_cons_succ,List.set_cons_zero,go_sem,seval];rw [<- hyl];exact ⟨ys,⟨by rw [<- hpre];exact h1,h2⟩,1,by simp (disch:=omega) only [go_sem,seval]⟩
def Q5 (x:Inst) (i:Int):Bool:=decide (0<=i)&&decide (i<(x.orders.length:Int))&& !(nth x.orders i.toNat).off
theorem Q7 {x o} :Zcy x o= !Q5 x o:=by
 unfold Zcy Q5
 by_cases h1:o<0
 ·have: ¬ 0<=o:=by omega
  simp [h1,this]
 ·by_cases h2:(x.orders.length:Int)<=o
  ·have: ¬o<(x.orders.length:Int):=by omega
   simp [h2,this]
  ·have h3:0<=o:=by omega
   have h4:o<(x.orders.length:Int):=by omega
   simp [h1,h2,h3,h4]
def Zkv (o:Ord) (kind:Int):Bool:=if kind=1 then decide (0<=o.pick.place) else if kind=2 then decide (0<=o.drp.place) else if kind=4 then decide (o.skills≠0) else decide (o.penalty= -1)
def JZ (x:Inst) (v:Itm):Bool :=
 if v.kind=1\/v.kind=2\/v.kind=4\/v.kind=10 then Q5 x v.a&&Zkv (nth x.orders v.a.toNat) v.kind
 else if v.kind=3\/v.kind=7\/v.kind=8\/v.kind=9 then decide (0<=v.a)&&decide (v.a<(x.types.length:Int))
 else if v.kind=5 then decide (0<=v.a)&&decide (v.a<(x.apart.length:Int))&&Q5 x (nth x.apart v.a.toNat).1&&Q5 x (nth x.apart v.a.toNat).2
 else if v.kind=6 then decide (0<=v.a)&&decide (v.a<(x.before.length:Int))&&Q5 x (nth x.before v.a.toNat).2
 else false
theorem Zab {x i} {v:Itm} :v∈itO x i↔(nth x.orders i).off=false/\v.a=(i:Int)/\((v.kind=1/\(nth x.orders i).pick.place≠ -1)\/(v.kind=2/\(nth x.orders i).drp.place≠ -1)\/(v.kind=4/\(nth x.orders i).skills≠0)\/(v.kind=10/\(nth x.orders i).penalty= -1)):=by
 have one: ∀(c:Prop) [Decidable c] (w:Itm),v∈(if c then [w] else [])↔c/\v.kind=w.kind/\v.a=w.a:=fun c _ w=>by
  split<;>simp_all [Yo]
 unfold itO
 split
 ·rename_i h;simp [h]
 ·rename_i h;simp only [List.mem_append,one]
  have h2:(nth x.orders i).off=false:=by simpa using h
  simp only [h2,true_and]
  constructor
  ·rintro (((⟨h1,h2,h3⟩ | ⟨h1,h2,h3⟩) | ⟨h1,h2,h3⟩) | ⟨h1,h2,h3⟩)
   ·exact ⟨h3,.inl ⟨h2,h1⟩⟩
   ·exact ⟨h3,.inr (.inl ⟨h2,h1⟩)⟩
   ·exact ⟨h3,.inr (.inr (.inl ⟨h2,h1⟩))⟩
   ·exact ⟨h3,.inr (.inr (.inr ⟨h2,h1⟩))⟩
  ·rintro ⟨h3,(⟨h2,h1⟩ | ⟨h2,h1⟩ | ⟨h2,h1⟩ | ⟨h2,h1⟩)⟩
   ·exact .inl (.inl (.inl ⟨h1,h2,h3⟩))
   ·exact .inl (.inl (.inr ⟨h1,h2,h3⟩))
   ·exact .inl (.inr ⟨h1,h2,h3⟩)
   ·exact .inr ⟨h1,h2,h3⟩
theorem V0 {n} {v:Itm} :v∈itT n↔(v.kind=3\/v.kind=7\/v.kind=8\/v.kind=9)/\0<=v.a/\v.a<(n:Int):=by
 simp only [itT,List.mem_flatMap,List.mem_range,List.mem_cons,List.not_mem_nil,or_false,Yo]
 constructor
 ·rintro ⟨i,hi,h⟩;rcases h with ⟨h1,h2⟩ | ⟨h1,h2⟩ | ⟨h1,h2⟩ | ⟨h1,h2⟩<;>refine ⟨by simp [h1],by omega,by omega⟩
 ·rintro ⟨h,h1,h2⟩;refine ⟨v.a.toNat,by omega,?_⟩
  have:v.a=(v.a.toNat:Int):=by omega
  rcases h with h | h | h | h<;>simp [h,<- this]
theorem Qr {x n} {v:Itm} :v∈itA x n↔v.kind=5/\0<=v.a/\v.a<(n:Int)/\Q5 x (nth x.apart v.a.toNat).1=true/\Q5 x (nth x.apart v.a.toNat).2=true:=by
 simp only [itA,List.mem_flatMap,List.mem_range,Zbh,Q7,Bool.not_not,Bool.and_eq_true]
 constructor
 ·rintro ⟨i,hi,h⟩
  split at h
  ·rename_i h3;simp only [List.mem_cons,List.not_mem_nil,or_false,Yo] at h
   have e:v.a.toNat=i:=by omega
   rw [e];exact ⟨h.1,by omega,by omega,h3⟩
  ·simp at h
 ·rintro ⟨h,h1,h2,h3⟩;refine ⟨v.a.toNat,by omega,?_⟩;rw [if_pos h3];simp only [List.mem_cons,List.not_mem_nil,or_false,Yo];exact ⟨h,by omega⟩
theorem Ky {x n} {v:Itm} :v∈itB x n↔v.kind=6/\0<=v.a/\v.a<(n:Int)/\Q5 x (nth x.before v.a.toNat).2=true:=by
 simp only [itB,List.mem_flatMap,List.mem_range,Zct,Q7,Bool.not_not]
 constructor
 ·rintro ⟨i,hi,h⟩
  split at h
  ·rename_i h3;simp only [List.mem_cons,List.not_mem_nil,or_false,Yo] at h
   have e:v.a.toNat=i:=by omega
   rw [e];exact ⟨h.1,by omega,by omega,h3⟩
  ·simp at h
 ·rintro ⟨h,h1,h2,h3⟩;refine ⟨v.a.toNat,by omega,?_⟩;rw [if_pos h3];simp only [List.mem_cons,List.not_mem_nil,or_false,Yo];exact ⟨h,by omega⟩
theorem Wt {x:Inst} (hp:Plc x) {v:Itm} :v∈Kc x x.orders.length↔(v.kind=1\/v.kind=2\/v.kind=4\/v.kind=10)/\Q5 x v.a=true/\Zkv (nth x.orders v.a.toNat) v.kind=true:=by
 simp only [Kc,List.mem_flatMap,List.mem_range,Zab]
 constructor
 ·rintro ⟨i,hi,h0,ha,h⟩
  have e:v.a.toNat=i:=by omega
  have hpl:=hp _ (Zu hi);rw [e];refine ⟨?_,by simp only [Q5,e,h0,Bool.not_false,Bool.and_true,Bool.and_eq_true,decide_eq_true_eq];omega,?_⟩
  ·rcases h with h | h | h | h<;>simp [h.1]
  ·rcases h with h | h | h | h<;>simp only [Zkv,h.1]<;>simp [h.2]<;>omega
 ·rintro ⟨hk,ha,ho⟩;simp only [Q5,Bool.and_eq_true,decide_eq_true_eq,Bool.not_eq_true'] at ha;refine ⟨v.a.toNat,by omega,ha.2,by omega,?_⟩;rcases hk with h | h | h | h<;>simp only [Zkv,h] at ho<;>simp at ho<;>simp [h]<;>first | exact ho | omega
theorem Jl {x:Inst} (hp:Plc x) {v:Itm} :v∈Zbo x↔JZ x v=true:=by
 simp only [Zbo,List.mem_append,Wt hp,V0,Qr,Ky,JZ]
 by_cases h1:v.kind=1\/v.kind=2\/v.kind=4\/v.kind=10
 ·rw [if_pos h1]
  have h2: ¬(v.kind=3\/v.kind=7\/v.kind=8\/v.kind=9):=by omega
  have h3: ¬v.kind=5:=by omega
  have h4: ¬v.kind=6:=by omega
  simp [h1,h2,h3,h4]
 ·rw [if_neg h1]
  by_cases h2:v.kind=3\/v.kind=7\/v.kind=8\/v.kind=9
  ·rw [if_pos h2]
   have h3: ¬v.kind=5:=by omega
   have h4: ¬v.kind=6:=by omega
   simp [h1,h2,h3,h4]
  ·rw [if_neg h2]
   by_cases h3:v.kind=5
   ·rw [if_pos h3];simp [h1,h2,h3,and_assoc]
   ·rw [if_neg h3]
    by_cases h4:v.kind=6
    ·rw [if_pos h4];simp [h1,h2,h3,h4,and_assoc]
    ·simp [h1,h2,h3,h4]
theorem ZaC (x i):(itO x i).Nodup:=by
 unfold itO
 split
 ·simp
 ·split<;>split<;>split<;>split<;>simp
theorem X7 {f:Nat->List Itm} {n:Nat} (h: ∀i,(f i).Nodup) (ha: ∀i,∀v∈f i,v.a=(i:Int)):((List.range n).flatMap f).Nodup:=by
 rw [List.Nodup,List.pairwise_flatMap];refine ⟨fun i _=>h i,List.Pairwise.imp ?_ (List.nodup_range (n:=n))⟩;intro i j hij v hv w hw e;have h1:=ha i v hv;have h2:=ha j w hw;rw [e] at h1;omega
theorem Ve {x:Inst} (hp:Plc x):(Zbo x).Nodup:=by
 have n1:(Kc x x.orders.length).Nodup:=X7 (ZaC x) fun i v hv=>(Zab.1 hv).2.1
 have n2:(itT x.types.length).Nodup:=X7 (fun i=>by simp) fun i v hv=>by
  simp only [List.mem_cons,List.not_mem_nil,or_false] at hv;rcases hv with rfl | rfl | rfl | rfl<;>rfl
 have n3:(itA x x.apart.length).Nodup:=X7 (fun i=>by unfold Zbh;split<;>simp) fun i v hv=>by
  unfold Zbh at hv;split at hv
  ·simp at hv;rw [hv]
  ·simp at hv
 have n4:(itB x x.before.length).Nodup:=X7 (fun i=>by unfold Zct;split<;>simp) fun i v hv=>by
  unfold Zct at hv;split at hv
  ·simp at hv;rw [hv]
  ·simp at hv
 rw [Zbo,List.nodup_append,List.nodup_append,List.nodup_append];refine ⟨⟨⟨n1,n2,fun v hv w hw e=> ?_⟩,n3,fun v hv w hw e=> ?_⟩,n4,fun v hv w hw e=> ?_⟩
 ·subst e;have h1:=(Wt hp).1 hv;have h2:=V0.1 hw;omega
 ·subst e;have h2:=Qr.1 hw;rcases List.mem_append.1 hv with hv | hv
  ·have h1:=(Wt hp).1 hv;omega
  ·have h1:=V0.1 hv;omega
 ·subst e;have h2:=Ky.1 hw;rcases List.mem_append.1 hv with hv | hv
  ·rcases List.mem_append.1 hv with hv | hv
   ·have h1:=(Wt hp).1 hv;omega
   ·have h1:=V0.1 hv;omega
  ·have h1:=Qr.1 hv;omega
def Zjb (x:Inst) (k:Nat) (a:Nat):List Itm:=if JZ x ⟨k+1,a⟩=true then [⟨k+1,a⟩] else []
def Zkk (x:Inst) (k n:Nat):List Itm:=(List.range n).flatMap (Zjb x k)
def Zdt (x:Inst):Nat:=max (max (max x.orders.length x.types.length) x.apart.length) x.before.length
def ZaY (x:Inst) (n:Nat):List Itm:=(List.range n).flatMap fun k=>Zkk x k (Zdt x)
theorem Wr {x k a} {v:Itm} :v∈Zjb x k a↔JZ x v=true/\v.kind=(k:Int)+1/\v.a=(a:Int):=by
 unfold Zjb
 constructor
 ·intro h
  split at h
  ·simp at h;subst h;rename_i h2;exact ⟨h2,rfl,rfl⟩
  ·simp at h
 ·rintro ⟨h1,h2,h3⟩;have:v=⟨(k:Int)+1,a⟩:=Yo.2 ⟨h2,h3⟩;subst this;rw [if_pos h1];simp
theorem VG {x:Inst} {v:Itm} :v∈ZaY x 10↔JZ x v=true:=by
 simp only [ZaY,Zkk,List.mem_flatMap,List.mem_range,Wr]
 constructor
 ·rintro ⟨k,_,a,_,h,_⟩;exact h
 ·intro h
  have hk:1<=v.kind/\v.kind<=10/\0<=v.a/\v.a<(Zdt x:Int):=by
   unfold JZ at h;unfold Zdt
   split at h
   ·simp only [Q5,Bool.and_eq_true,decide_eq_true_eq] at h;omega
   ·split at h
    ·simp only [Bool.and_eq_true,decide_eq_true_eq] at h;omega
    ·split at h
     ·simp only [Bool.and_eq_true,decide_eq_true_eq] at h;omega
     ·split at h
      ·simp only [Bool.and_eq_true,decide_eq_true_eq] at h;omega
      ·simp at h
  exact ⟨(v.kind-1).toNat,by omega,v.a.toNat,by omega,h,by omega,by omega⟩
theorem WP (x:Inst) (n:Nat):(ZaY x n).Pairwise fun a b=>Zam a b<0:=by
 rw [ZaY,List.pairwise_flatMap];refine ⟨fun k _=> ?_,List.Pairwise.imp ?_ (List.pairwise_lt_range (n:=n))⟩
 ·rw [Zkk,List.pairwise_flatMap];refine ⟨fun a _=>by unfold Zjb;split<;>simp,List.Pairwise.imp ?_ (List.pairwise_lt_range (n:=_))⟩;intro i j hij v hv w hw;have h1:=Wr.1 hv;have h2:=Wr.1 hw;rw [X0];omega
 ·intro i j hij v hv w hw;simp only [Zkk,List.mem_flatMap,Wr] at hv hw;obtain ⟨_,_,h1⟩:=hv;obtain ⟨_,_,h2⟩:=hw;rw [X0];omega
theorem W8 {α:Type} {R:α->α->Prop} (asym: ∀a b,R a b-> ¬R b a): ∀ {l m:List α},l.Pairwise R->m.Pairwise R->(∀v,v∈l↔v∈m)->l=m
 | [],[],_,_,_=>rfl
 | [],b::m,_,_,h=>absurd ((h b).2 (by simp)) (by simp)
 | a::l,[],_,_,h=>absurd ((h a).1 (by simp)) (by simp)
 | a::l,b::m,hl,hm,h=>by
  rw [List.pairwise_cons] at hl hm
  have e:a=b:=by
   rcases List.mem_cons.1 ((h a).1 (by simp)) with e | e
   ·exact e
   ·rcases List.mem_cons.1 ((h b).2 (by simp)) with e2 | e2
    ·exact e2.symm
    ·exact absurd (hl.1 b e2) (asym _ _ (hm.1 a e))
  subst e;have irr: ¬R a a:=fun h=>asym a a h h;rw [W8 asym hl.2 hm.2 fun v=>⟨fun hv=> ?_,fun hv=> ?_⟩]
  ·rcases List.mem_cons.1 ((h v).1 (by simp [hv])) with e | e
   ·subst e;exact absurd (hl.1 _ hv) irr
   ·exact e
  ·rcases List.mem_cons.1 ((h v).2 (by simp [hv])) with e | e
   ·subst e;exact absurd (hm.1 _ hv) irr
   ·exact e
theorem ZbP {x:Inst} (hp:Plc x) {m:List Itm} (h1:m.Perm (Zbo x)) (h2:m.Pairwise fun a b=> ¬Zam b a<0):m=ZaY x 10:=by
 refine W8 (R:=fun a b=>Zam a b<0) (fun a b h k=> ?_) ?_ (WP x 10) fun v=> ?_
 ·rw [X0] at h k;omega
 ·have h3:m.Nodup:=h1.nodup_iff.2 (Ve hp);have h4:=List.Pairwise.and h2 h3;refine h4.imp ?_;rintro a b ⟨h5,h6⟩;rw [X0] at h5 ⊢;have: ¬(a.kind=b.kind/\a.a=b.a):=fun h=>h6 (Yo.2 h);omega
 ·rw [h1.mem_iff,Jl hp,VG]
theorem ZdS (x:Inst) (hp:Plc x) (ho:x.orders.length<=1000) (ht:0<x.types.length/\x.types.length<=1000) (ha:x.apart.length<=1000) (hb:x.before.length<=1000):PC 52 [.p (ZW x)] (.list false ((ZaY x 10).map Y9)):=by
 refine ACalls.frozen (S:=2) (n:=(ZaY x 10).length) (by simp) ?_;refine (KV x ho ht ha hb).mono ?_;rintro y H' ⟨m,⟨h1,h2⟩,h3,h4⟩;rw [ZbP hp h1 h2] at h3 h4;exact ⟨h3,h4⟩
def tIx (l:List Itm) (v:Itm):Int:=match l.findIdx? (fun w=>decide (v=w)) with | some i=>(i:Int) | none=> -1
theorem Zg2 {l:List Itm} {v:Itm} {k:Nat} (hk:k<l.length) (h:v=nth l k) (hno: ∀j,j<k-> ¬v=nth l j):tIx l v=(k:Int):=by
 have:l.findIdx? (fun w=>decide (v=w))=some k:=by
  rw [List.findIdx?_eq_some_iff_getElem];refine ⟨hk,by rw [<- Zh hk];simpa using h,fun j hj=> ?_⟩;have h2:=hno j hj;rw [Zh (by omega)] at h2;simpa using h2
 simp [tIx,this]
theorem Zf6 {l:List Itm} {v:Itm} (hno: ∀j,j<l.length-> ¬v=nth l j):tIx l v= -1:=by
 have:l.findIdx? (fun w=>decide (v=w))=none:=by
  rw [List.findIdx?_eq_none_iff];intro x hx;obtain ⟨j,hj,rfl⟩:=List.mem_iff_getElem.1 hx;have:=hno j hj;rw [Zh hj] at this;simpa using this
 simp [tIx,this]
theorem ZdK {l:List Itm} {v:Itm} :0<=tIx l v↔v∈l:=by
 unfold tIx
 cases h:l.findIdx? (fun w=>decide (v=w)) with
 | none =>
  rw [List.findIdx?_eq_none_iff] at h
  have:v ∉ l:=fun hm=>by simpa using h v hm
  simp [this]
 | some i =>
  rw [List.findIdx?_eq_some_iff_getElem] at h;obtain ⟨h1,h2,_⟩:=h
  have h3:v=l[i]:=by simpa using h2
  have:v∈l:=by rw [h3];exact List.getElem_mem _
  simp [this]
theorem Ku (l:List Itm) (c:Bool) (v:Itm) (hl:l.length<=1048576):PC 70 [.p (.list c (l.map Y9)),.p (Y9 v)] (.int .i64 (tIx l v)):=by
 refine Zb Tryz.func70 rfl ZkS ?_;simp (disch:=omega) only [Tryz.f70,go_sem,seval];refine Zf [0,3,7] (fun k:Nat=> [(8,.p (.int .i64 k))]) (fun _=> [.cells [.p (.int .i64 v.kind),.p (.int .i64 v.a)]]) (fun k=>k<=l.length/\ ∀j,j<k-> ¬v=nth l j) (fun k=>l.length-k) 0 (by simp) (Weak.mk ?_) ?_
 ·simp (disch:=omega) only [go_sem,seval]
 ·rintro k ⟨hk,hno⟩;simp (disch:=omega) only [go_sem,seval];refine cD ?_ ?_<;>intro h<;>simp (disch:=omega) only [Sh.out h,go_sem,seval]
  ·have hk2:k<l.length:=by omega
   refine Zq mixed (by kernel_rfl) (by kernel_rfl) ?_;simp (disch:=omega) only [go_sem,seval];refine cD ?_ ?_<;>intro h2<;>simp (disch:=omega) only [Sh.out h2,go_sem,seval]
   ·have:v=nth l k:=by rw [Yo];simpa using h2
    rw [Zg2 hk2 this hno]
   ·have: ¬v=nth l k:=by rw [Yo];simpa using h2
    exact ⟨k+1,⟨by omega,Zk.2 ⟨hno,this⟩⟩,by omega,wk⟩
  ·have hkl:k=l.length:=by omega
   subst hkl;rw [Zf6 hno]
theorem U2 (l:List Itm) (c:Bool) (v:Itm) (hl:l.length<=1048576):PC 51 [.p (.list c (l.map Y9)),.p (Y9 v)] (.bool (decide (v∈l))):=by
 refine Zb Tryz.func51 rfl ZlF ?_;simp (disch:=omega) only [Tryz.f51,go_sem,seval];refine (Ku l c v hl).use ?_;simp (disch:=omega) only [go_sem,seval];simp only [ZdK]
theorem Zay {α:Type} : ∀ {cs:List α} {j:Nat},spl cs j []=cs
 | [],_=>rfl
 | _::_,0=>rfl
 | _::_,_+1=>by simp [spl,Zay]
structure ISz (x:Inst):Prop where
 plc:Plc x
 ord:x.orders.length<=1000
 typ0:0<x.types.length
 typ:x.types.length<=1000
 ap:x.apart.length<=1000
 be:x.before.length<=1000
theorem ZbN {x:Inst} (h:ISz x):(ZaY x 10).length<=1048576:=by
 have e:(ZaY x 10).Perm (Zbo x):=by
  refine (List.perm_ext_iff_of_nodup ?_ (Ve h.plc)).2 fun v=>by rw [VG,Jl h.plc]
  exact (WP x 10).imp fun {a b} hh e=>by subst e;rw [X0] at hh;omega
 rw [e.length_eq];have h1:=Wn x x.orders.length;have h2:=VP (k:=x.types.length);have h3:=QF x x.apart.length;have h4:=Qx x x.before.length;have:=h.ord;have:=h.typ;have:=h.ap;have:=h.be;simp only [Zbo,List.length_append];omega
theorem Zf8 (x:Inst) (h:ISz x):PC 52 [.p (ZW x)] (.list false ((ZaY x 10).map Y9)):=ZdS x h.plc h.ord ⟨h.typ0,h.typ⟩ h.ap h.be
theorem Zdy (x:Inst) (h:ISz x) (v:Itm):PC 32 [.p (ZW x),.p (Y9 v)] (.bool (JZ x v)):=by
 refine Zb Tryz.func32 rfl ZlZ ?_;simp (disch:=omega) only [Tryz.f32,go_sem,seval];refine Zq mixed (by kernel_rfl) (by kernel_rfl) ?_;simp (disch:=omega) only [go_sem,seval];refine ZM (Zf8 x h) ?_;simp (disch:=omega) only [go_sem,seval];refine ZM (U2 (ZaY x 10) false v (ZbN h)) ?_;simp (disch:=omega) only [go_sem,seval];simp [VG]
def zeroI : Inst:=⟨⟨true,[],true,[]⟩,true,[],true,[],true,[],true,[]⟩
def Wb {α:Type} (f:Nat->α) (n:Nat):List α:=(List.range n).map f
section
variable {α : Type} {f g : Nat -> α} {n j : Nat}
theorem Xv : (Wb f n).length=n:=by simp [Wb]
theorem YM [Inhabited α] (h:j<n):nth (Wb f n) j=f j:=by rw [Zh (by rw [Xv];exact h)];simp [Wb]
theorem Yq (h: ∀i,i<n->f i=g i):Wb f n=Wb g n:=List.map_congr_left fun i hi=>h i (List.mem_range.1 hi)
theorem QU {v:α} :(Wb f n).set j v=Wb (fun i=>if i=j then v else f i) n:=by
 refine List.ext_getElem (by simp [Wb]) fun i h1 h2=> ?_;rw [List.getElem_set];simp only [Wb,List.getElem_map,List.getElem_range]
 by_cases c:j=i
 ·subst c;simp
 ·rw [if_neg c,if_neg (fun e=>c e.symm)]
theorem Zba : Wb f (n+1)=Wb f n++ [f n]:=by simp [Wb,List.range_succ]
theorem ZaK [Inhabited α] {l:List α} :Wb (nth l) l.length=l:=by
 refine List.ext_getElem Xv fun i h1 h2=> ?_;rw [<- Zh h1,YM h2,Zh h2]
end
def QJ (l:List Ord) (s:List UInt8):Int:=match l.findIdx? (fun o=>decide (o.name=s)) with | some i=>(i:Int) | none=> -1
theorem KP {l:List Ord} {s:List UInt8} {k:Nat} (hk:k<l.length) (h:(nth l k).name=s) (hno: ∀j,j<k->(nth l j).name≠s):QJ l s=(k:Int):=by
 have:l.findIdx? (fun o=>decide (o.name=s))=some k:=by
  rw [List.findIdx?_eq_some_iff_getElem];refine ⟨hk,by rw [<- Zh hk];exact decide_eq_true h,fun j hj=> ?_⟩;have h2:=hno j hj;rw [Zh (by omega)] at h2;simpa using h2
 simp [QJ,this]
theorem KM {l:List Ord} {s:List UInt8} (hno: ∀j,j<l.length->(nth l j).name≠s):QJ l s= -1:=by
 have:l.findIdx? (fun o=>decide (o.name=s))=none:=by
  rw [List.findIdx?_eq_none_iff];intro x hx;obtain ⟨j,hj,rfl⟩:=List.mem_iff_getElem.1 hx;rw [<- Zh hj];exact decide_eq_false (hno j hj)
 simp [QJ,this]
theorem VS {l:List Ord} {s:List UInt8} : -1<=QJ l s/\QJ l s<(l.length:Int):=by
 unfold QJ
 cases h:l.findIdx? (fun o=>decide (o.name=s)) with
 | none=>simp;omega
 | some i =>
  rw [List.findIdx?_eq_some_iff_getElem] at h;obtain ⟨h1,_⟩:=h;simp only;omega
def frO (x:Inst) (j:Nat):Ord:= { nth x.orders j with now:= -1 }
def W4 (x b:Inst) (p:Pln) (j:Nat):Ord :=
 if 0<=QJ b.orders (nth x.orders j).name/\0<=nth (Kd b p) (QJ b.orders (nth x.orders j).name).toNat then { frO x j with last:=nth (Kd b p) (QJ b.orders (nth x.orders j).name).toNat } else frO x j
def crI (x b:Inst) (p:Pln):Inst:= { x with orders_c:=false,orders:=Wb (W4 x b p) x.orders.length }
def crE (x b:Inst) (p:Pln):Int:=if x.types.length=b.types.length then Y3 b p else 2
def crT (x b:Inst) (p:Pln):V:= .tup [.p (ZW (if crE x b p=0 then crI x b p else zeroI)),.p (.int .i64 (crE x b p))]
theorem Zch {x:Inst} {p:Pln} (h:Y3 x p=0) {j:Nat} (hj:j<x.orders.length): -1<=nth (Kd x p) j/\nth (Kd x p) j<(x.types.length:Int):=by
 obtain ⟨h1,_⟩:=UB h;rw [Kd,VE hj,Vo];have hr:=XY (rs:=p.routes) (o:=j) p.routes.length
 split
 ·have:=(X6 (h1 _ (Zu (show (ZA p.routes p.routes.length j).toNat<p.routes.length by omega)))).1;omega
 ·omega
theorem QM {x b:Inst} {p:Pln} {j:Nat} : ∃v:Int,W4 x b p j= { nth x.orders j with now:= -1,last:=v } /\((v=(nth x.orders j).last)\/(Y3 b p=0->0<=v/\v<(b.types.length:Int))):=by
 rw [W4]
 split
 ·rename_i h;refine ⟨_,rfl,.inr fun h0=> ?_⟩;have:=Zch h0 (j:=(QJ b.orders (nth x.orders j).name).toNat) (by have:=(VS (l:=b.orders) (s:=(nth x.orders j).name)).2;omega);omega
 ·exact ⟨_,rfl,.inl rfl⟩
theorem ZgZ {x b:Inst} {p:Pln} (hx:InstOk x) (h:crE x b p=0):InstOk (crI x b p):=by
 rw [crE] at h
 split at h
 rotate_left
 ·omega
 rename_i ht;have hlen:(crI x b p).orders.length=x.orders.length:=Xv;have hn: ∀i,i<x.orders.length->nth (crI x b p).orders i=W4 x b p i:=fun i hi=>YM hi;refine ⟨hx.net,hx.types,⟨by rw [hlen];exact hx.orders.1,fun i hi=> ?_⟩,by rw [hlen];exact hx.rules⟩;rw [hlen] at hi;have ho:=hx.orders.2 i hi;obtain ⟨v,e,hv⟩:=QM (x:=x) (b:=b) (p:=p) (j:=i)
 constructor
 ·rw [hn i hi,e];exact ho.name
 ·intro j hj;obtain ⟨v2,e2,_⟩:=QM (x:=x) (b:=b) (p:=p) (j:=j);rw [hn i hi,hn j (by omega),e,e2];exact ho.twin j hj
 ·rw [hn i hi,e];exact ho.load
 ·rw [hn i hi,e];exact ho.pick
 ·rw [hn i hi,e];exact ho.drp
 ·rw [hn i hi,e];exact ho.one
 ·rw [hn i hi,e];exact ho.pstp
 ·rw [hn i hi,e];exact ho.dstp
 ·rw [hn i hi,e];exact ho.skills
 ·rw [hn i hi,e];have ha:=ho.arg
  show argOk _ (x.types.length:Int)=true
  simp only [argOk,Bool.and_eq_true,decide_eq_true_eq] at ha ⊢;obtain ⟨⟨a1,a2⟩,a3,a4,a5,a6,a7⟩:=ha;refine ⟨⟨a1,a2⟩,a3,?_⟩;rcases hv with hv | hv
  ·show-1<=v/\v<(x.types.length:Int)/\ -1<=(-1:Int)/\ -1<(x.types.length:Int)
   omega
  ·have:=hv h
   show-1<=v/\v<(x.types.length:Int)/\ -1<=(-1:Int)/\ -1<(x.types.length:Int)
   omega
set_option maxRecDepth 60000
theorem ZeB (x:Inst) (s:List UInt8) (ho:x.orders.length<=1048576):PC 18 [.p (ZW x),.p (.str s)] (.int .i64 (QJ x.orders s)):=by
 refine Zb Tryz.func18 rfl ZmI ?_;simp (disch:=omega) only [Tryz.f18,go_sem,seval];refine Zf [1,8,9] (fun k:Nat=> [(10,.p (.int .i64 k))]) (fun _=> [Ze x]) (fun k=>k<=x.orders.length/\ ∀j,j<k->(nth x.orders j).name≠s) (fun k=>x.orders.length-k) 0 (by simp) (Weak.mk ?_) ?_
 ·simp (disch:=omega) only [Ze,go_sem,seval]
 ·rintro k ⟨hk,hno⟩;simp (disch:=omega) only [Ze,go_sem,seval];refine cD ?_ ?_<;>intro h<;>simp (disch:=omega) only [Sh.out h,go_sem,seval]
  ·have hk2:k<x.orders.length:=by omega
   refine cD ?_ ?_<;>intro h2<;>simp (disch:=omega) only [Sh.out h2,go_sem,seval]
   ·rw [KP hk2 h2 hno]
   ·exact ⟨k+1,⟨by omega,Zk.2 ⟨hno,h2⟩⟩,by omega,Weak.mk (by simp (disch:=omega) only [Ze,go_sem,seval])⟩
  ·have hkl:k=x.orders.length:=by omega
   subst hkl;rw [KM hno]
theorem Zas (x:Inst) (s:List UInt8) (ho:x.orders.length<=1048576):PC 20 [.p (ZW x),.p (.str s)] (.int .i64 (QJ x.orders s)):=by
 refine Zb Tryz.func20 rfl ZmG ?_;simp (disch:=omega) only [Tryz.f20,go_sem,seval];refine Zf [1,2] (fun k:Nat=> [(5,.p (.int .i64 k))]) (fun _=> [Ze x]) (fun k=>k<=x.orders.length/\ ∀j,j<k->(nth x.orders j).name≠s) (fun k=>x.orders.length-k) 0 (by simp) (Weak.mk ?_) ?_
 ·simp (disch:=omega) only [Ze,go_sem,seval]
 ·rintro k ⟨hk,hno⟩;simp (disch:=omega) only [Ze,go_sem,seval];refine cD ?_ ?_<;>intro h<;>simp (disch:=omega) only [Sh.out h,go_sem,seval]
  ·have hk2:k<x.orders.length:=by omega
   refine cD ?_ ?_<;>intro h2<;>simp (disch:=omega) only [Sh.out h2,go_sem,seval]
   ·rw [KP hk2 h2 hno]
   ·exact ⟨k+1,⟨by omega,Zk.2 ⟨hno,h2⟩⟩,by omega,Weak.mk (by simp (disch:=omega) only [Ze,go_sem,seval])⟩
  ·have hkl:k=x.orders.length:=by omega
   subst hkl;rw [KM hno]
def Kh (x:Inst) (o n:Nat):List V:= [.p (.list x.net.places_c (x.net.places.map eS)),.p (.list x.net.arcs_c (x.net.arcs.map Kj)),.p (.list x.types_c (x.types.map QZ)),.sl o 0 n n,.p (.list x.apart_c (x.apart.map eP)),.p (.list x.before_c (x.before.map eP))]
def frR (x:Inst) (k:Nat):List Ord:=Wb (fun j=>if j<k then frO x j else nth x.orders j) x.orders.length
theorem Vy {x:Inst} {k:Nat} :(frR x k).length=x.orders.length:=Xv
theorem Jk {x:Inst} :frR x 0=x.orders:=(Yq fun j _=>by rw [if_neg (by omega)]).trans ZaK
theorem Za8 {x:Inst} :frR x x.orders.length=Wb (frO x) x.orders.length:=Yq fun j hj=>by rw [if_pos (by omega)]
theorem KC {x:Inst} {k:Nat} (h:k<x.orders.length):nth (frR x k) k=nth x.orders k:=by rw [frR,YM h,if_neg (by omega)]
theorem Zan {x:Inst} {k:Nat} :(frR x k).set k (frO x k)=frR x (k+1):=by
 rw [frR,QU];refine Yq fun i _=> ?_
 by_cases c:i=k
 ·subst c;simp
 ·rw [if_neg c]
  by_cases c2:i<k
  ·rw [if_pos c2,if_pos (by omega)]
  ·rw [if_neg c2,if_neg (by omega)]
theorem Zd8 (x:Inst) (ho:x.orders.length<=1048576):ACalls Tryz.prog 17 [.p (ZW x)] [] fun y H'=>y= .agg (Kh x 2 x.orders.length)/\H'= [.cells (Kh x 2 x.orders.length),.cells (Kh x 2 x.orders.length),.elems 16 ((Wb (frO x) x.orders.length).map eOrd)]:=by
 refine ZQ [2] Tryz.func17 rfl ZlK ?_;simp (disch:=omega) only [Tryz.f17,go_sem,seval];refine QE (ZdL 3 rfl rfl ?_);simp (disch:=omega) only [go_sem,seval]
 have h1: ∀q∈x.orders.map eOrd,q.cells.length=16/\ ∀z∈q.cells,z.one=true:=fun q hq=>by
  obtain ⟨o,_,rfl⟩:=List.mem_map.1 hq;exact ⟨rfl,fun z hz=>by simp [eOrd,PV.cells] at hz;rcases hz with rfl | rfl | rfl | rfl | rfl | rfl | rfl | rfl | rfl | rfl | rfl | rfl | rfl | rfl | rfl | rfl<;>rfl⟩
 have key: ∀z:PV,x.orders= []->List.replicate x.orders.length z=(frR x 0).map eOrd:=fun z h=>by rw [Jk,h];rfl
 have key2:x.orders.map eOrd=(frR x 0).map eOrd:=by rw [Jk]
 by_cases h0:x.orders= []
 ·refine ⟨_,_,UZ (e:=58) (S:=16) rfl Tryz.underlying27 (by kernel_rfl) rfl rfl rfl (by simp) (.inl (by rw [h0];rfl)),?_⟩;refine Za [] _ _ _ _ ?_;simp (disch:=first | omega | (simp only [List.length_cons,List.length_nil,List.length_append,List.length_map,List.length_take,List.length_drop]<;>omega)) only [eq_self,if_true,List.length_replicate,List.set_cons_succ,List.set_cons_zero,go_sem,seval];refine Zf [1,2,3,14] (fun k:Nat=> [(15,.p (.int .i64 k))]) (fun k=> [Ze x,.cells (List.replicate 6 (.p (.list true []))),.elems 16 ((frR x k).map eOrd)]) (fun k=>k<=x.orders.length) (fun k=>x.orders.length-k) 0 (by simp) (Weak.mk ?_) ?_
  ·simp (disch:=omega) only [Ze,List.replicate,go_sem,seval]
   first | exact key _ h0 | exact key2
  ·intro k hk;have hrl:=Vy (x:=x) (k:=k);simp (disch:=first | omega | (simp only [List.length_cons,List.length_nil,List.length_append,List.length_map,List.length_take,List.length_drop]<;>omega)) only [Ze,List.replicate,hrl,eq_self,if_true,go_sem,seval];refine cD ?_ ?_<;>intro h2<;>simp (disch:=omega) only [Sh.out h2,hrl,go_sem,seval]
   ·have hk2:k<x.orders.length:=by omega
    have hnk:=KC hk2
    have he:elt ((frR x k).map eOrd) k=eOrd (nth x.orders k):=by rw [XX (by rw [Vy];exact hk2),hnk]
    have Zy:((frR x k).map eOrd).set k (eOrd (frO x k))=(frR x (k+1)).map eOrd:=by rw [<- List.map_set,Zan]
    simp only [Qw,frO] at Zy;simp (disch:=first | omega | (simp only [List.length_cons,List.length_nil,List.length_append,List.length_map,List.length_take,List.length_drop]<;>omega)) only [he,hrl,hk2,eq_self,if_true,go_sem,seval];exact ⟨k+1,by omega,by omega,Weak.mk (by simp (disch:=omega) only [Ze,List.replicate,hnk,Zy,go_sem,seval])⟩
   ·have hkl:k=x.orders.length:=by omega
    subst hkl;rw [Za8];exact ⟨_,_,Weak.refl _ _ _,rfl,rfl⟩
 ·have hl0:0<x.orders.length:=List.length_pos_iff.2 h0;refine ⟨_,_,U0 (e:=58) (S:=16) rfl Tryz.underlying27 (by kernel_rfl) (by omega) rfl rfl rfl (by simp) (by simp) (by simpa using hl0) h1,?_⟩;rw [List.drop_eq_nil_of_le (by simp),List.append_nil];refine Za [] _ _ _ _ ?_;simp (disch:=first | omega | (simp only [List.length_cons,List.length_nil,List.length_append,List.length_map,List.length_take,List.length_drop]<;>omega)) only [eq_self,if_true,List.length_replicate,List.set_cons_succ,List.set_cons_zero,go_sem,seval];refine Zf [1,2,3,14] (fun k:Nat=> [(15,.p (.int .i64 k))]) (fun k=> [Ze x,.cells (List.replicate 6 (.p (.list true []))),.elems 16 ((frR x k).map eOrd)]) (fun k=>k<=x.orders.length) (fun k=>x.orders.length-k) 0 (by simp) (Weak.mk ?_) ?_
  ·simp (disch:=omega) only [Ze,List.replicate,go_sem,seval]
   first | exact key _ h0 | exact key2
  ·intro k hk;have hrl:=Vy (x:=x) (k:=k);simp (disch:=first | omega | (simp only [List.length_cons,List.length_nil,List.length_append,List.length_map,List.length_take,List.length_drop]<;>omega)) only [Ze,List.replicate,hrl,eq_self,if_true,go_sem,seval];refine cD ?_ ?_<;>intro h2<;>simp (disch:=omega) only [Sh.out h2,hrl,go_sem,seval]
   ·have hk2:k<x.orders.length:=by omega
    have hnk:=KC hk2
    have he:elt ((frR x k).map eOrd) k=eOrd (nth x.orders k):=by rw [XX (by rw [Vy];exact hk2),hnk]
    have Zy:((frR x k).map eOrd).set k (eOrd (frO x k))=(frR x (k+1)).map eOrd:=by rw [<- List.map_set,Zan]
    simp only [Qw,frO] at Zy;simp (disch:=first | omega | (simp only [List.length_cons,List.length_nil,List.length_append,List.length_map,List.length_take,List.length_drop]<;>omega)) only [he,hrl,hk2,eq_self,if_true,go_sem,seval];exact ⟨k+1,by omega,by omega,Weak.mk (by simp (disch:=omega) only [Ze,List.replicate,hnk,Zy,go_sem,seval])⟩
   ·have hkl:k=x.orders.length:=by omega
    subst hkl;rw [Za8];exact ⟨_,_,Weak.refl _ _ _,rfl,rfl⟩
def nmO (x:Inst) (i:Int):List UInt8:=(nth x.orders i.toNat).name
def nmT (x:Inst) (i:Int):List UInt8:=(nth x.types i.toNat).name
def Zex (x:Inst) (v:Itm):List UInt8 :=
 if v.kind=1 then [112,105,99,107,117,112,32,119,105,110,100,111,119,32,111,102,32]++nmO x v.a else
 if v.kind=2 then [100,101,108,105,118,101,114,121,32,119,105,110,100,111,119,32,111,102,32]++nmO x v.a else
 if v.kind=3 then [99,97,112,97,99,105,116,121,32,111,102,32]++nmT x v.a else
 if v.kind=4 then [115,107,105,108,108,115,32,111,102,32]++nmO x v.a else
 if v.kind=7 then [101,110,100,32,111,102,32,116,104,101,32,115,104,105,102,116,32,111,102,32]++nmT x v.a else
 if v.kind=8 then [114,101,115,116,115,32,111,102,32]++nmT x v.a else
 if v.kind=9 then [110,117,109,98,101,114,32,111,102,32]++nmT x v.a else
 if v.kind=5 then nmO x (nth x.apart v.a.toNat).1++ [32,97,110,100,32]++nmO x (nth x.apart v.a.toNat).2++ [32,97,112,97,114,116] else
 if v.kind=6 then nmO x (nth x.before v.a.toNat).1++ [32,98,101,102,111,114,101,32]++nmO x (nth x.before v.a.toNat).2 else
 nmO x v.a++ [32,109,117,115,116,32,98,101,32,115,101,114,118,101,100]
def Km (x:Inst) (v:Itm):List UInt8:=if JZ x v=true then Zex x v else [117,110,107,110,111,119,110]
inductive HasK (x:Inst):Itm->Prop
 | o (k a:Int) (hk:k=1\/k=2\/k=4\/k=10) (ha:0<=a/\a<x.orders.length):HasK x ⟨k,a⟩
 | t (k a:Int) (hk:k=3\/k=7\/k=8\/k=9) (ha:0<=a/\a<x.types.length):HasK x ⟨k,a⟩
 | p (a:Int) (ha:0<=a/\a<x.apart.length):HasK x ⟨5,a⟩
 | b (a:Int) (ha:0<=a/\a<x.before.length):HasK x ⟨6,a⟩
theorem ZpY {x:Inst} {v:Itm} (h:JZ x v=true):HasK x v:=by
 obtain ⟨k,a⟩:=v;simp only [JZ] at h
 split at h
 ·rename_i hk;simp only [Q5,Bool.and_eq_true,decide_eq_true_eq] at h;exact .o k a hk h.1.1
 ·split at h
  ·rename_i hk;simp only [Bool.and_eq_true,decide_eq_true_eq] at h;exact .t k a hk h
  ·split at h
   ·rename_i hk;subst hk;simp only [Bool.and_eq_true,decide_eq_true_eq] at h;exact .p a h.1.1
   ·split at h
    ·rename_i hk;subst hk;simp only [Bool.and_eq_true,decide_eq_true_eq] at h;exact .b a h.1
    ·cases h
structure LnOk (x:Inst):Prop where
 ord:x.orders.length<=1000
 typ:x.types.length<=1000
 nmo: ∀o∈x.orders,o.name.length<=1048576
 nmt: ∀t∈x.types,t.name.length<=1048576
 ap:x.apart.length<=1000
 be:x.before.length<=1000
 app: ∀p∈x.apart,(0<=p.1/\p.1<x.orders.length)/\0<=p.2/\p.2<x.orders.length
 bep: ∀p∈x.before,(0<=p.1/\p.1<x.orders.length)/\0<=p.2/\p.2<x.orders.length
theorem LnOk.no {x:Inst} (h:LnOk x) {a:Int} (ha:0<=a/\a<x.orders.length):(nth x.orders a.toNat).name.length<=1048576:=h.nmo _ (Zu (by omega))
theorem LnOk.nt {x:Inst} (h:LnOk x) {a:Int} (ha:0<=a/\a<x.types.length):(nth x.types a.toNat).name.length<=1048576:=h.nmt _ (Zu (by omega))
def ZbX (v:Itm):AM.Obj:= .cells [.p (.int .i64 v.kind),.p (.int .i64 v.a)]
theorem Yy (x:Inst) (n:Int) (v:Itm) (h:0<=n/\n<x.orders.length) (hl:x.orders.length<=1000):ACalls Tryz.prog 53 [.p (.int .i64 n),.ptr 0 0] [Ze x,ZbX v] fun y H'=>y= .p (.str (nmO x n))/\H'= [Ze x,ZbX v]:=by
 refine ZQ [] Tryz.func53 rfl Zmf ?_;simp (disch:=omega) only [Tryz.f53,Ze,ZbX,go_sem,seval];exact we (by simp (disch:=omega) only [Ze,ZbX,nmO,go_sem,seval])
theorem VX {P:Program} {H:List AM.Obj} {f az} {z:PV} {B:V->Prop} {t} (h:ACalls P f az H fun x H'=>x= .p z/\H'=H) (k:B (.p z)) :
  exq (fun y=>ACalls P f az H (Zw (Zw (fun x H'=>x=y/\H'=H) ⟨⟩) ⟨⟩)) (Zw B t):=⟨.p z,h,k⟩
theorem Zdn {P:Program} {H:List AM.Obj} {f az} {z:V} {K:V->List AM.Obj->Prop} (h:ACalls P f az H fun x H'=>x=z/\H'=H) (k:K z H):ACalls P f az H K:=h.mono fun x H' hq=>by
 obtain ⟨rfl,rfl⟩:=hq;exact k
theorem Zb3 (x:Inst) (hx:LnOk x) (v:Itm) (hv:JZ x v=true):PC 33 [.p (ZW x),.p (Y9 v)] (.str (Zex x v)):=by
 have s1:=hx.ord;have s2:=hx.typ;have s3:=hx.ap;have s4:=hx.be;refine Zb Tryz.func33 rfl Zk8 ?_
 cases ZpY hv with
 | o k a hk ha =>
  have hn:=hx.no ha;have hc:=fun k=>Yy x a ⟨k,a⟩ ha s1;rcases hk with rfl | rfl | rfl | rfl
  all_goals
   simp (disch:=omega) only [Tryz.f33,go_sem,seval];refine Zdn (hc _) ?_;simp (disch:=first | omega | (simp only [List.length_cons,List.length_nil,List.length_append,List.length_map,List.length_take,List.length_drop]<;>omega)) only [Ze,ZbX,nmO,go_sem,seval];simp [Zex,nmO]
 | t k a hk ha =>
  have hn:=hx.nt ha;rcases hk with rfl | rfl | rfl | rfl
  all_goals
   simp (disch:=first | omega | (simp only [List.length_cons,List.length_nil,List.length_append,List.length_map,List.length_take,List.length_drop]<;>omega)) only [Tryz.f33,go_sem,seval];simp [Zex,nmT]
 | p a ha =>
  have hp:=hx.app _ (Zu (l:=x.apart) (i:=a.toNat) (by omega));have n1:=hx.no hp.1;have n2:=hx.no hp.2;simp (disch:=omega) only [Tryz.f33,go_sem,seval];refine Zq mixed (by kernel_rfl) (by kernel_rfl) ?_;simp (disch:=omega) only [go_sem,seval];refine VX (Yy x _ ⟨5,a⟩ hp.1 s1) ?_;simp (disch:=first | omega | (simp only [List.length_cons,List.length_nil,List.length_append,List.length_map,List.length_take,List.length_drop]<;>omega)) only [Ze,ZbX,nmO,go_sem,seval];refine VX (Yy x _ ⟨5,a⟩ hp.2 s1) ?_;simp (disch:=first | omega | (simp only [List.length_cons,List.length_nil,List.length_append,List.length_map,List.length_take,List.length_drop]<;>omega)) only [Ze,ZbX,nmO,go_sem,seval]
  simp [Zex,nmO]
 | b a ha =>
  have hp:=hx.bep _ (Zu (l:=x.before) (i:=a.toNat) (by omega));have n1:=hx.no hp.1;have n2:=hx.no hp.2;simp (disch:=omega) only [Tryz.f33,go_sem,seval];refine Zq mixed (by kernel_rfl) (by kernel_rfl) ?_;simp (disch:=omega) only [go_sem,seval];refine VX (Yy x _ ⟨6,a⟩ hp.1 s1) ?_;simp (disch:=first | omega | (simp only [List.length_cons,List.length_nil,List.length_append,List.length_map,List.length_take,List.length_drop]<;>omega)) only [Ze,ZbX,nmO,go_sem,seval];refine VX (Yy x _ ⟨6,a⟩ hp.2 s1) ?_;simp (disch:=first | omega | (simp only [List.length_cons,List.length_nil,List.length_append,List.length_map,List.length_take,List.length_drop]<;>omega)) only [Ze,ZbX,nmO,go_sem,seval]
  simp [Zex,nmO]
theorem ZhF (x:Inst) (hx:LnOk x) (hs:ISz x) (l:List Itm) (c:Bool) (hl:l.length<=1000):PC 13 [.p (ZW x),.p (.list c (l.map Y9))] (.list false ((l.map (Km x)).map eS)):=by
 refine ACalls.frozen (S:=1) (n:=(l.map (Km x)).length) (by simp) ?_
 suffices hh:ACalls Tryz.prog 13 [.p (ZW x),.p (.list c (l.map Y9))] [] fun y H'=> ∃m:List (List UInt8),m=l.map (Km x)/\y= .sl 0 0 m.length m.length/\H'= [.elems 1 (m.map eS)] by
  refine hh.mono ?_;rintro x H' ⟨m,rfl,h1,h2⟩;exact ⟨h1,h2⟩
 refine Zn [2] Tryz.func13 rfl ZmO ?_;simp (disch:=omega) only [Tryz.f13,go_sem,seval];refine ZD (Weak.ofNil 5 1 (by simp (disch:=omega) only [go_sem,seval]) (by simp) (Weak.refl _ _ _)) ?_;refine Za [] _ _ _ _ ?_;simp (disch:=omega) only [go_sem,seval];refine Zf [2,8,9] (fun q:Nat×List (List UInt8)=> [(5,.sl 1 0 q.2.length q.2.length),(10,.p (.int .i64 q.1))]) (fun q=> [Ze x,.elems 1 (q.2.map eS)]) (fun q=>q.1<=l.length/\q.2=(l.take q.1).map (Km x)) (fun q=>l.length-q.1) (0,[]) ⟨by simp,by simp⟩ (Weak.mk ?_) ?_
 ·simp (disch:=omega) only [Ze,go_sem,seval]
 ·rintro ⟨k,m⟩ ⟨hk,hm⟩;simp only at hk hm
  have hml:m.length=k:=by rw [hm];simp;omega
  have hh:=Zdy x hs (nth l k);simp (disch:=omega) only [Ze,go_sem,seval];refine cD ?_ ?_<;>intro h<;>simp (disch:=omega) only [Sh.out h,go_sem,seval]
  ·have hk2:k<l.length:=by omega
   have hsn:(l.take (k+1)).map (Km x)=m++ [Km x (nth l k)]:=by rw [hm,List.take_succ_eq_append_getElem hk2,Zh hk2,List.map_append,List.map_cons,List.map_nil]
   by_cases hv:JZ x (nth l k)=true
   ·have hc:=Zb3 x hx (nth l k) hv
    have hlf:Zex x (nth l k)=Km x (nth l k):=by rw [Km,if_pos hv]
    rw [hlf] at hc;rw [hv] at hh;refine (hh).use ?_;simp (disch:=omega) only [go_sem,seval];refine (hc).use ?_;simp (disch:=omega) only [go_sem,seval];exact ⟨(k+1,m++ [Km x (nth l k)]),⟨by simp only;omega,by simp only [hsn]⟩,by simp only;omega,Weak.mk (by simp (disch:=omega) only [Ze,go_sem,seval])⟩
   ·have hlf:Km x (nth l k)= [117,110,107,110,111,119,110]:=by rw [Km,if_neg hv]
    rw [show JZ x (nth l k)=false from by simpa using hv] at hh;refine (hh).use ?_;simp (disch:=omega) only [go_sem,seval];exact ⟨(k+1,m++ [Km x (nth l k)]),⟨by simp only;omega,by simp only [hsn]⟩,by simp only;omega,Weak.mk (by simp (disch:=omega) only [Ze,hlf,go_sem,seval])⟩
  ·have hkl:k=l.length:=by omega
   subst hkl;exact ⟨m,by rw [hm,List.take_length],1,by simp (disch:=omega) only [Ze,go_sem,seval]⟩
theorem Jb (x:Inst) (hw:x.wf 1048576) (n:Int):ACalls Tryz.prog 5 [.p (ZW x),.p (.int .i64 n)] [] fun y H'=> ∃b:Bool,(b=true->x.orders.length<=n/\x.types.length<=2/\x.apart.length<=4/\x.before.length<=4/\InstOk x)/\y= .p (.bool b)/\H'= []:=by
 have w1:=hw.1.1;have w2:=hw.1.2.2.1;have w3:=hw.2.1;have w4:=hw.2.2.2.1;have w5:=hw.2.2.2.2.2.1;have w6:=hw.2.2.2.2.2.2.2.1;refine ACalls.pureE (Xd Tryz.func5 rfl ZpK (Za [] _ _ _ _ ?_));simp (disch:=omega) only [Tryz.f5,go_sem,seval];refine gT ?_ ?_<;>intro h1<;>simp (disch:=omega) only [Sh.out h1,go_sem,seval]
 ·refine gT ?_ ?_<;>intro h2<;>simp (disch:=omega) only [Sh.out h2,go_sem,seval]
  ·refine gT ?_ ?_<;>intro h3<;>simp (disch:=omega) only [Sh.out h3,go_sem,seval]
   ·refine gT ?_ ?_<;>intro h4<;>simp (disch:=omega) only [Sh.out h4,go_sem,seval]
    ·refine gT ?_ ?_<;>intro h5<;>simp (disch:=omega) only [Sh.out h5,go_sem,seval]
     ·refine gT ?_ ?_<;>intro h6<;>simp (disch:=omega) only [Sh.out h6,go_sem,seval]
      ·refine ((Zde x hw).frozenE).useV fun m hm=> ?_;simp (disch:=omega) only [go_sem,seval];refine ⟨decide (m.length=0),fun hb=>⟨by omega,by omega,by omega,by omega,?_⟩,by simp⟩;have:=hm.emp;rw [decide_eq_true_eq,List.length_eq_zero_iff,this] at hb;exact hb
      ·exact ⟨false,by simp,rfl⟩
     ·exact ⟨false,by simp,rfl⟩
    ·exact ⟨false,by simp,rfl⟩
   ·exact ⟨false,by simp,rfl⟩
  ·exact ⟨false,by simp,rfl⟩
 ·exact ⟨false,by simp,rfl⟩
def crR (x b:Inst) (p:Pln) (k:Nat):List Ord:=Wb (fun j=>if j<k then W4 x b p j else frO x j) x.orders.length
section
variable {x b : Inst} {p : Pln} {k : Nat}
theorem Qh : (crR x b p k).length=x.orders.length:=Xv
theorem Zcz : crR x b p 0=Wb (frO x) x.orders.length:=Yq fun j _=>by rw [if_neg (by omega)]
theorem ZeP : crR x b p x.orders.length=Wb (W4 x b p) x.orders.length:=Yq fun j hj=>by rw [if_pos (by omega)]
theorem ZeG (h:k<x.orders.length):nth (crR x b p k) k=frO x k:=by rw [crR,YM h,if_neg (by omega)]
theorem Zeb : (crR x b p k).set k (W4 x b p k)=crR x b p (k+1):=by
 rw [crR,QU];refine Yq fun i _=> ?_
 by_cases c:i=k
 ·subst c;simp
 ·rw [if_neg c]
  by_cases c2:i<k
  ·rw [if_pos c2,if_pos (by omega)]
  ·rw [if_neg c2,if_neg (by omega)]
theorem ZbM (hk:k<x.orders.length) (h:W4 x b p k=frO x k):crR x b p (k+1)=crR x b p k:=Yq fun i _=>by
 by_cases c:i=k
 ·subst c;rw [if_pos (by omega),if_neg (by omega),h]
 ·by_cases c2:i<k
  ·rw [if_pos c2,if_pos (by omega)]
  ·rw [if_neg c2,if_neg (by omega)]
end
theorem Zd4 (x b:Inst) (p:Pln) (hxo:x.orders.length<=1048576) (hxt:x.types.length<=1048576) (hbo:b.orders.length<=4) (hbt:b.types.length<=1048576) (hr:p.routes.length<=1048576) (hv: ∀r∈p.routes,r.visits.length<=1048576) :
  ACalls Tryz.prog 8 [.p (ZW x),.p (ZW b),.p (Zbi p)] [] fun y H'=>y=crT x b p/\H'= []:=by
 have zI:ZW zeroI= .agg [.list true [],.list true [],.list true [],.list true [],.list true [],.list true []]:=rfl;have ck:=K2 b p hbo hbt hr hv;refine ZQ [14] Tryz.func8 rfl Zqt ?_;simp (disch:=omega) only [Tryz.f8,go_sem,seval];refine cD ?_ ?_<;>intro h1<;>simp (disch:=omega) only [Sh.out h1,go_sem,seval]
 ·have hE:crE x b p=2:=by rw [crE,if_neg (by omega)]
  rw [crT,hE,if_neg (by omega),zI];exact we
 ·have hE:crE x b p=Y3 b p:=by rw [crE,if_pos (by omega)]
  by_cases h0:Y3 b p=0
  ·rw [QX,if_pos h0] at ck;rw [crT,hE,if_pos h0,h0];refine Zc4 ck ?_;simp (disch:=omega) only [go_sem,seval];refine ACalls.mono ((Zd8 x hxo).behind (by rfl) [Ze x,Ze b,Z7 p,.cells (List.replicate 6 (.p (.list true [])))]) ?_;rintro y H' ⟨y1,H1,⟨rfl,rfl⟩,rfl,rfl⟩;rw [<- Zcz (x:=x) (b:=b) (p:=p)];have hl0:=Qh (x:=x) (b:=b) (p:=p) (k:=0);simp (disch:=first | omega | (simp only [List.length_cons,List.length_nil,List.length_append,List.length_map,List.length_take,List.length_drop]<;>omega)) only [shV,Zai,shO,Kh,Ze,Z7,List.replicate,List.map_cons,List.map_nil,List.cons_append,List.nil_append,hl0,eq_self,decide_true,if_true,go_sem,seval]
   refine Xc [14] [4,6,8,10,35,36] (fun k:Nat=> [(37,.p (.int .i64 k))]) (fun k=> [Ze x,Ze b,Z7 p,.cells (List.replicate 6 (.p (.list true []))),.cells (Kh x 6 x.orders.length),.cells (Kh x 6 x.orders.length),.elems 16 ((crR x b p k).map eOrd),.cells (Kh x 6 x.orders.length)]) (fun k=>k<=x.orders.length) (fun k=>x.orders.length-k) 0 (by simp) (Weak.mk ?_) ?_
   ·simp (disch:=omega) only [Ze,Z7,List.replicate,Kh,go_sem,seval]
   ·intro k hk;have hrl:=Qh (x:=x) (b:=b) (p:=p) (k:=k);simp (disch:=first | omega | (simp only [List.length_cons,List.length_nil,List.length_append,List.length_map,List.length_take,List.length_drop]<;>omega)) only [Ze,Z7,List.replicate,Kh,hrl,eq_self,decide_true,if_true,go_sem,seval];refine cD ?_ ?_<;>intro h2<;>simp (disch:=omega) only [Sh.out h2,hrl,go_sem,seval]
    ·have hk2:k<x.orders.length:=by omega
     have hnk:=ZeG (b:=b) (p:=p) hk2
     have he:elt ((crR x b p k).map eOrd) k=eOrd (frO x k):=by rw [XX (by rw [Qh];exact hk2),hnk]
     have Zy:((crR x b p k).map eOrd).set k (eOrd (W4 x b p k))=(crR x b p (k+1)).map eOrd:=by rw [<- List.map_set,Zeb]
     have hsame:=ZbM (b:=b) (p:=p) hk2;have hnm:(frO x k).name=(nth x.orders k).name:=rfl;have hrg:=VS (l:=b.orders) (s:=(nth x.orders k).name);have hkl:=VA (x:=b) (p:=p);have cf:=ZeB b (nth x.orders k).name (by omega);simp (disch:=first | omega | (simp only [List.length_cons,List.length_nil,List.length_append,List.length_map,List.length_take,List.length_drop]<;>omega)) only [he,hrl,hk2,hnk,eq_self,decide_true,if_true,go_sem,seval];refine (cf).use ?_;simp (disch:=omega) only [go_sem,seval];generalize hF:QJ b.orders (nth x.orders k).name=F at hrg
     have hcar:W4 x b p k=if 0<=F/\0<=nth (Kd b p) F.toNat then { frO x k with last:=nth (Kd b p) F.toNat } else frO x k:=by rw [W4,hF]
     refine gT ?_ ?_<;>intro h3<;>simp (disch:=omega) only [Sh.out h3,go_sem,seval]
     ·refine cD ?_ ?_<;>intro h4<;>simp (disch:=omega) only [Sh.out h4,go_sem,seval]
      ·rw [if_pos ⟨h3,h4⟩] at hcar;rw [hcar] at Zy;simp only [Qw,frO] at Zy;refine Xj 9 mixed (by kernel_rfl) (by kernel_rfl) ?_;simp (disch:=omega) only [go_sem,seval];simp (disch:=first | omega | (simp only [List.length_cons,List.length_nil,List.length_append,List.length_map,List.length_take,List.length_drop]<;>omega)) only [he,hrl,hk2,hnk,eq_self,decide_true,if_true,go_sem,seval];exact ⟨k+1,by omega,by omega,Weak.mk (by simp (disch:=omega) only [Ze,Z7,List.replicate,Kh,hnk,frO,Zy,go_sem,seval])⟩
      ·rw [if_neg (fun h=>h4 h.2)] at hcar;exact ⟨k+1,by omega,by omega,Weak.mk (by simp (disch:=omega) only [Ze,Z7,List.replicate,Kh,hsame hcar,go_sem,seval])⟩
     ·rw [if_neg (fun h=>h3 h.1)] at hcar;exact ⟨k+1,by omega,by omega,Weak.mk (by simp (disch:=omega) only [Ze,Z7,List.replicate,Kh,hsame hcar,go_sem,seval])⟩
    ·have hkl:k=x.orders.length:=by omega
     subst hkl;rw [ZeP];have hrt:=Xv (f:=W4 x b p) (n:=x.orders.length);refine ZD (Weak.fz (o:=6) (by rfl)) ?_;refine Za [] _ _ _ _ ?_;simp (disch:=omega) only [List.map_cons,List.map_nil,List.set_cons_succ,List.set_cons_zero,hrt,eq_self,if_true,go_sem,seval];exact we (by simp (disch:=omega) only [crI,go_sem,seval])
  ·rw [QX,if_neg h0] at ck;rw [crT,hE,if_neg h0,zI];refine Zc4 ck ?_;simp (disch:=omega) only [go_sem,seval];refine cD ?_ ?_<;>intro h2<;>simp (disch:=omega) only [Sh.out h2,go_sem,seval]
   ·exact we
   ·omega
theorem ZbZ (x b:Inst) (p:Pln) (hxo:x.orders.length<=1048576) (hxt:x.types.length<=1048576) (hbo:b.orders.length<=1048576) (hbt:b.types.length<=1048576) (hr:p.routes.length<=1048576) (hv: ∀r∈p.routes,r.visits.length<=1048576) :
  ACalls Tryz.prog 9 [.p (ZW x),.p (ZW b),.p (Zbi p)] [] fun y H'=>y=crT x b p/\H'= []:=by
 have zI:ZW zeroI= .agg [.list true [],.list true [],.list true [],.list true [],.list true [],.list true []]:=rfl;have ck:=JM b p hbo hbt hr hv;refine ZQ [7,16] Tryz.func9 rfl Zqw ?_;simp (disch:=omega) only [Tryz.f9,go_sem,seval];refine cD ?_ ?_<;>intro h1<;>simp (disch:=omega) only [Sh.out h1,go_sem,seval]
 ·have hE:crE x b p=2:=by rw [crE,if_neg (by omega)]
  rw [crT,hE,if_neg (by omega),zI];exact we
 ·have hE:crE x b p=Y3 b p:=by rw [crE,if_pos (by omega)]
  by_cases h0:Y3 b p=0
  ·rw [QX,if_pos h0] at ck;rw [crT,hE,if_pos h0,h0];refine Zc4 ck ?_;simp (disch:=omega) only [go_sem,seval];refine ZD (Weak.ofNil 10 16 (by simp (disch:=omega) only [go_sem,seval]) (by simp) (Weak.refl _ _ _)) ?_;refine Za [16] _ _ _ _ ?_;simp (disch:=omega) only [go_sem,seval];refine Xc [16] [3,4,6,8] (fun q:Nat×List Ord=> [(10,.sl 4 0 q.2.length q.2.length),(11,.p (.int .i64 q.1))]) (fun q=> [Ze x,Ze b,Z7 p,.cells (List.replicate 6 (.p (.list true []))),.elems 16 (q.2.map eOrd)]) (fun q=>q.1<=x.orders.length/\q.2=Wb (W4 x b p) q.1) (fun q=>x.orders.length-q.1) (0,[]) ⟨by simp,by simp [Wb]⟩ (Weak.mk ?_) ?_
   ·simp (disch:=omega) only [Ze,Z7,List.replicate,go_sem,seval]
   ·rintro ⟨k,m⟩ ⟨hk,hm⟩;simp only at hk hm
    have hml:m.length=k:=by rw [hm];exact Xv
    simp (disch:=omega) only [Ze,Z7,List.replicate,go_sem,seval];refine cD ?_ ?_<;>intro h2<;>simp (disch:=omega) only [Sh.out h2,go_sem,seval]
    ·have hk2:k<x.orders.length:=by omega
     have hrg:=VS (l:=b.orders) (s:=(nth x.orders k).name);have hkl:=VA (x:=b) (p:=p);refine (Zas b (nth x.orders k).name (by omega)).use ?_;simp (disch:=omega) only [go_sem,seval];generalize hF:QJ b.orders (nth x.orders k).name=F at hrg
     have hcar:W4 x b p k=if 0<=F/\0<=nth (Kd b p) F.toNat then { frO x k with last:=nth (Kd b p) F.toNat } else frO x k:=by rw [W4,hF]
     have hsn:Wb (W4 x b p) (k+1)=m++ [W4 x b p k]:=by rw [Zba,hm]
     refine gT ?_ ?_<;>intro h3<;>simp (disch:=omega) only [Sh.out h3,go_sem,seval]
     ·refine cD ?_ ?_<;>intro h4<;>simp (disch:=omega) only [Sh.out h4,go_sem,seval]
      ·rw [if_pos ⟨h3,h4⟩] at hcar;exact ⟨(k+1,m++ [W4 x b p k]),⟨by simp only;omega,hsn.symm⟩,by simp only;omega,Weak.mk (by simp (disch:=omega) only [Ze,Z7,List.replicate,hcar,frO,go_sem,seval])⟩
      ·rw [if_neg (fun h=>h4 h.2)] at hcar;exact ⟨(k+1,m++ [W4 x b p k]),⟨by simp only;omega,hsn.symm⟩,by simp only;omega,Weak.mk (by simp (disch:=omega) only [Ze,Z7,List.replicate,hcar,frO,go_sem,seval])⟩
     ·rw [if_neg (fun h=>h3 h.1)] at hcar;exact ⟨(k+1,m++ [W4 x b p k]),⟨by simp only;omega,hsn.symm⟩,by simp only;omega,Weak.mk (by simp (disch:=omega) only [Ze,Z7,List.replicate,hcar,frO,go_sem,seval])⟩
    ·have hkl:k=x.orders.length:=by omega
     subst hkl;subst hm;refine ZD (Weak.fz (o:=4) (by rfl)) ?_;refine Za [] _ _ _ _ ?_;simp (disch:=omega) only [List.map_cons,List.map_nil,List.set_cons_succ,List.set_cons_zero,go_sem,seval];exact we (by simp (disch:=omega) only [crI,go_sem,seval])
  ·rw [QX,if_neg h0] at ck;rw [crT,hE,if_neg h0,zI];refine Zc4 ck ?_;simp (disch:=omega) only [go_sem,seval];refine cD ?_ ?_<;>intro h2<;>simp (disch:=omega) only [Sh.out h2,go_sem,seval]
   ·exact we
   ·omega
def rtB (r:Rte):Bool:=decide (r.visits.length<=8)&&decide (r.rests.length<=9)
def smB (p:Pln):Bool:=(decide (p.routes.length<=4)&&decide (p.unserved.length<=6))&&p.routes.all rtB
def plB (l:List Pln):Bool:=decide (l.length<=4)&&l.all smB
theorem ZgP {l:List Pln} {k:Nat} (hk:k<l.length) (h:smB (nth l k)=false):plB l=false:=by
 rw [plB,Bool.and_eq_false_iff];exact .inr (List.all_eq_false.2 ⟨_,Zu hk,by rw [h];simp⟩)
theorem Zg8 {p:Pln} {k:Nat} (hk:k<p.routes.length) (h:rtB (nth p.routes k)=false):smB p=false:=by
 rw [smB,Bool.and_eq_false_iff];exact .inr (List.all_eq_false.2 ⟨_,Zu hk,by rw [h];simp⟩)
theorem Zn3 {α:Type} [Inhabited α] {f:α->Bool} {l:List α} (h: ∀j,j<l.length->f (nth l j)=true):l.all f=true:=by
 rw [List.all_eq_true];intro r hr;obtain ⟨j,hj,rfl⟩:=List.mem_iff_getElem.1 hr;have:=h j hj;rwa [Zh hj] at this
theorem Zaq (l:List Pln) (c:Bool) (hl:l.length<=1048576) (hw: ∀p∈l,p.wf 1048576) :
  PC 6 [.p (.list c (l.map Zbi))] (.bool (plB l)):=by
 refine Zb Tryz.func6 rfl Zpv ?_;simp (disch:=omega) only [Tryz.f6,go_sem,seval];refine cD ?_ ?_<;>intro h<;>simp (disch:=omega) only [Sh.out h,go_sem,seval]
 ·have:plB l=false:=by rw [plB,decide_eq_false (by omega)];rfl
  rw [this]
 ·refine Zf [0] (fun k:Nat=> [(3,.p (.int .i64 k))]) (fun _=> []) (fun k=>k<=l.length/\ ∀j,j<k->smB (nth l j)=true) (fun k=>l.length-k) 0 (by simp) (Weak.mk ?_) ?_
  ·simp (disch:=omega) only [go_sem,seval]
  ·rintro k ⟨hk,hno⟩;simp (disch:=omega) only [go_sem,seval];refine cD ?_ ?_<;>intro h1<;>simp (disch:=omega) only [Sh.out h1,go_sem,seval]
   ·have hk2:k<l.length:=by omega
    obtain ⟨w1,w2,w3,w4⟩:=hw _ (Zu hk2);have hbad:=ZgP hk2;refine gF ?_ ?_<;>intro h2<;>simp (disch:=omega) only [Sh.out h2,go_sem,seval]
    ·rw [hbad (by rw [smB,decide_eq_false (by omega)];rfl)]
    ·refine cD ?_ ?_<;>intro h3<;>simp (disch:=omega) only [Sh.out h3,go_sem,seval]
     ·rw [hbad (by rw [smB,decide_eq_false (p:=(nth l k).unserved.length<=6) (by omega),Bool.and_false];rfl)]
     ·refine Zf [0,3] (fun q:Nat=> [(4,.p (.int .i64 q))]) (fun _=> []) (fun q=>q<=(nth l k).routes.length/\ ∀j,j<q->rtB (nth (nth l k).routes j)=true) (fun q=>(nth l k).routes.length-q) 0 (by simp) (Weak.mk ?_) ?_
      ·simp (disch:=omega) only [go_sem,seval]
      ·rintro q ⟨hq,hin⟩;simp (disch:=omega) only [go_sem,seval];refine cD ?_ ?_<;>intro h4<;>simp (disch:=omega) only [Sh.out h4,go_sem,seval]
       ·have hq2:q<(nth l k).routes.length:=by omega
        obtain ⟨_,_,u1,_,u2,_⟩:=w2 _ (Zu hq2);have hb2:=Zg8 hq2;refine gF ?_ ?_<;>intro h5<;>simp (disch:=omega) only [Sh.out h5,go_sem,seval]
        ·rw [hbad (hb2 (by rw [rtB,decide_eq_false (by omega)];rfl))]
        ·refine cD ?_ ?_<;>intro h6<;>simp (disch:=omega) only [Sh.out h6,go_sem,seval]
         ·rw [hbad (hb2 (by rw [rtB,decide_eq_false (p:=(nth (nth l k).routes q).rests.length<=9) (by omega),Bool.and_false]))]
         ·exact ⟨q+1,⟨by omega,Zk.2 ⟨hin,by rw [rtB,Bool.and_eq_true,decide_eq_true_eq,decide_eq_true_eq];omega⟩⟩,by omega,wk⟩
       ·have hql:q=(nth l k).routes.length:=by omega
        subst hql
        have hgood:smB (nth l k)=true:=by
         rw [smB,Zn3 hin,Bool.and_true,Bool.and_eq_true,decide_eq_true_eq,decide_eq_true_eq];omega
        exact ⟨k+1,⟨by omega,Zk.2 ⟨hno,hgood⟩⟩,by omega,wk⟩
   ·have hkl:k=l.length:=by omega
    subst hkl
    have:plB l=true:=by rw [plB,Zn3 hno,Bool.and_true,decide_eq_true_eq];omega
    rw [this]
theorem ZgU {x b:Inst} {p:Pln} (h:x.wf 1048576) (h0:Y3 b p=0) (hb:b.types.length<=1048576):(crI x b p).wf 1048576:=by
 obtain ⟨h1,h2,h3,h4,h5,h6,h7,h8,h9⟩:=h;refine ⟨h1,h2,h3,by show (Wb _ _).length<=_;rw [Xv];exact h4,fun o ho=> ?_,h6,h7,h8,h9⟩;obtain ⟨j,hj,rfl⟩:=List.mem_iff_getElem.1 ho
 have hj2:j<x.orders.length:=by simpa [crI,Wb] using hj
 have e:(crI x b p).orders[j]=W4 x b p j:=by rw [<- Zh hj];exact YM hj2
 rw [e];obtain ⟨v,e2,hv⟩:=QM (x:=x) (b:=b) (p:=p) (j:=j);rw [e2];obtain ⟨a1,a2,a3,a4,a5,a6,a7,a8,a9,a10⟩:=h5 _ (Zu hj2);refine ⟨a1,a2,a3,a4,a5,a6,a7,a8,?_,⟨by simp,by simp⟩⟩;rcases hv with rfl | hv
 ·exact a9
 ·have:=hv h0;simp only [I64];omega
theorem Js (x:Inst) (hw:x.wf 1048576):PC 10 [.p (ZW x),.p (ZW x)] (.bool true):=by
 obtain ⟨w1,w2,w3,w4,w5,w6,w7,w8,w9⟩:=hw;exact ZbW x.net x.types x.types x.orders x.apart x.before x.types_c x.orders_c x.apart_c x.before_c x.types_c x.orders_c x.apart_c x.before_c w1 rfl (fun k hk=>⟨⟨_,rfl⟩,(w3 _ (Zu hk)).2.2.2.2.1⟩) w2 w4 (fun o ho=>(w5 o ho).2.1) w6 w8
theorem Zlu : zeroI.wf 1048576:=by
 refine ⟨⟨by simp [zeroI],by simp [zeroI],by simp [zeroI],by simp [zeroI]⟩,by simp [zeroI],by simp [zeroI],by simp [zeroI],by simp [zeroI],by simp [zeroI],by simp [zeroI],by simp [zeroI],by simp [zeroI]⟩
theorem U1 (x b:Inst) (p:Pln) (hx:x.wf 1048576) (hb:b.wf 1048576) (hp:p.wf 1048576) :
  PC 3 [.p (ZW x),.p (ZW b),.p (Zbi p)] (.bool true):=by
 have cpl:=Zaq [p] false (by simp) (fun q hq=>by simp at hq;subst hq;exact hp);have haw:=ZaT;refine UR [] Tryz.func3 rfl ZqF ?_;simp (disch:=omega) only [Tryz.f3,go_sem,seval];refine (Jb x hx 4).useV fun b1 h1=> ?_;simp (disch:=omega) only [go_sem,seval]
 cases b1 with
 | false =>
  simp (disch:=omega) only [Bool.not_false,go_sem,seval];refine (haw).use ?_;simp (disch:=omega) only [go_sem,seval]
 | true =>
  simp (disch:=omega) only [Bool.not_true,go_sem,seval];refine (Jb b hb 4).useV fun b2 h2=> ?_;simp (disch:=omega) only [go_sem,seval]
  cases b2 with
  | false =>
   simp (disch:=omega) only [Bool.not_false,go_sem,seval];refine (haw).use ?_;simp (disch:=omega) only [go_sem,seval]
  | true =>
   simp (disch:=omega) only [Bool.not_true,go_sem,seval];refine ACalls.view (cpl) (by simp [vws,vw,oat,Un]<;>rfl) (by rfl) ?_;simp (disch:=omega) only [go_sem,seval]
   cases hpl:plB [p] with
   | false =>
    simp (disch:=omega) only [Bool.not_false,go_sem,seval];refine (haw).use ?_;simp (disch:=omega) only [go_sem,seval]
   | true =>
    simp (disch:=omega) only [Bool.not_true,go_sem,seval];obtain ⟨x1,x2,x3,x4,hxo⟩:=h1 rfl;obtain ⟨y1,y2,y3,y4,hbo⟩:=h2 rfl;have hv: ∀r∈p.routes,r.visits.length<=1048576:=fun r hr=>(hp.2.1 r hr).2.2.2.2.1;have c1:=Zd4 x b p (by omega) (by omega) (by omega) (by omega) hp.1 hv;have c2:=ZbZ x b p (by omega) (by omega) (by omega) (by omega) hp.1 hv
    by_cases h0:crE x b p=0
    ·have hz:Y3 b p=0:=by rw [crE] at h0;split at h0<;>omega
     have hw2:=ZgU hx hz (show b.types.length<=1048576 by omega);have hok:=ZgZ hxo h0;rw [crT,if_pos h0,h0] at c1 c2;generalize crI x b p=X at c1 c2 hw2 hok;refine Zc4 c1 ?_;simp (disch:=omega) only [go_sem,seval];refine Zc4 c2 ?_;simp (disch:=omega) only [eq_self,decide_true,go_sem,seval];refine (Js X hw2).use ?_;simp (disch:=omega) only [go_sem,seval];refine ((Zde X hw2).frozenE).useV fun m hm=> ?_;simp (disch:=omega) only [go_sem,seval];have hm0:m= []:=hm.emp.2 hok;subst hm0;simp (disch:=omega) only [List.length_nil,List.map_nil,eq_self,decide_true,go_sem,seval]
     refine (haw).use ?_;simp (disch:=omega) only [go_sem,seval]
    ·rw [crT,if_neg h0] at c1 c2;generalize crE x b p=E at c1 c2 h0;refine Zc4 c1 ?_;simp (disch:=omega) only [go_sem,seval];refine Zc4 c2 ?_;simp (disch:=omega) only [eq_self,decide_true,go_sem,seval];refine (Js zeroI Zlu).use ?_;simp (disch:=omega) only [go_sem,seval];simp (disch:=omega) only [h0,not_false_eq_true,decide_true,go_sem,seval];refine (haw).use ?_;simp (disch:=omega) only [go_sem,seval]
end Go.Proofs.YtgknhiknjimdpaaGreatDoor.K
