/- Declarations that the closing texts need, part 16: joined by tools/slim.py. -/
import Derived.Test.YtenjikkmmibffaaGreatDoorH15
import Derived.Shelf.SlSortCmp.NoneTotal
set_option linter.unusedVariables false
set_option linter.unusedSimpArgs false
namespace Go.AM
open Go.RowKit Go.Shelf Go.Lib Go.Sort Go.Proofs
theorem lP {W w':World} {H':List AM.Obj} {ι':List (Option Nat)} (g:Good Bi [] [] W H' ι' w'): ∃q os',w'=grow (W.drewN q) os':=by
 refine ⟨w'.drawn-W.drawn,w'.heap.extract W.heap.size w'.heap.size,?_⟩
 have h1:w'.heap=W.heap++w'.heap.extract W.heap.size w'.heap.size:=by
  apply Array.ext_getElem?;intro i
  by_cases hi:i<W.heap.size
  ·rw [DT hi];exact g.keep i hi Zb
  ·rw [Array.getElem?_append_right Za];have:=g.size;rw [Array.getElem?_extract]
   split
   ·congr 1;omega
   ·rw [Array.getElem?_eq_none Za]
 have h2:W.drawn<=w'.drawn:=g.tape.2.resolve_right fun h=>h;have h3:=g.tape.1;have h4:=g.os;have h5:=g.output
 cases w'
 simp only [grow,World.drewN] at *
 congr 1
 omega
def RF (c:Array Value) (k i:Nat):List Value:=(List.range k).map fun j=>c.getD (i*k+j) undef
theorem GL (c k i):(RF c k i).length=k:=by simp [RF]
theorem Dg {c k i j} (h:j<k):(RF c k i)[j]! =c.getD (i*k+j) undef:=by
 rw [List.getElem!_eq_getElem?_getD,RF,Xs,List.getElem?_range h];rfl
theorem ACalls.sortFunc {P : Program} {ρ : Ren} (L : SlLaysF0.n6 P ρ) (hg : Zj P (ρ.f 6)) (k : Nat) (aE : ∀ w, (isAgg (ρ.t 24)).run P w = .ok true w) (zE : ∀ w, (Go.sizeOf (ρ.t 24)).run P w = .ok k w)
    {β : Type} [Inhabited β] (f : β -> PV) (hf : ∀ x, ∃ cs, f x = .agg cs /\ cs.length = k /\ cs.all (·.one) = true) (cf : β -> β -> Int) (hO : SWO (ltOf cf)) (g : FuncId)
    (hcmp : ∀ x y, ACalls P g [.p (f x), .p (f y)] [] fun r H' => r = .p (.int .i64 (cf x y)) /\ H' = []) (xs : List β) (hlen : xs.length < 4611686018427387904) {H : List AM.Obj} {o : Nat} (hHo : H[o]? = some (.elems k (xs.map f))) :
    ACalls P (ρ.f 6) [.sl o 0 xs.length xs.length, .fn (.func g) [] []] H fun y H' => y = .tup [] /\ ∃ ys : List β, ys.Perm xs /\ ys.Pairwise (fun a b => ¬ cf b a < 0) /\ H' = H.set o (.elems k (ys.map f)) := by
  refine ⟨hg, fun F ι w vs hr hv => ?_⟩;obtain ⟨hv1, hv2⟩ := hv;have h0 := hv2 0 _ rfl;have h1 := hv2 1 _ rfl
  have hvs : vs = #[vs.getD 0 undef, vs.getD 1 undef] := by
    apply Array.ext
    · simpa using hv1
    · intro i h2 h3
      have : i = 0 \/ i = 1 := by simp at hv1; omega
      rcases this with rfl | rfl <;> simp [Array.getD, h2]
  rw [hvs];generalize vs.getD 0 undef = v0 at h0 ⊢;generalize vs.getD 1 undef = v1 at h1 ⊢;clear hvs hv1 hv2
  cases h1 with | fn _ _ _ a e hs ht _ _ =>
  have ea : a = #[] := E8 (by simpa using hs);have ee : e = #[] := E8 (by simpa using ht);subst ea; subst ee;generalize hL : xs.length = n at h0 hlen
  by_cases hz : n = 0
  · subst hz
    obtain rfl : xs = [] := List.length_eq_zero_iff.1 hL
    have e1 : H.set o (.elems k (([] : List β).map f)) = H := by
      apply Kb;intro i;rw [Jm]
      split
      · rename_i hi; subst hi; rw [hHo]; simp [(ZT.1 hHo).1]
      · rfl
    obtain ⟨ad, cap, rfl⟩ : ∃ ad cap, v0 = .slice ad 0 cap := by
      cases h0 with
      | slNil => exact ⟨_, _, rfl⟩
      | sl => exact ⟨_, _, rfl⟩
      | slD _ _ _ _ _ hd => rw [hHo] at hd; cases hd
      | slS _ _ _ _ _ S2 xs2 hd hne => rw [hHo] at hd; simp at hd; obtain ⟨_, rfl⟩ := hd; simp at hne
      | slC _ _ _ _ _ _ hd => rw [hHo] at hd; cases hd
    refine (AnyF.slices_SortFunc_none L ad cap _ w).mono ?_;rintro e w' ⟨rfl, rfl⟩;exact ⟨.tup [], _, ι, _, rfl, ⟨rfl, [], .refl _, .nil, e1.symm⟩, Good.refl hr, .tup [] #[] Zb Zb⟩
  have hn : 0 < n := Za
  cases h0 with
  | slNil => omega
  | slD _ _ _ _ _ hd => rw [hHo] at hd; cases hd
  | slS _ _ _ _ _ S ys hd hlt => rw [hHo] at hd; simp at hd; obtain ⟨_, rfl⟩ := hd; simp at hlt; omega
  | slC _ _ _ _ _ _ hd => rw [hHo] at hd; cases hd
  | sl _ _ _ _ b S cap t ys c hι hH ht2 hw hcap hl hle hm =>
  rw [hHo] at hH;simp at hH;obtain ⟨rfl, rfl⟩ := hH;rcases hr.elm o k (xs.map f) hHo with ⟨e1, _⟩ | ⟨b2, c2, t2, cap2, e1, e2, e3, e4, e5, e6, e7⟩
  · rw [hι] at e1; cases e1
  rw [hι] at e1;simp at e1; subst e1;rw [hw] at e2;simp at e2;obtain ⟨rfl, rfl⟩ := e2;have hbs : b < w.heap.size := (hr.avo o b hι).2;have hbF : ¬ F b := (hr.avo o b hι).1
  -- an index, made one that there is
  let ix : Nat -> Nat := fun i => if i < n then i else 0
  have hix : ∀ i, ix i < n := fun i => by simp only [ix]; split <;> omega
  have hixe : ∀ i, i < n -> ix i = i := fun i hi => by simp only [ix]; rw [if_pos hi]
  let enc : Nat -> List Value := fun i => RF c k (ix i)
  have hk : ∀ x, (enc x).length = k := fun x => GL _ _ _
  -- one cell of an element
  have cell : ∀ i, i < n -> ∃ cs, f (nth xs i) = .agg cs /\ cs.length = k /\ ∀ (j : Nat) (y : PV), cs[j]? = some y -> y.one = true /\ RP (Own F ι) w y (c.getD (i * k + j) undef) := fun i hi => by
    obtain ⟨cs, q1, q2, q3⟩ := hf (nth xs i);refine ⟨cs, q1, q2, fun j y hj => ⟨Zx.1 q3 y (XG hj), ?_⟩⟩;refine e7 i (f (nth xs i)) j y ?_ (by rw [q1]; exact hj);rw [Xs, Kl Za, Zh Za]; rfl
  have one : ∀ x, ∀ v ∈ enc x, v.oneCell' = true := fun x v hv => by
    obtain ⟨j, hj, rfl⟩ := ZN.1 hv
    have hjk : j < k := by rw [hk] at hj; exact hj
    obtain ⟨cs, q1, q2, q3⟩ := cell (ix x) (hix x);have hg := q3 j (cs[j]'(Za)) Zb
    have e9 : (enc x)[j] = c.getD (ix x * k + j) undef := by
      have := Dg (c := c) (i := ix x) hjk;rw [List.getElem!_eq_getElem?_getD, Kl (by rw [GL]; exact hjk)] at this;exact this
    rw [e9];exact hg.2.oneCell hg.1
  let d : Array Nat := Array.range n
  have hd : d.size = n := by simp [d]
  let cf' : Nat -> Nat -> Int := fun i j => cf (nth xs (ix i)) (nth xs (ix j))
  have hO' : SWO (ltOf cf') := ⟨fun x => hO.irrefl _, fun x y z h1 h2 => hO.trans _ _ _ h1 h2, fun x y z h1 h2 => hO.ntrans _ _ _ h1 h2⟩
  have hsz : n * k <= c.size := by
    rw [e3]; exact Yz k (by simpa [hL] using e4)
  have hcell : ∀ j, j < c.size -> w.cell? ⟨b, j, none⟩ = some (c.getD j undef) := fun j hj => by
    simp [World.cell?, hw, hj]
  have hHolds : HoldsK enc k w b (0 * k) d := fun j hj => by
    have hj2 : j < n * k := by simpa [hd] using hj
    have k0 : 0 < k := by rcases Nat.eq_zero_or_pos k with h | h; · subst h; simp at hj2
                          · exact h
    rw [get_flatK enc k d j (by rw [hd]; exact hj2)];have hdj : j / k < n := Nat.div_lt_of_lt_mul (by rw [AY]; exact hj2)
    have hde : d[j / k]! = j / k := by simp [d, hdj]
    rw [hde]
    have e9 : (enc (j / k))[j % k]! = c.getD j undef := by
      show (RF c k (ix (j / k)))[j % k]! = _
      rw [hixe _ hdj, Dg (Nat.mod_lt _ k0), Nat.div_add_mod']
    rw [e9, Nat.zero_mul, Xt];exact ⟨hcell j Za, by simp [World.frozen?, hw]⟩
  have hcmp' : CmpLays P g #[] enc k cf' b (0 * k) d.size w := fun m os dk hdk x y => by
    generalize hW : sortWorldK enc k w b (0 * k) m dk os = W
    have hKeep : Keeps (Own F ι) w Bi W := fun b' hb' hs' => by
      have hne : b' ≠ b := fun e => hb' (.inr (e ▸ XG hι));refine ⟨fun h => h, ?_, ?_⟩
      · rw [<- hW]; simp [sortWorldK, grow, putRowK, putRow, mapBlock, ahead]; omega
      · rw [<- hW]
        simp only [sortWorldK, grow, putRowK, putRow, mapBlock, ahead];rw [DT (by simpa using hs'), Fc, if_neg (fun e => hne e.symm)]
        rfl
    have heW : Env Bi [] W := (hr.env.of (w' := W) (ι' := ι) (by rw [<- hW]; simp [sortWorldK, grow, putRowK, putRow, mapBlock, ahead]) (fun b' hb' hni => by
      have hne : b' ≠ b := fun e => hni (e ▸ XG hι);rw [<- hW];simp only [sortWorldK, grow, putRowK, putRow, mapBlock, ahead];rw [DT (by simpa using hb'), Fc, if_neg (fun e => hne e.symm)]
      rfl) (fun _ _ h => h)).noth
    have arg : ∀ i, RV Bi [] [] W (.p (f (nth xs (ix i)))) (.agg (enc i).toArray) := fun i => by
      obtain ⟨cs, q1, q2, q3⟩ := cell (ix i) (hix i);refine .p _ _ ?_;rw [q1]
      refine (RP.agg cs (enc i).toArray (by simp [hk, q2]) fun j y hj => ?_ : RP Bi W _ _).weaker fun b hb => by
        rcases hb with hb | hb
        · exact hb
        · simp at hb
      have hjk : j < k := by rw [<- q2]; exact (ZT.1 hj).1
      have e9 : (enc i).toArray.getD j undef = c.getD (ix i * k + j) undef := by
        have := Dg (c := c) (i := ix i) hjk;rw [List.getElem!_eq_getElem?_getD, Kl (by rw [GL]; exact hjk)] at this;simp only [XK, CR];rw [Kl (by rw [hk]; exact hjk), Kc];rw [Kc] at this;simpa only [XK] using this
      rw [e9];exact (q3 j y hj).2.ext hKeep
    refine ((hcmp (nth xs (ix x)) (nth xs (ix y))).2 Bi [] W _ (GO heW) ⟨rfl, fun j q hj => ?_⟩).mono ?_
    · cases j with
      | zero => simp at hj; subst hj; exact arg x
      | succ j => cases j with
        | zero => simp at hj; subst hj; exact arg y
        | succ j => simp at hj
    · rintro e' w' ⟨x', H', ι', v, rfl, ⟨rfl, rfl⟩, gd, rv⟩
      cases rv with | p _ _ rp =>
      rw [rp.int_inv];exact ⟨rfl, lP gd⟩
  have eg := (hcmp default default).1;have main := AnyQ.slices_SortFunc L k aE zE enc hk one cf' hO' g #[] b (0 * k) cap d w (fun args w => eg args w) hcmp' hHolds hbs (by rw [hd]; exact hlen);rw [hd] at main;refine main.mono ?_;rintro e' w' ⟨rfl, d', m, os, hp, hso, rfl⟩;obtain ⟨p1, _, p3⟩ := hp;rw [hd] at p1
  have hperm : d'.toList.Perm (List.range n) := by
    have e8 : (d'.extract 0 n).toList = d'.toList := by rw [<- p1]; simp
    have e9 : (d.extract 0 n).toList = List.range n := by
      have : d.extract 0 n = d := by rw [<- hd]; simp
      rw [this]; simp [d]
    rw [e8, e9] at p3; exact p3
  have hlt : ∀ i ∈ d'.toList, i < n := fun i hi => by simpa using hperm.mem_iff.1 hi
  have hlt2 : ∀ i, i < n -> d'.toList[i]?.isSome = true := fun i hi => by simp [p1, hi]
  have hget : ∀ i (hi : i < n), d'[i]! = d'.toList[i]'(by simp [p1, hi]) := fun i hi => by
    rw [getElem!_pos d' i Za]; simp
  let ys : List β := d'.toList.map (nth xs)
  have hyl : ys.length = n := by simp [ys, p1]
  have hys : ∀ i (hi : i < n), ys[i]'(Za) = nth xs d'[i]! := fun i hi => by
    simp only [ys, List.getElem_map]; rw [hget i hi]
  have hdl : ∀ i, i < n -> d'[i]! < n := fun i hi => by rw [hget i hi]; exact hlt _ (QS _)
  have yperm : ys.Perm xs := by
    have h9 : (List.range n).map (nth xs) = xs := by
      refine Jo (by simp [hL]) fun i h1 h2 => ?_;simp only [List.getElem_map, List.getElem_range];rw [Zh h2]
    have := hperm.map (nth xs);rw [h9] at this; exact this
  have ysort : ys.Pairwise fun a b => ¬ cf b a < 0 := by
    rw [VP];intro i j hi hj hij;rw [hys i Za, hys j Za];have h9 := hso i j (Kh _) hij Za;simp only [ltOf, cf', XX] at h9;rwa [hixe _ (hdl j Za), hixe _ (hdl i Za)] at h9
  let c' : Array Value := putCells id (0 * k) (flatK enc k d') c
  have hcs : c'.size = c.size := by simp [c', putCells]
  have hat : (sortWorldK enc k w b (0 * k) m d' os).heap[b]? = some (.cells c' t (0, 0)) := by
    simp only [sortWorldK, grow, putRowK, putRow, mapBlock, ahead];rw [DT (by simpa using hbs), Fc, if_pos rfl]
    show Option.map _ w.heap[b]? = _
    rw [hw]; rfl
  have hoth : ∀ q, q < w.heap.size -> q ≠ b -> (sortWorldK enc k w b (0 * k) m d' os).heap[q]? = w.heap[q]? := fun q hq hne => by
    simp only [sortWorldK, grow, putRowK, putRow, mapBlock, ahead];rw [DT (by simpa using hq), Fc, if_neg (fun e => hne e.symm)]
    rfl
  have hc' : ∀ i j, i < n -> j < k -> c'.getD (i * k + j) undef = c.getD (d'[i]! * k + j) undef := fun i j hi hj => by
    have hb1 : i * k + j < n * k := by
      have := Yz k (show i + 1 <= n from hi);rw [XT, WY] at this; omega
    have e8 : (flatK enc k d')[i * k + j]! = c.getD (d'[i]! * k + j) undef := by
      rw [get_flatK enc k d' _ (by rw [p1]; exact hb1)]
      have q1 : (i * k + j) / k = i := by rw [AY, Nat.mul_add_div Za, QT hj]; omega
      have q2 : (i * k + j) % k = j := by rw [AY, Nat.mul_add_mod, CW hj]
      rw [q1, q2]
      show (RF c k (ix d'[i]!))[j]! = _
      rw [Dg hj, hixe _ (hdl i hi)]
    have e9 : c'[i * k + j]? = some ((flatK enc k d')[i * k + j]!) := by
      simp only [c', putCells, Array.getElem?_mapIdx];rw [Array.getElem?_eq_getElem Za];simp only [AS, Nat.zero_mul, Kh, true_and, Xt, size_flatK, p1, hb1, if_true, Nat.sub_zero, id]
    rw [XK, e9, Kc, e8]
  have good := YP (w' := sortWorldK enc k w b (0 * k) m d' os) (c := c') (t := t) (xs' := ys.map f) (cap := cap2) (b' := b) hr (o := o) (S := k) (xs := xs.map f) hHo rfl (Tp.of rfl (by simp [sortWorldK, grow, putRowK, putRow, mapBlock, ahead])) rfl
    (fun c0 t0 h => by rw [hw] at h; simp at h; obtain ⟨rfl, rfl⟩ := h; exact ⟨rfl, hcs⟩) (by simp [sortWorldK, grow, putRowK, putRow, mapBlock, ahead]) hat hoth (.inl ⟨hι, .inl ⟨by simp [hyl, hL], fun c0 t0 h => by rw [hw] at h; simp at h; obtain ⟨rfl, rfl⟩ := h; exact ⟨rfl, hcs⟩⟩⟩)
    (by rw [hcs]; exact e3) (by simp only [Z2, hyl]; simpa [hL] using e4) e5
    (fun i x hi => by
      rw [Xs, ZV] at hi;obtain ⟨y, _, rfl⟩ := hi;obtain ⟨cs, q1, q2, _⟩ := hf y
      rw [q1]; exact q2)
    (fun i x j y hi hj => by
      rw [Xs, ZV] at hi;obtain ⟨z, hz, rfl⟩ := hi
      have hin : i < n := by have := (ZT.1 hz).1; omega
      have e8 : z = nth xs d'[i]! := by
        obtain ⟨h9, h10⟩ := ZT.1 hz;rw [<- h10]; exact hys i hin
      obtain ⟨cs, q1, q2, q3⟩ := cell _ (hdl i hin);rw [e8, q1] at hj
      have hjk : j < k := by rw [<- q2]; exact (ZT.1 hj).1
      rw [hc' i j hin hjk]
      exact (q3 j y hj).2)
  have ZS : ι.set o (some b) = ι := by
    refine Kb fun i => ?_;rw [Jm]
    split
    · rename_i e; subst e
      have := (ZT.1 hι).1;rw [if_pos this, hι]
    · rfl
  rw [ZS] at good;exact ⟨.tup [], _, ι, .tuple #[], rfl, ⟨rfl, ys, yperm, ysort, rfl⟩, good, .tup [] #[] rfl (fun j c hj => by simp at hj)⟩
end Go.AM
namespace Go.Proofs.YtenjikkmmibffaaGreatDoor.K
open Go Go.AM Go.Proofs
set_option maxRecDepth 8000
set_option maxHeartbeats 8000000
deriving instance DecidableEq for Itm
theorem K2 {v w:Itm} :v=w↔v.kind=w.kind/\v.a=w.a:=by cases v;cases w;simp
def KH (a b:Itm):Int:=if Y5 a.kind b.kind=0 then Y5 a.a b.a else Y5 a.kind b.kind
theorem Ns (a b:Itm):PC 66 [.p (YL a),.p (YL b)] (.int .i64 (KH a b)):=by
 refine Ze Tryz.func66 rfl ZjZ ?_;simp (disch:=omega) only [Tryz.f66,go_sem,seval];refine Xq (Zc ?_);refine Zo (Ev a.kind b.kind) (Zc ?_);refine Zo (Ev a.a b.a) (Zc ?_);refine Zo (vL [Y5 a.kind b.kind,Y5 a.a b.a] false Zb) (Zc ?_);rw [Fq,KH]
theorem Zge (a b:Itm):PC 71 [.p (YL a),.p (YL b)] (.bool (decide (KH a b<0))):=by
 refine Ze Tryz.func71 rfl Zj1 ?_;simp (disch:=omega) only [Tryz.f71,go_sem,seval]
 repeat' (first | (refine VE (fun hq=> ?_) (fun hq=> ?_)<;>(try simp only [Zs,XX,Z3] at hq)<;>simp (disch:=omega) only [Sh.out hq,go_sem,seval]) | (refine Up (fun hq=> ?_) (fun hq=> ?_)<;>(try simp only [Zs,XX,Z3] at hq)<;>simp (disch:=omega) only [Sh.out hq,go_sem,seval]) | (refine U0 (fun hq=> ?_) (fun hq=> ?_)<;>(try simp only [Zs,XX,Z3] at hq)<;>simp (disch:=omega) only [Sh.out hq,go_sem,seval]))
 ·have:KH a b<0:=by simp [KH,Y5,hq]
  simp [this]
 ·rename_i h1
  have:KH a b=Y5 a.a b.a:=by simp [KH,Y5,hq]
  rw [this]
  by_cases h2:a.a<b.a
  ·simp [Y5,h2]
  ·by_cases h3:b.a<a.a<;>simp [Y5,h2,h3]
 ·rename_i h1
  have h2:b.kind<a.kind:=Za
  have: ¬KH a b<0:=by simp [KH,Y5,h1,h2]
  simp [this]
def Mh (x:Inst) (o:Int):Bool:=decide (o<0)||decide ((x.orders.length:Int)<=o)||(nth x.orders o.toNat).off
theorem Mg (x:Inst) (o:Int) (hl:x.orders.length<=1048576):PC 64 [.p (Zv x),.p (.int .i64 o)] (.bool (Mh x o)):=by
 refine Ze Tryz.func64 rfl ZjX ?_;simp (disch:=omega) only [Tryz.f64,go_sem,seval];refine gF ?_ ?_<;>intro h<;>simp (disch:=omega) only [Sh.out h,go_sem,seval,↓reduceIte]
 ·simp [Mh,h]
 ·refine gF ?_ ?_<;>intro h2<;>simp (disch:=omega) only [Sh.out h2,go_sem,seval,↓reduceIte]
  ·simp [Mh,h2]
  grind [Mh]
def mF (x:Inst) (i:Nat):List Itm:=if (nth x.orders i).off=true then [] else
 (if (nth x.orders i).pick.place≠ -1 then [⟨1,i⟩] else [])++(if (nth x.orders i).drp.place≠ -1 then [⟨2,i⟩] else [])++(if (nth x.orders i).skills≠0 then [⟨4,i⟩] else [])++(if (nth x.orders i).penalty= -1 then [⟨10,i⟩] else [])
def DQ (x:Inst) (k:Nat):List Itm:=(List.range k).flatMap (mF x)
theorem Ih (x k):DQ x (k+1)=DQ x k++mF x k:=by simp [DQ,X6]
theorem uM (x i):(mF x i).length<=4:=by
 unfold mF
 split
 ·simp
 ·simp only [ZJ]
  grind
theorem CG (x): ∀k,(DQ x k).length<=4*k
 | 0=>by simp [DQ]
 | k+1=>by
  have h1:=CG x k;have h2:=uM x k;rw [Ih,ZJ];omega
def hO (x:Inst) (m:List Itm) (i:Nat):List AM.Obj:= [Zi x,.cells [.sl 2 0 m.length m.length],.elems 2 (m.map YL),.cells [.p (.int .i64 (i:Nat))]]
theorem E2 (x:Inst) (m:List Itm) (i:Nat) (has:Bool) (kind:Int) (hm:m.length<=1048576):ACalls Tryz.prog 95 [.p (.bool has),.p (.int .i64 kind),.ptr 1 0,.ptr 3 0] (hO x m i) fun y H'=>y= .tup []/\H'=hO x (if has=true then m++ [⟨kind,i⟩] else m) i:=by
 refine Zf [] Tryz.func95 rfl Zkl ?_
 cases has with
 | true =>
  simp (disch:=omega) only [Tryz.f95,hO,Zi,go_sem,seval];exact ⟨.tup [],hO x (m++ [⟨kind,i⟩]) i,Weak.mk (by simp (disch:=omega) only [hO,Zi,go_sem,seval]),rfl,by simp [hO,Zi,YL]⟩
 | false =>
  simp (disch:=omega) only [Tryz.f95,hO,Zi,go_sem,seval];exact ⟨.tup [],hO x m i,Weak.mk (by simp (disch:=omega) only [hO,Zi,go_sem,seval]),rfl,by rfl⟩
theorem Mf (x:Inst) (hl:x.orders.length<=1000):ACalls Tryz.prog 63 [.p (Zv x)] [] fun y H'=> ∃m:List Itm,m=DQ x x.orders.length/\y= .sl 0 0 m.length m.length/\H'= [.elems 2 (m.map YL)]:=by
 refine ZX [2] Tryz.func63 rfl ZjW ?_;simp (disch:=omega) only [Tryz.f63,go_sem,seval];refine Zq (Weak.nilC (o:=1) (j:=0) 2 rfl rfl Zb) ?_;refine Zg [] _ _ _ _ ?_;simp (disch:=omega) only [Xa,Z1,ZO,ZD,go_sem,seval];refine Zk [3,8,9] (fun q:Nat×List Itm=> [(10,.p (.int .i64 q.1))]) (fun q=> [Zi x,.cells [.sl 2 0 q.2.length q.2.length],.elems 2 (q.2.map YL)]) (fun q=>q.1<=x.orders.length/\q.2=DQ x q.1) (fun q=>x.orders.length-q.1) (0,[]) ⟨Zb,by simp [DQ]⟩ (Weak.mk ?_) ?_
 ·simp (disch:=omega) only [Zi,go_sem,seval]
 ·rintro ⟨i,m⟩ ⟨hi,hm⟩;simp only at hi hm
  have hml:m.length<=4*i:=by grind [CG]
  have hsc:=Ih x i;refine Yl ?_;refine cD ?_ ?_<;>intro h<;>simp (disch:=omega) only [Sh.out h,go_sem,seval,↓reduceIte]
  ·have hi2:i<x.orders.length:=Za
   refine ZK ?_ ?_<;>intro h2
   ·exact ⟨(i+1,m),⟨Za,by simp_all [mF]⟩,Za,wk⟩
   ·have c1:=E2 x m i (decide ((nth x.orders i).pick.place≠ -1)) 1 Za
    have ifl: ∀ {c:Prop} [Decidable c] (m:List Itm) (v:Itm),(if decide c=true then m++ [v] else m)=m++(if c then [v] else []):=fun {c} _ m v=>by grind
    have ifn: ∀ {c:Prop} [Decidable c] (v:Itm),(if c then [v] else []).length<=1:=fun {c} _ v=>by grind
    rw [ifl] at c1;refine c1.useP (L:= [_]) (by rfl) ?_ (by rfl) (by rfl);have n1:=ifn (c:=(nth x.orders i).pick.place≠ -1) ⟨1,i⟩;have n2:=ifn (c:=(nth x.orders i).drp.place≠ -1) ⟨2,i⟩;have n3:=ifn (c:=(nth x.orders i).skills≠0) ⟨4,i⟩;have n4:=ifn (c:=(nth x.orders i).penalty= -1) ⟨10,i⟩
    have hit:mF x i=(if (nth x.orders i).pick.place≠ -1 then [⟨1,i⟩] else [])++(if (nth x.orders i).drp.place≠ -1 then [⟨2,i⟩] else [])++(if (nth x.orders i).skills≠0 then [⟨4,i⟩] else [])++(if (nth x.orders i).penalty= -1 then [⟨10,i⟩] else []):=by simp_all [mF]
    generalize hA:(if (nth x.orders i).pick.place≠ -1 then [(⟨1,i⟩:Itm)] else [])=A at hit n1 c1 ⊢;have c2:=E2 x (m++A) i (decide ((nth x.orders i).drp.place≠ -1)) 2 (by simp;omega);rw [ifl] at c2;generalize (if (nth x.orders i).drp.place≠ -1 then [(⟨2,i⟩:Itm)] else [])=B at hit n2 c2;have c3:=E2 x (m++A++B) i (decide ((nth x.orders i).skills≠0)) 4 (by simp;omega);rw [ifl] at c3;generalize (if (nth x.orders i).skills≠0 then [(⟨4,i⟩:Itm)] else [])=C at hit n3 c3;have c4:=E2 x (m++A++B++C) i (decide ((nth x.orders i).penalty= -1)) 10 (by simp;omega)
    rw [ifl] at c4;generalize (if (nth x.orders i).penalty= -1 then [(⟨10,i⟩:Itm)] else [])=D at hit n4 c4;generalize hm1:m++A=m1 at c2 c3 c4 ⊢;generalize hm2:m1++B=m2 at c2 c3 c4 ⊢;generalize hm3:m2++C=m3 at c3 c4 ⊢;generalize hm4:m3++D=m4 at c4;simp (disch:=omega) only [hO,Zi,go_sem,seval];refine c2.useP (L:= [_]) (by rfl) ?_ (by rfl) (by rfl);simp (disch:=omega) only [hO,Zi,go_sem,seval];refine c3.useP (L:= [_]) (by rfl) ?_ (by rfl) (by rfl);simp (disch:=omega) only [hO,Zi,go_sem,seval];refine c4.useP (L:= [_]) (by rfl) ?_ (by rfl) (by rfl);simp (disch:=omega) only [hO,Zi,go_sem,seval];refine ⟨(i+1,m4),⟨Za,?_⟩,Za,wk⟩
    grind
  ·have hin:i=x.orders.length:=Za
   subst hin;exact ⟨m,hm,2,by simp (disch:=omega) only [go_sem,seval]⟩
def mG (k:Nat):List Itm:=(List.range k).flatMap fun (i:Nat)=> [⟨3,i⟩,⟨7,i⟩,⟨8,i⟩,⟨9,i⟩]
def HC (x:Inst) (i:Nat):List Itm:=if (!Mh x (nth x.apart i).1&& !Mh x (nth x.apart i).2)=true then [⟨5,i⟩] else []
def mD (x:Inst) (k:Nat):List Itm:=(List.range k).flatMap (HC x)
def LY (x:Inst) (i:Nat):List Itm:=if (!Mh x (nth x.before i).2)=true then [⟨6,i⟩] else []
def mE (x:Inst) (k:Nat):List Itm:=(List.range k).flatMap (LY x)
def Mk (x:Inst):List Itm:=DQ x x.orders.length++mG x.types.length++mD x x.apart.length++mE x x.before.length
theorem NU (k):mG (k+1)=mG k++ [⟨3,k⟩,⟨7,k⟩,⟨8,k⟩,⟨9,k⟩]:=by simp [mG,X6]
theorem CF (x k):mD x (k+1)=mD x k++HC x k:=by simp [mD,X6]
theorem Gm (x k):mE x (k+1)=mE x k++LY x k:=by simp [mE,X6]
theorem L3 : ∀k,(mG k).length=4*k
 | 0=>by simp [mG]
 | k+1=>by rw [NU,ZJ,L3 k];simp;omega
theorem LX (x): ∀k,(mD x k).length<=k
 | 0=>by simp [mD]
 | k+1=>by
  have h1:=LX x k
  have h2:(HC x k).length<=1:=by unfold HC;split<;>simp
  rw [CF,ZJ];omega
theorem LZ (x): ∀k,(mE x k).length<=k
 | 0=>by simp [mE]
 | k+1=>by
  have h1:=LZ x k
  have h2:(LY x k).length<=1:=by unfold LY;split<;>simp
  rw [Gm,ZJ];omega
theorem J1 {a b:Itm} :KH a b<0↔a.kind<b.kind\/(a.kind=b.kind/\a.a<b.a):=by
 grind [KH,HV,sZ]
theorem jL : Go.Sort.SWO (ltOf KH) where
 irrefl x:=by grind [ltOf,J1]
 trans x y z h1 h2:=by simp only [ltOf,Zs,J1] at *;omega
 ntrans x y z h1 h2:=by grind [ltOf,J1]
theorem OU (xs:List Itm) (hne:xs≠ []) (hl:xs.length<=1048576) {H:List AM.Obj} {o:Nat} (hH:H[o]? =some (.elems 2 (xs.map YL))) :
  ACalls Tryz.prog 65 [.sl o 0 xs.length xs.length,.fn (.func 66) [] []] H fun y H'=>y= .tup []/\ ∃ys:List Itm,ys.Perm xs/\ys.Pairwise (fun a b=> ¬KH b a<0)/\H'=H.set o (.elems 2 (ys.map YL)) :=
 ACalls.sortFunc eW ZjY 2 Tryz.isAgg32 Tryz.sizeOf32 YL (fun x=>⟨_,rfl,rfl,rfl⟩) KH jL 66 Ns xs Za hH
theorem Al {P Q:Prop} (h:Q) (e:Q->P:=by intro h;simp (disch:=omega) only [Xa,Z1,go_sem,seval];exact h):P:=e h
theorem bY (x:Inst) (ho:x.orders.length<=1000) (ht:0<x.types.length/\x.types.length<=1000) (ha:x.apart.length<=1000) (hb:x.before.length<=1000):ACalls Tryz.prog 35 [.p (Zv x)] [] fun y H'=> ∃m:List Itm,(m.Perm (Mk x)/\m.Pairwise (fun a b=> ¬KH b a<0))/\y= .sl 0 0 m.length m.length/\H'= [.elems 2 (m.map YL)]:=by
 refine ZX [] Tryz.func35 rfl Zjz ?_;simp (disch:=omega) only [Tryz.f35,go_sem,seval];obtain ⟨os,hos⟩: ∃os,os=DQ x x.orders.length:=⟨_,rfl⟩;have hosl:=CG x x.orders.length;rw [<- hos] at hosl;refine ACalls.useF (S:=2) (n:=os.length) (xs:=os.map YL) ((Mf x ho).mono fun y H' ⟨m,hm,h1,h2⟩=>by grind) (Zc ?_);obtain ⟨ks,hks⟩: ∃ks:List Int,ks= [3,7,8,9]:=⟨_,rfl⟩
 have hkl:ks.length=4:=by rw [hks];rfl
 have hke:(ks.map eI).length=ks.length:=Zb
 refine Zk [1,15] (fun q:Nat×List Itm=> [(3,.sl 1 0 q.2.length q.2.length),(16,.p (.int .i64 q.1))]) (fun q=> [Zi x,.elems 2 (q.2.map YL)]) (fun q=>q.1<=x.types.length/\q.2=os++mG q.1) (fun q=>x.types.length-q.1) (0,os) ⟨Zb,by simp [mG]⟩ (Weak.mk ?_) ?_
 ·simp (disch:=omega) only [Zi,go_sem,seval]
 ·rintro ⟨i,m⟩ ⟨hi,hm⟩;simp only at hi hm
  have hml:m.length=os.length+4*i:=by grind [L3]
  refine Yl ?_;refine cD ?_ ?_<;>intro h<;>simp (disch:=omega) only [Sh.out h,go_sem,seval,↓reduceIte]
  ·have hi2:i<x.types.length:=Za
   refine Zk [1,4,15,16,20] (fun q:Nat×List Itm=> [(3,.sl 1 0 q.2.length q.2.length),(19,.sl 2 0 ks.length ks.length),(21,.p (.int .i64 q.1))]) (fun q=> [Zi x,.elems 2 (q.2.map YL),.elems 1 (ks.map eI)]) (fun q=>q.1<=4/\q.2=m++(ks.take q.1).map fun c=>(⟨c,i⟩:Itm)) (fun q=>4-q.1) (0,m) ⟨Zb,Zb⟩ (Weak.mk ?_) ?_
   ·rw [hks];simp (disch:=omega) only [Zi,Zr,Zn,ZC,ZG,go_sem,seval]
   ·rintro ⟨k,m2⟩ ⟨hk,hm2⟩;simp only at hk hm2
    have hm2l:m2.length=m.length+k:=by grind
    refine Yl ?_;refine cD ?_ ?_<;>intro h2<;>simp (disch:=omega) only [Sh.out h2,U4,go_sem,seval]
    ·have hk2:k<ks.length:=Za
     have htk:ks.take (k+1)=ks.take k++ [nth ks k]:=by rw [XZ hk2,Zh hk2]
     simp (disch:=omega) only [hk2,go_sem,seval];exact ⟨(k+1,m2++ [⟨nth ks k,i⟩]),⟨Za,by grind⟩,Za,wk⟩
    ·have hk4:k=4:=Za
     subst hk4;refine ⟨(i+1,m2),⟨Za,?_⟩,Za,wk⟩
     simp_all [NU]
  ·have hin:i=x.types.length:=Za
   subst hin;clear hi h;refine Zk [1,34,35] (fun q:Nat×List Itm=> [(3,.sl 1 0 q.2.length q.2.length),(36,.p (.int .i64 q.1))]) (fun q=> [Zi x,.elems 2 (q.2.map YL)]) (fun q=>q.1<=x.apart.length/\q.2=m++mD x q.1) (fun q=>x.apart.length-q.1) (0,m) ⟨Zb,by simp [mD]⟩ (Weak.mk ?_) ?_
   ·simp (disch:=omega) only [Zi,go_sem,seval]
   ·rintro ⟨i,m2⟩ ⟨hi,hm2⟩;simp only at hi hm2
    have hm2l:m2.length<=m.length+i:=by grind [LX]
    refine Yl ?_;refine cD ?_ ?_<;>intro h<;>simp (disch:=omega) only [Sh.out h,go_sem,seval,↓reduceIte]
    ·have hi2:i<x.apart.length:=Za
     refine (Mg x (nth x.apart i).1 Za).use (Zc ?_);refine Ql ?_ ?_<;>intro h2
     ·refine (Mg x (nth x.apart i).2 Za).use (Zc ?_);refine ZK ?_ ?_<;>intro h3
      ·exact ⟨(i+1,m2++ [⟨5,i⟩]),⟨Za,by simp_all [CF,HC]⟩,Za,wk⟩
      ·exact ⟨(i+1,m2),⟨Za,by grind [CF,HC]⟩,Za,wk⟩
     ·exact ⟨(i+1,m2),⟨Za,by grind [CF,HC]⟩,Za,wk⟩
    ·have hin:i=x.apart.length:=Za
     subst hin;clear hi h;refine Zk [1,60,61] (fun q:Nat×List Itm=> [(3,.sl 1 0 q.2.length q.2.length),(62,.p (.int .i64 q.1))]) (fun q=> [Zi x,.elems 2 (q.2.map YL)]) (fun q=>q.1<=x.before.length/\q.2=m2++mE x q.1) (fun q=>x.before.length-q.1) (0,m2) ⟨Zb,by simp [mE]⟩ (Weak.mk ?_) ?_
     ·simp (disch:=omega) only [Zi,go_sem,seval]
     ·rintro ⟨i,m3⟩ ⟨hi,hm3⟩;simp only at hi hm3
      have hm3l:m3.length<=m2.length+i:=by grind [LZ]
      refine Yl ?_;refine cD ?_ ?_<;>intro h<;>simp (disch:=omega) only [Sh.out h,go_sem,seval,↓reduceIte]
      ·have hi2:i<x.before.length:=Za
       refine (Mg x (nth x.before i).2 Za).use (Zc ?_);refine ZK ?_ ?_<;>intro h2
       ·exact ⟨(i+1,m3++ [⟨6,i⟩]),⟨Za,by simp_all [Gm,LY]⟩,Za,wk⟩
       ·exact ⟨(i+1,m3),⟨Za,by grind [Gm,LY]⟩,Za,wk⟩
      ·have hin:i=x.before.length:=Za
       subst hin
       have hpre:m3=Mk x:=by rw [hm3,hm2,hm,hos];rfl
       have hne:m3≠ []:=fun e=>by grind
       refine (OU m3 hne Za (H:=_) (o:=1) rfl).mono ?_;rintro y H' ⟨rfl,ys,h1,h2,rfl⟩;have hyl:ys.length=m3.length:=h1.length_eq;refine Al ?_;rw [<- hyl];exact ⟨ys,⟨by grind,h2⟩,1,by simp (disch:=omega) only [go_sem,seval]⟩
def U1 (x:Inst) (i:Int):Bool:=decide (0<=i)&&decide (i<(x.orders.length:Int))&& !(nth x.orders i.toNat).off
theorem Og {x o} :Mh x o= !U1 x o:=by
 grind [Mh,U1]
def C5 (o:Ord) (kind:Int):Bool:=if kind=1 then decide (0<=o.pick.place) else if kind=2 then decide (0<=o.drp.place) else if kind=4 then decide (o.skills≠0) else decide (o.penalty= -1)
def X9 (x:Inst) (v:Itm):Bool :=
 if v.kind=1\/v.kind=2\/v.kind=4\/v.kind=10 then U1 x v.a&&C5 (nth x.orders v.a.toNat) v.kind
 else if v.kind=3\/v.kind=7\/v.kind=8\/v.kind=9 then decide (0<=v.a)&&decide (v.a<(x.types.length:Int))
 else if v.kind=5 then decide (0<=v.a)&&decide (v.a<(x.apart.length:Int))&&U1 x (nth x.apart v.a.toNat).1&&U1 x (nth x.apart v.a.toNat).2
 else if v.kind=6 then decide (0<=v.a)&&decide (v.a<(x.before.length:Int))&&U1 x (nth x.before v.a.toNat).2
 else false
theorem Tf {x i} {v:Itm} :v∈mF x i↔(nth x.orders i).off=false/\v.a=(i:Int)/\((v.kind=1/\(nth x.orders i).pick.place≠ -1)\/(v.kind=2/\(nth x.orders i).drp.place≠ -1)\/(v.kind=4/\(nth x.orders i).skills≠0)\/(v.kind=10/\(nth x.orders i).penalty= -1)):=by
 have one: ∀(c:Prop) [Decidable c] (w:Itm),v∈(if c then [w] else [])↔c/\v.kind=w.kind/\v.a=w.a:=fun c _ w=>by
  grind [K2]
 unfold mF
 split
 ·grind
 ·rename_i h;simp only [Xj,one]
  grind
theorem Tg {n} {v:Itm} :v∈mG n↔(v.kind=3\/v.kind=7\/v.kind=8\/v.kind=9)/\0<=v.a/\v.a<(n:Int):=by
 simp only [mG,XS,Zz,Z4,We,Wz,K2]
 constructor
 ·omega
 ·rintro ⟨h,h1,h2⟩;refine ⟨v.a.toNat,Za,?_⟩;omega
theorem Td {x n} {v:Itm} :v∈mD x n↔v.kind=5/\0<=v.a/\v.a<(n:Int)/\U1 x (nth x.apart v.a.toNat).1=true/\U1 x (nth x.apart v.a.toNat).2=true:=by
 simp only [mD,XS,Zz,HC,Og,Bool.not_not,ZE]
 constructor
 ·grind
 ·rintro ⟨h,h1,h2,h3⟩;refine ⟨v.a.toNat,Za,?_⟩;rw [if_pos h3];simp only [Z4,We,Wz,K2];omega
theorem Te {x n} {v:Itm} :v∈mE x n↔v.kind=6/\0<=v.a/\v.a<(n:Int)/\U1 x (nth x.before v.a.toNat).2=true:=by
 simp only [mE,XS,Zz,LY,Og,Bool.not_not]
 constructor
 ·grind
 ·rintro ⟨h,h1,h2,h3⟩;refine ⟨v.a.toNat,Za,?_⟩;rw [if_pos h3];simp only [Z4,We,Wz,K2];omega
theorem N8 {x:Inst} (hp:Plc x) {v:Itm} :v∈DQ x x.orders.length↔(v.kind=1\/v.kind=2\/v.kind=4\/v.kind=10)/\U1 x v.a=true/\C5 (nth x.orders v.a.toNat) v.kind=true:=by
 simp only [DQ,XS,Zz,Tf]
 constructor
 ·rintro ⟨i,hi,h0,ha,h⟩
  have e:v.a.toNat=i:=Za
  have hpl:=hp _ (Zt hi);rw [e];refine ⟨?_,by simp_all [U1],?_⟩
  ·omega
  grind [C5]
 ·rintro ⟨hk,ha,ho⟩;simp only [U1,ZE,Zs,XM] at ha
  grind [C5]
theorem N9 {x:Inst} (hp:Plc x) {v:Itm} :v∈Mk x↔X9 x v=true:=by
 simp only [Mk,Xj,N8 hp,Tg,Td,Te,X9]
 grind
theorem bX (x i):(mF x i).Nodup:=by
 unfold mF
 split
 ·simp
 ·split<;>split<;>split<;>split<;>simp
theorem J5 {f:Nat->List Itm} {n:Nat} (h: ∀i,(f i).Nodup) (ha: ∀i,∀v∈f i,v.a=(i:Int)):((List.range n).flatMap f).Nodup:=by
 grind [List.nodup_range]
theorem GH {x:Inst} (hp:Plc x):(Mk x).Nodup:=by
 have n1:(DQ x x.orders.length).Nodup:=J5 (bX x) fun i v hv=>(Tf.1 hv).2.1
 have n2:(mG x.types.length).Nodup:=J5 (fun i=>Zb) fun i v hv=>by
  grind
 have n3:(mD x x.apart.length).Nodup:=J5 (fun i=>by grind [HC]) fun i v hv=>by
  grind [HC]
 have n4:(mE x x.before.length).Nodup:=J5 (fun i=>by grind [LY]) fun i v hv=>by
  grind [LY]
 rw [Mk,CV,CV,CV]
 grind [N8,Tg,Td,Te]
def wG (x:Inst) (k:Nat) (a:Nat):List Itm:=if X9 x ⟨k+1,a⟩=true then [⟨k+1,a⟩] else []
def Zei (x:Inst) (k n:Nat):List Itm:=(List.range n).flatMap (wG x k)
def mU (x:Inst):Nat:=max (max (max x.orders.length x.types.length) x.apart.length) x.before.length
def KJ (x:Inst) (n:Nat):List Itm:=(List.range n).flatMap fun k=>Zei x k (mU x)
theorem Oa {x k a} {v:Itm} :v∈wG x k a↔X9 x v=true/\v.kind=(k:Int)+1/\v.a=(a:Int):=by
 unfold wG
 constructor
 ·grind
 ·rintro ⟨h1,h2,h3⟩;have:v=⟨(k:Int)+1,a⟩:=K2.2 ⟨h2,h3⟩
  grind
theorem JK {x:Inst} {v:Itm} :v∈KJ x 10↔X9 x v=true:=by
 simp only [KJ,Zei,XS,Zz,Oa]
 constructor
 ·grind
 ·intro h
  have hk:1<=v.kind/\v.kind<=10/\0<=v.a/\v.a<(mU x:Int):=by
   unfold X9 at h;unfold mU
   split at h
   ·simp only [U1,ZE,Zs] at h;omega
   grind
  exact ⟨(v.kind-1).toNat,Za,v.a.toNat,Za,h,Za,Za⟩
theorem ED (x:Inst) (n:Nat):(KJ x n).Pairwise fun a b=>KH a b<0:=by
 rw [KJ,List.pairwise_flatMap]
 grind [List.Pairwise.imp,List.pairwise_lt_range,Zei,wG,Oa,J1]
theorem EF {α:Type} {R:α->α->Prop} (asym: ∀a b,R a b-> ¬R b a): ∀ {l m:List α},l.Pairwise R->m.Pairwise R->(∀v,v∈l↔v∈m)->l=m
 | [],[],_,_,_=>rfl
 | [],b::m,_,_,h=>absurd ((h b).2 Zb) Zb
 | a::l,[],_,_,h=>absurd ((h a).1 Zb) Zb
 | a::l,b::m,hl,hm,h=>by
  rw [List.pairwise_cons] at hl hm
  have e:a=b:=by
   rcases Z4.1 ((h a).1 Zb) with e | e
   ·exact e
   ·rcases Z4.1 ((h b).2 Zb) with e2 | e2
    ·exact e2.symm
    ·exact absurd (hl.1 b e2) (asym _ _ (hm.1 a e))
  subst e;have irr: ¬R a a:=fun h=>asym a a h h;rw [EF asym hl.2 hm.2 fun v=>⟨fun hv=> ?_,fun hv=> ?_⟩]
  ·rcases Z4.1 ((h v).1 (by simp [hv])) with e | e
   ·subst e;exact absurd (hl.1 _ hv) irr
   ·exact e
  ·rcases Z4.1 ((h v).2 (by simp [hv])) with e | e
   ·subst e;exact absurd (hm.1 _ hv) irr
   ·exact e
theorem mH {x:Inst} (hp:Plc x) {m:List Itm} (h1:m.Perm (Mk x)) (h2:m.Pairwise fun a b=> ¬KH b a<0):m=KJ x 10:=by
 refine EF (R:=fun a b=>KH a b<0) (fun a b h k=> ?_) ?_ (ED x 10) fun v=> ?_
 ·grind [J1]
 ·have h3:m.Nodup:=h1.nodup_iff.2 (GH hp);have h4:=List.Pairwise.and h2 h3;refine h4.imp ?_;rintro a b ⟨h5,h6⟩;rw [J1] at h5 ⊢
  grind [K2]
 grind [N9,JK]
theorem uN (x:Inst) (hp:Plc x) (ho:x.orders.length<=1000) (ht:0<x.types.length/\x.types.length<=1000) (ha:x.apart.length<=1000) (hb:x.before.length<=1000):PC 35 [.p (Zv x)] (.list false ((KJ x 10).map YL)):=by
 refine ACalls.frozen (S:=2) (n:=(KJ x 10).length) Zb ?_;refine (bY x ho ht ha hb).mono ?_
 grind [mH]
def ME (l:List Itm) (v:Itm):Int:=match l.findIdx? (fun w=>decide (v=w)) with | some i=>(i:Int) | none=> -1
theorem RU {l:List Itm} {v:Itm} {k:Nat} (hk:k<l.length) (h:v=nth l k) (hno: ∀j,j<k-> ¬v=nth l j):ME l v=(k:Int):=by
 have:l.findIdx? (fun w=>decide (v=w))=some k:=by
  grind [UK,Zh]
 simp [ME,this]
theorem qA {l:List Itm} {v:Itm} (hno: ∀j,j<l.length-> ¬v=nth l j):ME l v= -1:=by
 have:l.findIdx? (fun w=>decide (v=w))=none:=by
  rw [List.findIdx?_eq_none_iff];intro x hx;obtain ⟨j,hj,rfl⟩:=ZN.1 hx
  grind [Zh]
 simp [ME,this]
theorem Un {l:List Itm} {v:Itm} :0<=ME l v↔v∈l:=by
 grind [ME]
theorem bV (l:List Itm) (c:Bool) (v:Itm) (hl:l.length<=1048576):PC 79 [.p (.list c (l.map YL)),.p (YL v)] (.int .i64 (ME l v)):=by
 refine Ze Tryz.func79 rfl Zj9 ?_;simp (disch:=omega) only [Tryz.f79,go_sem,seval];refine Zk [0,3,7] (fun k:Nat=> [(8,.p (.int .i64 k))]) (fun _=> [.cells [.p (.int .i64 v.kind),.p (.int .i64 v.a)]]) (fun k=>k<=l.length/\ ∀j,j<k-> ¬v=nth l j) (fun k=>l.length-k) 0 Zb (Weak.mk ?_) ?_
 ·simp (disch:=omega) only [go_sem,seval,↓reduceIte]
 ·rintro k ⟨hk,hno⟩;refine Zc ?_;refine cD ?_ ?_<;>intro h<;>simp (disch:=omega) only [Sh.out h,go_sem,seval,↓reduceIte]
  ·have hk2:k<l.length:=Za
   refine Xq (Zc ?_);refine cD ?_ ?_<;>intro h2<;>simp (disch:=omega) only [Sh.out h2,go_sem,seval,↓reduceIte]
   ·grind [K2,RU]
   ·have: ¬v=nth l k:=by grind
    exact ⟨k+1,⟨Za,Zp.2 ⟨hno,this⟩⟩,Za,wk⟩
  grind [qA]
theorem U3 (l:List Itm) (c:Bool) (v:Itm) (hl:l.length<=1048576):PC 46 [.p (.list c (l.map YL)),.p (YL v)] (.bool (decide (v∈l))):=by
 refine Ze Tryz.func46 rfl ZjG ?_;simp (disch:=omega) only [Tryz.f46,go_sem,seval];refine (bV l c v hl).use (Zc ?_);simp only [Un]
theorem Hu (l:List Typ) (c:Bool) (hl:l.length<=1048576):ACalls Tryz.prog 58 [.p (.list c (l.map X8))] [] fun y H'=>y= .sl 0 0 l.length l.length/\H'= [.elems 14 (l.map X8)]:=by
 refine Zf [1] Tryz.func58 rfl ZjS ?_;simp (disch:=omega) only [Tryz.f58,go_sem,seval];refine Wa (FS (e:=71) (cl:=c) (xs:=l.map X8) Tryz.underlying26 (by rfl) Zb fun b hb=> ?_);refine Zg [] _ _ _ _ (Zc ?_);refine cD ?_ ?_<;>intro h<;>simp (disch:=omega) only [Sh.out h,go_sem,seval]
 ·have:l= []:=by simp_all
  subst this;exact ⟨_,_,Weak.nil 0 14 rfl Zb,rfl,rfl⟩
 ·refine Zg [] _ _ _ _ (Zc ?_);exact we
theorem Ht (l:List Ord) (c:Bool) (hl:l.length<=1048576):ACalls Tryz.prog 59 [.p (.list c (l.map Yo))] [] fun y H'=>y= .sl 0 0 l.length l.length/\H'= [.elems 16 (l.map Yo)]:=by
 refine Zf [1] Tryz.func59 rfl ZjT ?_;simp (disch:=omega) only [Tryz.f59,go_sem,seval];refine Wa (FS (e:=75) (cl:=c) (xs:=l.map Yo) Tryz.underlying27 (by rfl) Zb fun b hb=> ?_);refine Zg [] _ _ _ _ (Zc ?_);refine cD ?_ ?_<;>intro h<;>simp (disch:=omega) only [Sh.out h,go_sem,seval]
 ·have:l= []:=by simp_all
  subst this;exact ⟨_,_,Weak.nil 0 16 rfl Zb,rfl,rfl⟩
 ·refine Zg [] _ _ _ _ (Zc ?_);exact we
def Y9 (l:List (Int×Int)) (w:List Itm) (kind:Int) (k:Nat):List (Int×Int):=(List.range k).flatMap fun (i:Nat)=>if (⟨kind,i⟩:Itm)∈w then [] else [nth l i]
theorem Ka (l w kind k):Y9 l w kind (k+1)=Y9 l w kind k++if (⟨kind,k⟩:Itm)∈w then [] else [nth l k]:=by simp [Y9,X6]
theorem DR (l w kind): ∀k,(Y9 l w kind k).length<=k
 | 0=>by simp [Y9]
 | k+1=>by
  have:=DR l w kind k;rw [Ka,ZJ]
  split<;>simp<;>omega
theorem IB (l:List (Int×Int)) (w:List Itm) (kind:Int) (c d:Bool) (hl:l.length<=1048576) (hw:w.length<=1048576):PC 62 [.p (.list c (l.map eP)),.p (.list d (w.map YL)),.p (.int .i64 kind)] (.list false ((Y9 l w kind l.length).map eP)):=by
 refine ACalls.frozen (S:=2) (n:=(Y9 l w kind l.length).length) Zb ?_
 suffices hh:ACalls Tryz.prog 62 [.p (.list c (l.map eP)),.p (.list d (w.map YL)),.p (.int .i64 kind)] [] fun y H'=> ∃m:List (Int×Int),m=Y9 l w kind l.length/\y= .sl 0 0 m.length m.length/\H'= [.elems 2 (m.map eP)] by
  grind
 refine ZX [2] Tryz.func62 rfl ZjV ?_;simp (disch:=omega) only [Tryz.f62,go_sem,seval];refine Zq (Weak.ofNil 7 2 (by simp (disch:=omega) only [go_sem,seval]) Zb (Weak.refl _ _ _)) ?_;refine Zg [] _ _ _ _ (Zc ?_);refine Zk [1,2,10,11] (fun q:Nat×List (Int×Int)=> [(7,.sl 0 0 q.2.length q.2.length),(12,.p (.int .i64 q.1))]) (fun q=> [.elems 2 (q.2.map eP)]) (fun q=>q.1<=l.length/\q.2=Y9 l w kind q.1) (fun q=>l.length-q.1) (0,[]) ⟨Zb,by simp [Y9]⟩ (Weak.mk ?_) ?_
 ·simp (disch:=omega) only [go_sem,seval]
 ·rintro ⟨k,m⟩ ⟨hk,hm⟩;simp only at hk hm;have hml:=DR l w kind k;rw [<- hm] at hml;have hs:=Ka l w kind k;refine Zc ?_;refine cD ?_ ?_<;>intro h<;>simp (disch:=omega) only [Sh.out h,go_sem,seval,↓reduceIte]
  ·have hk2:k<l.length:=Za
   refine (U3 w d ⟨kind,k⟩ hw).use (Zc ?_);refine ZK ?_ ?_<;>intro h2
   ·have h3: ¬(⟨kind,k⟩:Itm)∈w:=Za
    exact ⟨(k+1,m++ [nth l k]),⟨Za,by grind⟩,Za,wk⟩
   ·have h3:(⟨kind,k⟩:Itm)∈w:=by grind
    exact ⟨(k+1,m),⟨Za,by grind⟩,Za,wk⟩
  ·have hkl:k=l.length:=Za
   subst hkl;exact ⟨m,hm,0,by simp (disch:=omega) only [go_sem,seval]⟩
def HF (o:Ord) (kind:Int):Ord :=
 if kind=1 then { o with pick:= { o.pick with cls:=4096 } }
 else if kind=2 then { o with drp:= { o.drp with cls:=4096 } }
 else if kind=4 then { o with skills:=0 }
 else if kind=10 then { o with penalty:=0 }
 else o
theorem Ba {α β:Type} {f:α->β} {l:List α} {i:Nat} {a:α} :(l.map f).set i (f a)=(l.set i a).map f:=Zb
theorem vG (os:List Ord) (i:Nat) (hi:i<os.length):ACalls Tryz.prog 93 [.ep 0 i 2 os.length] [.elems 16 (os.map Yo)] fun y H'=>y= .tup []/\H'= [.elems 16 ((os.set i (HF (nth os i) 1)).map Yo)]:=by
 refine Zf [] Tryz.func93 rfl zB ?_;simp (disch:=omega) only [Tryz.f93,go_sem,seval];exact ⟨_,_,Weak.refl _ _ _,rfl,by rw [<- Ba];rfl⟩
theorem vF (os:List Ord) (i:Nat) (hi:i<os.length):ACalls Tryz.prog 93 [.ep 0 i 6 os.length] [.elems 16 (os.map Yo)] fun y H'=>y= .tup []/\H'= [.elems 16 ((os.set i (HF (nth os i) 2)).map Yo)]:=by
 refine Zf [] Tryz.func93 rfl zB ?_;simp (disch:=omega) only [Tryz.f93,go_sem,seval];exact ⟨_,_,Weak.refl _ _ _,rfl,by rw [<- Ba];rfl⟩
theorem nD {α:Type} [Inhabited α] {l:List α} {i:Nat} (h:i<l.length):l.set i (nth l i)=l:=by
 grind [Zh,List.set_getElem_self]
theorem A6 (os:List Ord) (i:Nat) (k:Int) (hi:i<os.length):ACalls Tryz.prog 60 [.ep 0 i 0 os.length,.p (.int .i64 k)] [.elems 16 (os.map Yo)] fun y H'=>y= .tup []/\H'= [.elems 16 ((os.set i (HF (nth os i) k)).map Yo)]:=by
 refine Zf [] Tryz.func60 rfl ZjU ?_;simp (disch:=omega) only [Tryz.f60,go_sem,seval];refine cD ?_ ?_<;>intro h1<;>simp (disch:=omega) only [Sh.out h1,go_sem,seval,↓reduceIte]
 ·subst h1;refine (vG os i hi).useH (Zc ?_);exact ⟨_,_,Weak.refl _ _ _,rfl,rfl⟩
 ·refine cD ?_ ?_<;>intro h2<;>simp (disch:=omega) only [Sh.out h2,go_sem,seval,↓reduceIte]
  ·subst h2;refine (vF os i hi).useH (Zc ?_);exact ⟨_,_,Weak.refl _ _ _,rfl,rfl⟩
  ·refine cD ?_ ?_<;>intro h3<;>simp (disch:=omega) only [Sh.out h3,go_sem,seval,↓reduceIte]
   ·subst h3;exact ⟨_,_,Weak.refl _ _ _,rfl,by rw [<- Ba];rfl⟩
   ·refine cD ?_ ?_<;>intro h4<;>simp (disch:=omega) only [Sh.out h4,go_sem,seval,↓reduceIte]
    ·subst h4;exact ⟨_,_,Weak.refl _ _ _,rfl,by rw [<- Ba];rfl⟩
    ·have:HF (nth os i) k=nth os i:=by simp_all [HF]
     rw [this,nD hi];exact ⟨_,_,Weak.refl _ _ _,rfl,rfl⟩
theorem IT {α:Type} {cs:List α} {j:Nat} {v:α} (h:j<cs.length):List.take 1 (List.drop j (cs.set j v))= [v]:=by
 grind [Ud]
theorem qB {α:Type} {cs:List α} {j:Nat} {v:α} (h:cs[j]? =some v):List.take 1 (List.drop j cs)= [v]:=by
 grind [Ud]
theorem MD {α:Type} : ∀ {cs:List α} {j:Nat},Ju cs j []=cs
 | [],_=>rfl
 | _::_,0=>rfl
 | _::_,_+1=>by simp [Ju,MD]
theorem Fy {α:Type} : ∀ {cs:List α} {j:Nat} {v:α},Ju cs j [v]=cs.set j v
 | [],_,_=>rfl
 | x::l,0,v=>by simp [Ju,MD]
 | x::l,j+1,v=>by simp [Ju,Fy (cs:=l)]
theorem FC {H:List AM.Obj} {n:Nat} {x x':V} (hx:Ep H n x x'): ∀ {cs:List V} {j:Nat},(∀v∈cs,refB n v=true)->Pj H n (cs.set j x) (cs.set j x')
 | [],_,_=>by simp [Pj]
 | y::l,0,h=>⟨hx,Hi l fun j c hc=>h c (XL _ (XG hc))⟩
 | y::l,j+1,h=>⟨.inr (.inl ⟨rfl,h y Zb⟩),FC hx fun v hv=>h v (XL _ hv)⟩
theorem fG (cs:List V) (b:Nat) (l:List Int) (c:Bool) (hb:b+14<=cs.length) (hp: ∀n,∀v∈cs,refB n v=true) (h4:cs[b+4]? =some (.p (.list c (l.map eI)))) (hl:l.length<=1048576):ACalls Tryz.prog 61 [.ptr 0 b,.p (.int .i64 3)] [.cells cs] fun y H'=>y= .tup []/\H'= [.cells (cs.set (b+4) (.p (.list false ((List.replicate l.length (1000:Int)).map eI))))]:=by
 refine Zf [] Tryz.func61 rfl yX ?_;have h5:=qB h4
 have h6:b+4+1<=cs.length:=Za
 simp (disch:=omega) only [Tryz.f61,h5,h6,go_sem,seval];refine ACalls.useF (S:=1) (n:=l.length) (xs:=l.map eI) (Hs l c hl) ?_;simp (disch:=omega) only [h6,Fy,IT,QW,go_sem,seval];refine Zk [0,20] (fun q:Nat×List Int=> [(21,.p (.int .i64 q.1))]) (fun q=> [.cells (cs.set (b+4) (.sl 1 0 l.length l.length)),.elems 1 (q.2.map eI)]) (fun q=>q.1<=l.length/\q.2=List.replicate q.1 (1000:Int)++l.drop q.1) (fun q=>l.length-q.1) (0,l) Zb (Weak.mk ?_) ?_
 ·refine Zc ?_;exact FC (by simp (disch:=omega) only [go_sem,seval]) (hp 2)
 ·rintro ⟨k,m⟩ ⟨hk,hm⟩;simp only at hk hm
  have hml:m.length=l.length:=by grind
  rw [<- hml] at hk ⊢
  have hme:(m.map eI).length=m.length:=Zb
  refine Zc ?_;refine cD ?_ ?_<;>intro h<;>simp (disch:=omega) only [Sh.out h,go_sem,seval,↓reduceIte]
  ·have hk2:k<m.length:=Za
   simp (disch:=omega) only [h6,Fy,IT,QW,go_sem,seval];refine ⟨(k+1,m.set k 1000),⟨Za,?_⟩,Za,Weak.mk ?_⟩
   ·rw [hm]
    have hkl:k<l.length:=Za
    simp only;rw [Fe _ _ Zb,Ud hkl,Fh,QQ];simp only [CS,Kf,Z1,ZO,ZD]
   ·simp (disch:=omega) only [mR,Z1,List.headD_cons,go_sem,seval];refine ⟨FC ?_ (hp 2),?_⟩
    ·simp (disch:=omega) only [go_sem,seval]
    grind [Ba,eI]
  ·have hkl:k=m.length:=Za
   subst hkl
   have hm2:m=List.replicate m.length (1000:Int):=by grind
   rw [<- hm2];refine ⟨_,_,?_,rfl,rfl⟩;refine Weak.mk (Zc ?_);refine FC ?_ (hp 1);simp (disch:=omega) only [go_sem,seval]
theorem He (cs:List V) (b:Nat) (k:Int) (j:Nat) (v:Int) (hk:(k=7/\j=8/\v=4096)\/(k=8/\j=9/\v=4096)\/(k=9/\j=1/\v=10)) (hb:b+14<=cs.length) (hp: ∀n,∀v∈cs,refB n v=true):ACalls Tryz.prog 61 [.ptr 0 b,.p (.int .i64 k)] [.cells cs] fun y H'=>y= .tup []/\H'= [.cells (cs.set (b+j) (.p (.int .i64 v)))]:=by
 refine Zf [] Tryz.func61 rfl yX ?_
 have h6:b+j+1<=cs.length:=Za
 rcases hk with ⟨rfl,rfl,rfl⟩ | ⟨rfl,rfl,rfl⟩ | ⟨rfl,rfl,rfl⟩ <;>
 ·simp (disch:=omega) only [Tryz.f61,h6,Fy,go_sem,seval,↓reduceIte];exact ⟨_,_,Weak.refl _ _ _,rfl,rfl⟩
def MJ (t:Typ) (kind:Int):Typ :=
 if kind=3 then { t with cap_c:=false,cap:=List.replicate t.cap.length 1000 }
 else if kind=7 then { t with cls:=4096 }
 else if kind=8 then { t with drive:=4096 }
 else if kind=9 then { t with count:=10 }
 else t
theorem Ia {S:Nat} {x' v:PV} {j:Nat} : ∀ {xs:List PV} {i:Nat} (h:i<xs.length),(∀x∈xs,x.cells.length=S)->j<S->x'.cells=(xs[i]).cells.set j v->V5 (xs.set i x')=(V5 xs).set (i*S+j) v
 | [],_,h,_,_,_=>absurd h Zb
 | x::xs,0,_,hS,hj,he=>by
  simp_all [V5]
 | x::xs,i+1,h,hS,hj,he=>by
  have hx:=hS x Zb;have:=Ia (xs:=xs) (i:=i) (by simpa using h) (fun y hy=>hS y (by simp [hy])) hj (by simpa using he)
  simp only [V5,Xa,Qq] at *
  rw [this,Fe _ _ (by rw [hx,XT];omega),hx]
  congr 2
  rw [XT];omega
theorem Q7 (ts:List Typ) (i:Nat) (k:Int) (hk:k=3\/k=7\/k=8\/k=9) (hi:i<ts.length) (hc:(nth ts i).cap.length<=1048576) {H:List AM.Obj} {o:Nat} (hH:H[o]? =some (.elems 14 (ts.map X8))):ACalls Tryz.prog 61 [.ep o i 0 ts.length,.p (.int .i64 k)] H fun y H'=>y= .tup []/\H'=H.set o (.elems 14 ((ts.set i (MJ (nth ts i) k)).map X8)):=by
 have hS: ∀(us:List Typ),∀x∈us.map X8,x.cells.length=14:=fun us x hx=>by
  obtain ⟨t,_,rfl⟩:=Xn.1 hx
  rfl
 have hlen:(ts.map X8).length=ts.length:=Zb
 have hg:=Zh hi
 have main: ∀(j:Nat) (v:PV),j<14->(X8 (MJ (nth ts i) k)).cells=(X8 (nth ts i)).cells.set j v->(∀cs:List V,i*14+14<=cs.length->(∀n,∀v∈cs,refB n v=true)->cs[i*14+4]? =some (.p (.list (nth ts i).cap_c ((nth ts i).cap.map eI)))->ACalls Tryz.prog 61 [.ptr 0 (i*14),.p (.int .i64 k)] [.cells cs] fun y H'=>y= .tup []/\H'= [.cells (cs.set (i*14+j) (.p v))]) ->
   ACalls Tryz.prog 61 [.ep o i 0 ts.length,.p (.int .i64 k)] H fun y H'=>y= .tup []/\H'=H.set o (.elems 14 ((ts.set i (MJ (nth ts i) k)).map X8)):=fun j v hj he h=>by
  rw [<- hlen];refine ACalls.atF (S:=14) (ps:= [.int .i64 k]) hH (hS _) (hS _) (fun sp=> ?_) Zb;have hfl:=AE (hS ts);have h4:(V5 (ts.map X8))[i*14+4]? =some (.list (nth ts i).cap_c ((nth ts i).cap.map eI)):=DL (S:=14) (hS ts) i (X8 (nth ts i)) 4 _ (by grind) rfl;have h4l:=(ZT.1 h4).1;refine (h _ (by grind) (fun n v hv=> ?_) ?_).mono ?_
  ·rcases Xj.1 hv with hv | hv
   ·obtain ⟨y,_,rfl⟩:=Xn.1 hv
    rfl
   ·rw [List.eq_of_mem_replicate hv];rfl
  ·grind
  ·rintro y H' ⟨h1,rfl⟩;refine ⟨h1,List.replicate sp .junk,Zb,?_⟩;have hf:=Ia (S:=14) (x':=X8 (MJ (nth ts i) k)) (v:=v) (j:=j) (xs:=ts.map X8) (i:=i) Za (hS ts) hj (by grind);rw [Ba] at hf
   grind [U6]
 rcases hk with rfl | rfl | rfl | rfl
 ·exact main 4 _ Za rfl fun cs h1 h2 h3=>fG cs _ _ _ h1 h2 h3 hc
 ·exact main 8 _ Za rfl fun cs h1 h2 _=>He cs _ 7 8 4096 Zb h1 h2
 ·exact main 9 _ Za rfl fun cs h1 h2 _=>He cs _ 8 9 4096 Zb h1 h2
 ·exact main 1 _ Za rfl fun cs h1 h2 _=>He cs _ 9 1 10 Zb h1 h2
structure ISz (x:Inst):Prop where
 plc:Plc x
 ord:x.orders.length<=1000
 typ0:0<x.types.length
 typ:x.types.length<=1000
 ap:x.apart.length<=1000
 be:x.before.length<=1000
theorem GN {x:Inst} (h:ISz x):(KJ x 10).length<=1048576:=by
 have e:(KJ x 10).Perm (Mk x):=by
  refine (List.perm_ext_iff_of_nodup ?_ (GH h.plc)).2 fun v=>by rw [JK,N9 h.plc]
  exact (ED x 10).imp fun {a b} hh e=>by grind [J1]
 rw [e.length_eq];have h1:=CG x x.orders.length;have h2:=L3 (k:=x.types.length);have h3:=LX x x.apart.length;have h4:=LZ x x.before.length;have:=h.ord;have:=h.typ;have:=h.ap;have:=h.be
 grind [Mk]
theorem Re (x:Inst) (h:ISz x):PC 35 [.p (Zv x)] (.list false ((KJ x 10).map YL)):=uN x h.plc h.ord ⟨h.typ0,h.typ⟩ h.ap h.be
theorem uK (x:Inst) (h:ISz x) (v:Itm):PC 22 [.p (Zv x),.p (YL v)] (.bool (X9 x v)):=by
 refine Ze Tryz.func22 rfl Zjm ?_;simp (disch:=omega) only [Tryz.f22,go_sem,seval];refine Xq (Zc ?_);refine Zo (Re x h) (Zc ?_);refine Zo (U3 (KJ x 10) false v (GN h)) (Zc ?_);simp [JK]
theorem Kr (o:Ord) (k:Int) (hk:k=1\/k=2\/k=4\/k=10):PC 49 [.p (Yo o),.p (.int .i64 k)] (.bool (C5 o k)):=by
 refine Ze Tryz.func49 rfl ZjJ ?_;rcases hk with rfl | rfl | rfl | rfl
 ·simp (disch:=omega) only [Tryz.f49,C5,go_sem,seval,↓reduceIte]
 ·simp (disch:=omega) only [Tryz.f49,C5,go_sem,seval,↓reduceIte]
 ·simp (disch:=omega) only [Tryz.f49,C5,go_sem,seval,↓reduceIte]
 ·simp (disch:=omega) only [Tryz.f49,C5,go_sem,seval,↓reduceIte]
theorem QA (x:Inst) (i:Int) (hl:x.orders.length<=1048576):PC 48 [.p (Zv x),.p (.int .i64 i)] (.bool (U1 x i)):=by
 refine Ze Tryz.func48 rfl ZjI ?_;simp (disch:=omega) only [Tryz.f48,go_sem,seval];refine gT ?_ ?_<;>intro h<;>simp (disch:=omega) only [Sh.out h,go_sem,seval,↓reduceIte]
 ·refine gT ?_ ?_<;>intro h2<;>simp (disch:=omega) only [Sh.out h2,go_sem,seval,↓reduceIte]
  ·simp [U1,h,h2]
  ·simp [U1,h2]
 ·simp [U1,h]
theorem oW (x:Inst) (h:ISz x) (v:Itm):PC 25 [.p (Zv x),.p (YL v)] (.bool (X9 x v)):=by
 have s1:=h.ord;have s2:=h.typ;have s3:=h.ap;have s4:=h.be;refine Ze Tryz.func25 rfl Zjp ?_;obtain ⟨k,a⟩:=v
 have gO: ∀k:Int,(k=1\/k=2\/k=4\/k=10)->X9 x ⟨k,a⟩=(U1 x a&&C5 (nth x.orders a.toNat) k):=fun k h=>by simp_all [X9]
 by_cases h1:k=1\/k=2\/k=4\/k=10
 ·rw [gO k h1];rcases h1 with rfl | rfl | rfl | rfl
  ·simp (disch:=omega) only [Tryz.f25,go_sem,seval];refine Xq (Zc ?_);refine Zo (QA x a Za) (Zc ?_);refine gT ?_ ?_<;>intro h<;>simp (disch:=omega) only [Sh.out h,go_sem,seval,↓reduceIte]
   ·have h2:0<=a/\a<(x.orders.length:Int):=by simp_all [U1]
    refine Zc ?_;refine Zo (Kr (nth x.orders a.toNat) 1 Za) (Zc ?_);simp [h]
  ·simp (disch:=omega) only [Tryz.f25,go_sem,seval];refine Xq (Zc ?_);refine Zo (QA x a Za) (Zc ?_);refine gT ?_ ?_<;>intro h<;>simp (disch:=omega) only [Sh.out h,go_sem,seval,↓reduceIte]
   ·have h2:0<=a/\a<(x.orders.length:Int):=by simp_all [U1]
    refine Zc ?_;refine Zo (Kr (nth x.orders a.toNat) 2 Za) (Zc ?_);simp [h]
  ·simp (disch:=omega) only [Tryz.f25,go_sem,seval];refine Xq (Zc ?_);refine Zo (QA x a Za) (Zc ?_);refine gT ?_ ?_<;>intro h<;>simp (disch:=omega) only [Sh.out h,go_sem,seval,↓reduceIte]
   ·have h2:0<=a/\a<(x.orders.length:Int):=by simp_all [U1]
    refine Zc ?_;refine Zo (Kr (nth x.orders a.toNat) 4 Za) (Zc ?_);simp [h]
  ·simp (disch:=omega) only [Tryz.f25,go_sem,seval];refine Xq (Zc ?_);refine Zo (QA x a Za) (Zc ?_);refine gT ?_ ?_<;>intro h<;>simp (disch:=omega) only [Sh.out h,go_sem,seval,↓reduceIte]
   ·have h2:0<=a/\a<(x.orders.length:Int):=by simp_all [U1]
    refine Zc ?_;refine Zo (Kr (nth x.orders a.toNat) 10 Za) (Zc ?_);simp [h]
 ·by_cases h2:k=3\/k=7\/k=8\/k=9
  ·rcases h2 with rfl | rfl | rfl | rfl
   ·simp (disch:=omega) only [Tryz.f25,go_sem,seval];refine gT ?_ ?_<;>intro hq<;>simp (disch:=omega) only [Sh.out hq,go_sem,seval,↓reduceIte]
    ·simp [X9,hq]
    ·simp [X9,hq]
   ·simp (disch:=omega) only [Tryz.f25,go_sem,seval];refine gT ?_ ?_<;>intro hq<;>simp (disch:=omega) only [Sh.out hq,go_sem,seval,↓reduceIte]
    ·simp [X9,hq]
    ·simp [X9,hq]
   ·simp (disch:=omega) only [Tryz.f25,go_sem,seval];refine gT ?_ ?_<;>intro hq<;>simp (disch:=omega) only [Sh.out hq,go_sem,seval,↓reduceIte]
    ·simp [X9,hq]
    ·simp [X9,hq]
   ·simp (disch:=omega) only [Tryz.f25,go_sem,seval];refine gT ?_ ?_<;>intro hq<;>simp (disch:=omega) only [Sh.out hq,go_sem,seval,↓reduceIte]
    ·simp [X9,hq]
    ·simp [X9,hq]
  ·by_cases h3:k=5
   ·subst h3;simp (disch:=omega) only [Tryz.f25,go_sem,seval];refine Xq (Zc ?_);refine gT ?_ ?_<;>intro hq<;>simp (disch:=omega) only [Sh.out hq,go_sem,seval,↓reduceIte]
    ·refine gT ?_ ?_<;>intro hq2<;>simp (disch:=omega) only [Sh.out hq2,go_sem,seval,↓reduceIte]
     ·refine Zo (QA x (nth x.apart a.toNat).1 Za) (Zc ?_);refine gT ?_ ?_<;>intro hq3<;>simp (disch:=omega) only [Sh.out hq3,go_sem,seval,↓reduceIte]
      ·refine Zo (QA x (nth x.apart a.toNat).2 Za) (Zc ?_)
       grind [X9]
      ·simp [X9,hq3]
     ·simp [X9,hq2]
    ·simp [X9,hq]
   ·by_cases h4:k=6
    ·subst h4;simp (disch:=omega) only [Tryz.f25,go_sem,seval];refine Xq (Zc ?_);refine gT ?_ ?_<;>intro hq<;>simp (disch:=omega) only [Sh.out hq,go_sem,seval,↓reduceIte]
     ·refine gT ?_ ?_<;>intro hq2<;>simp (disch:=omega) only [Sh.out hq2,go_sem,seval,↓reduceIte]
      ·refine Zo (QA x (nth x.before a.toNat).2 Za) (Zc ?_)
       grind [X9]
      ·simp [X9,hq2]
     ·simp [X9,hq]
    ·have e1: ¬k=1:=Za
     have e2: ¬k=2:=Za
     have e3: ¬k=3:=Za
     have e4: ¬k=4:=Za
     have e7: ¬k=7:=Za
     have e8: ¬k=8:=Za
     have e9: ¬k=9:=Za
     have e10: ¬k=10:=Za
     simp (disch:=omega) only [Tryz.f25,X9,e1,e2,e3,e4,h3,h4,e7,e8,e9,e10,go_sem,seval,↓reduceIte]
theorem X0 (l:List Itm) (c:Bool) (v:Itm) (hl:l.length<=1048576):PC 26 [.p (.list c (l.map YL)),.p (YL v)] (.int .i64 (ME l v)):=by
 refine Ze Tryz.func26 rfl Zjq ?_;simp (disch:=omega) only [Tryz.f26,go_sem,seval];refine Zk [0,3] (fun k:Nat=> [(5,.p (.int .i64 k))]) (fun _=> [.cells [.p (.int .i64 v.kind),.p (.int .i64 v.a)]]) (fun k=>k<=l.length/\ ∀j,j<k-> ¬v=nth l j) (fun k=>l.length-k) 0 Zb (Weak.mk ?_) ?_
 ·simp (disch:=omega) only [go_sem,seval,↓reduceIte]
 ·rintro k ⟨hk,hno⟩;refine Zc ?_;refine cD ?_ ?_<;>intro h<;>simp (disch:=omega) only [Sh.out h,go_sem,seval,↓reduceIte]
  ·have hk2:k<l.length:=Za
   refine Xq (Zc ?_);refine cD ?_ ?_<;>intro h2<;>simp (disch:=omega) only [Sh.out h2,go_sem,seval,↓reduceIte]
   ·grind [K2,RU]
   ·have: ¬v=nth l k:=by grind
    exact ⟨k+1,⟨Za,Zp.2 ⟨hno,this⟩⟩,Za,wk⟩
  grind [qA]
theorem TN {l:List Itm} {v:Itm} :ME l v<0↔ ¬v∈l:=by rw [<- Un];omega
theorem GR (l:List (Int×Int)) (w:List Itm) (kind:Int) (c d:Bool) (hl:l.length<=1048576) (hw:w.length<=1048576):PC 27 [.p (.list c (l.map eP)),.p (.list d (w.map YL)),.p (.int .i64 kind)] (.list false ((Y9 l w kind l.length).map eP)):=by
 refine ACalls.frozen (S:=2) (n:=(Y9 l w kind l.length).length) Zb ?_
 suffices hh:ACalls Tryz.prog 27 [.p (.list c (l.map eP)),.p (.list d (w.map YL)),.p (.int .i64 kind)] [] fun y H'=> ∃m:List (Int×Int),m=Y9 l w kind l.length/\y= .sl 0 0 m.length m.length/\H'= [.elems 2 (m.map eP)] by
  grind
 refine ZX [2] Tryz.func27 rfl Zjr ?_;simp (disch:=omega) only [Tryz.f27,go_sem,seval];refine Zq (Weak.ofNil 7 2 (by simp (disch:=omega) only [go_sem,seval]) Zb (Weak.refl _ _ _)) ?_;refine Zg [] _ _ _ _ (Zc ?_);refine Zk [0,1,2] (fun q:Nat×List (Int×Int)=> [(7,.sl 0 0 q.2.length q.2.length),(8,.p (.int .i64 q.1))]) (fun q=> [.elems 2 (q.2.map eP)]) (fun q=>q.1<=l.length/\q.2=Y9 l w kind q.1) (fun q=>l.length-q.1) (0,[]) ⟨Zb,by simp [Y9]⟩ (Weak.mk ?_) ?_
 ·simp (disch:=omega) only [go_sem,seval,↓reduceIte]
 ·rintro ⟨k,m⟩ ⟨hk,hm⟩;simp only at hk hm;have hml:=DR l w kind k;rw [<- hm] at hml;have hs:=Ka l w kind k;refine Zc ?_;refine cD ?_ ?_<;>intro h<;>simp (disch:=omega) only [Sh.out h,go_sem,seval,↓reduceIte]
  ·have hk2:k<l.length:=Za
   refine (X0 w d ⟨kind,k⟩ hw).use (Zc ?_);refine cD ?_ ?_<;>intro h2<;>simp (disch:=omega) only [Sh.out h2,go_sem,seval,↓reduceIte]
   ·have h3: ¬(⟨kind,k⟩:Itm)∈w:=TN.1 h2;exact ⟨(k+1,m++ [nth l k]),⟨Za,by grind⟩,Za,wk⟩
   ·have h3:(⟨kind,k⟩:Itm)∈w:=by simp_all [TN]
    exact ⟨(k+1,m),⟨Za,by grind⟩,Za,wk⟩
  ·have hkl:k=l.length:=Za
   subst hkl;exact ⟨m,hm,0,by simp (disch:=omega) only [go_sem,seval]⟩
def V3 (o:Ord) (at':Int) (l:List Itm):Ord:= { o with
 pick:= { o.pick with cls:=if (⟨1,at'⟩:Itm)∈l then 4096 else o.pick.cls }
 drp:= { o.drp with cls:=if (⟨2,at'⟩:Itm)∈l then 4096 else o.drp.cls }
 skills:=if (⟨4,at'⟩:Itm)∈l then 0 else o.skills
 penalty:=if (⟨10,at'⟩:Itm)∈l then 0 else o.penalty }
def Vh (t:Typ) (at':Int) (l:List Itm):Typ:= { t with
 cap_c:=if (⟨3,at'⟩:Itm)∈l then false else t.cap_c
 cap:=if (⟨3,at'⟩:Itm)∈l then List.replicate t.cap.length 1000 else t.cap
 cls:=if (⟨7,at'⟩:Itm)∈l then 4096 else t.cls
 drive:=if (⟨8,at'⟩:Itm)∈l then 4096 else t.drive
 count:=if (⟨9,at'⟩:Itm)∈l then 10 else t.count }
theorem nP (o a):V3 o a []=o:=by simp [V3]
theorem qD (o a):Vh o a []=o:=by simp [Vh]
theorem Iy (o a l) (v:Itm):V3 o a (l++ [v])=if v.a=a then HF (V3 o a l) v.kind else V3 o a l:=by
 obtain ⟨k,b⟩:=v
 by_cases h:b=a
 ·grind [V3,HF]
 grind [V3]
theorem IV (o a l) (v:Itm):Vh o a (l++ [v])=if v.a=a then MJ (Vh o a l) v.kind else Vh o a l:=by
 obtain ⟨k,b⟩:=v
 by_cases h:b=a
 ·subst h
  grind [Vh,MJ]
 grind [Vh]
def Xu (os:List Ord) (w:List Itm):List Ord:=(List.range os.length).map fun (i:Nat)=>V3 (nth os i) i w
def Xw (ts:List Typ) (w:List Itm):List Typ:=(List.range ts.length).map fun (i:Nat)=>Vh (nth ts i) i w
theorem WZ (os w):(Xu os w).length=os.length:=by simp [Xu]
theorem VA (os w):(Xw os w).length=os.length:=by simp [Xw]
theorem Bv {α:Type} [Inhabited α] {f:Nat->α} {n i:Nat} (h:i<n):nth ((List.range n).map f) i=f i:=by
 grind [Zh]
theorem Z8 {os w i} (h:i<os.length):nth (Xu os w) i=V3 (nth os i) i w:=Bv h
theorem Wt {os w i} (h:i<os.length):nth (Xw os w) i=Vh (nth os i) i w:=Bv h
theorem Bt {α:Type} [Inhabited α] (l:List α):(List.range l.length).map (fun i=>nth l i)=l:=by
 apply Jo
 ·simp
 grind [Zh]
theorem dE (os):Xu os []=os:=by simp_all [Xu,nP,Bt]
theorem fF (os):Xw os []=os:=by simp_all [Xw,qD,Bt]
theorem Rr {o:Ord} {k:Int} (h:k=3\/k=7\/k=8\/k=9\/k=5\/k=6):HF o k=o:=by
 unfold HF
 grind
theorem RY {o:Typ} {k:Int} (h:k=1\/k=2\/k=4\/k=10\/k=5\/k=6):MJ o k=o:=by
 unfold MJ
 grind
theorem A7 {os:List Ord} {w:List Itm} {v:Itm} {i:Nat} (hi:i<os.length) (hv:v.a=(i:Int)):(Xu os w).set i (HF (nth (Xu os w) i) v.kind)=Xu os (w++ [v]):=by
 rw [Z8 hi];apply Jo
 ·simp [Xu]
 grind [Xu,Iy]
theorem Be {os:List Typ} {w:List Itm} {v:Itm} {i:Nat} (hi:i<os.length) (hv:v.a=(i:Int)):(Xw os w).set i (MJ (nth (Xw os w) i) v.kind)=Xw os (w++ [v]):=by
 rw [Wt hi];apply Jo
 ·simp [Xw]
 grind [Xw,IV]
theorem Uz {os:List Ord} {w:List Itm} {v:Itm} (h:v.kind=3\/v.kind=7\/v.kind=8\/v.kind=9\/v.kind=5\/v.kind=6):Xu os (w++ [v])=Xu os w:=by
 simp_all [Xu,Iy,Rr]
theorem UE {os:List Typ} {w:List Itm} {v:Itm} (h:v.kind=1\/v.kind=2\/v.kind=4\/v.kind=10\/v.kind=5\/v.kind=6):Xw os (w++ [v])=Xw os w:=by
 simp_all [Xw,IV,RY]
def Zm (x:Inst) (l:List Itm):Inst:=⟨x.net,false,Xw x.types l,false,Xu x.orders l,false,Y9 x.apart l 5 x.apart.length,false,Y9 x.before l 6 x.before.length⟩
def WJ (x:Inst) (l:List Itm) (i:Nat):Int:=if X9 x (nth l i)=true then (if nth l i∈l.take i then 6 else 0) else 7
def Ub (x:Inst) (l:List Itm):Int:=(((List.range l.length).map (WJ x l)).find? fun e=>decide (e≠0)).getD 0
theorem AB {x:Inst} {l:List Itm} {k:Nat} (hk:k<l.length) (h0: ∀j,j<k->WJ x l j=0) (h:WJ x l k≠0):Ub x l=WJ x l k:=by
 have:((List.range l.length).map (WJ x l)).find? (fun e=>decide (e≠0))=some (WJ x l k):=by
  grind [E9]
 grind [Ub]
theorem LJ {x:Inst} {l:List Itm} (h: ∀j,j<l.length->WJ x l j=0):Ub x l=0:=by
 have:((List.range l.length).map (WJ x l)).find? (fun e=>decide (e≠0))=none:=by
  grind
 grind [Ub]
theorem Ua {x l i} :WJ x l i=0↔X9 x (nth l i)=true/\nth l i ∉ l.take i:=by
 grind [WJ]
theorem bI {x:Inst} {l:List Itm} :Ub x l=0↔ ∀j,j<l.length->WJ x l j=0:=by
 refine ⟨fun h j hj=> ?_,LJ⟩
 induction j using Nat.strongRecOn with
 | ind j ih =>
  grind [AB]
theorem F5 {x:Inst} {l:List Itm} :Ub x l=0↔(∀v∈l,X9 x v=true)/\l.Nodup:=by
 rw [bI]
 constructor
 ·intro h;refine ⟨fun v hv=> ?_,?_⟩
  ·obtain ⟨j,hj,rfl⟩:=ZN.1 hv
   grind [Ua,Zh]
  grind [VP,Ua,Zh,ZN]
 grind [Ua,ZN,VP,Zh]
def KK (x:Inst) (l:List Itm):Inst:=if Ub x l=0 then Zm x l else zeroI
theorem uD {n word sm l i} :SK n word sm l i= []↔cW n (nth l i)=true/\(l.take i).any (sm (nth l i))=false:=by
 grind [SK]
theorem kV {n word sm l} :JF n word sm l l.length= []↔l.length<=16/\(∀p∈l,cW n p=true)/\l.Pairwise (fun p q=>sm q p=false):=by
 rw [JF,Ue,List.flatMap_eq_nil_iff];refine and_congr (by grind [HA]) ?_;simp only [Zz,uD]
 constructor
 ·intro h;refine ⟨fun p hp=> ?_,?_⟩
  ·obtain ⟨i,hi,rfl⟩:=ZN.1 hp
   grind [Zh]
  ·rw [VP]
   grind [Zh,ZN]
 ·rintro ⟨h1,h2⟩ i hi;refine ⟨h1 _ (Zt hi),?_⟩;rw [YQ];intro p hp;obtain ⟨j,hj,rfl⟩:=ZN.1 hp
  grind [VP,Zh]
theorem LC {n:Int} {ap be:List (Int×Int)} :chk n ap be= []↔(ap.length<=16/\(∀p∈ap,cW n p=true)/\ap.Pairwise (fun p q=>decide (q=p\/(q.1=p.2/\q.2=p.1))=false))/\(be.length<=16/\(∀p∈be,cW n p=true)/\be.Pairwise (fun p q=>decide (q=p)=false)):=by
 grind [chk,Ue,kV]
theorem Ii (l w kind): ∀k,k<=l.length->(Y9 l w kind k).Sublist (l.take k)
 | 0,_=>by simp [Y9]
 | k+1,h=>by
  rw [Ka,XZ Za];refine (Ii l w kind k Za).append ?_
  split
  ·simp
  ·rw [Zh Za];exact List.Sublist.refl _
theorem BN (l w kind):(Y9 l w kind l.length).Sublist l:=by
 have:=Ii l w kind l.length (Zw _)
 grind
theorem Dh {n lo hi:Int} :rng n lo hi=true↔lo<=n/\n<=hi:=by simp [rng]
theorem DH {l:List Int} {d:Int} :VH l d=true↔(1<=l.length/\l.length<=3)/\(l.length:Int)=d/\ ∀n∈l,0<=n/\n<=1000:=by
 simp only [VH,ZE,Zs,Zx,Dh]
 grind
theorem MI (t a l):(Vh t a l).cap.length=t.cap.length:=by grind [Vh]
theorem RX {t a l d} (h:VH t.cap d=true):VH (Vh t a l).cap d=true:=by
 grind [DH,Vh]
theorem J2 (ts l):dimsOf (Xw ts l)=dimsOf ts:=by
 grind [dimsOf,VA,Wt,MI]
theorem TT {n:Net} {ts:List Typ} {l:List Itm} {i:Nat} (hi:i<ts.length) (h:UD n ts i):UD n (Xw ts l) i:=by
 unfold UD at h ⊢;rw [Wt hi,J2]
 grind [RX,Wt,Vh,Dh]
theorem IP {s:Stp} (h:stpOk s=true) (hp:0<=s.place):stpOk { s with cls:=4096 } =true:=by
 grind [fC]
theorem Gi {x:Inst} {k a:Int} (hk:k=1\/k=2\/k=4\/k=10):X9 x ⟨k,a⟩=true↔U1 x a=true/\C5 (nth x.orders a.toNat) k=true:=by
 simp_all [X9]
theorem rD {np:Nat} {d ty:Int} {os:List Ord} {l:List Itm} {i:Nat} (hi:i<os.length) (h:OrdOk np d ty os i) (h1:(⟨1,i⟩:Itm)∈l->0<=(nth os i).pick.place) (h2:(⟨2,i⟩:Itm)∈l->0<=(nth os i).drp.place):OrdOk np d ty (Xu os l) i:=by
 constructor
 ·rw [Z8 hi];exact h.name
 ·intro j hj;rw [Z8 hi,Z8 Za];exact h.twin j hj
 ·rw [Z8 hi];exact h.load
 ·rw [Z8 hi];exact h.pick
 ·rw [Z8 hi];exact h.drp
 ·rw [Z8 hi];exact h.one
 ·rw [Z8 hi];simp only [V3];split
  ·rename_i hm;exact IP h.pstp (h1 hm)
  ·exact h.pstp
 ·rw [Z8 hi];simp only [V3];split
  ·rename_i hm;exact IP h.dstp (h2 hm)
  ·exact h.dstp
 ·rw [Z8 hi];have:=h.skills;grind [V3]
 ·rw [Z8 hi];have:=h.arg;simp only [argOk,ZE,Zs,Dh] at this ⊢;refine ⟨⟨?_,this.1.2⟩,this.2⟩
  grind [V3]
theorem Ul {x:Inst} {l:List Itm} (h:InstOk x) (hI: ∀v∈l,X9 x v=true):InstOk (Zm x l):=by
 have ht:=h.types;have ho:=h.orders;obtain ⟨⟨a1,a2,a3⟩,b1,b2,b3⟩:=LC.1 h.rules;refine ⟨h.net,⟨?_,fun i hi=> ?_⟩,⟨?_,fun i hi=> ?_⟩,?_⟩
 ·show rng (Xw x.types l).length 1 6=true
  rw [VA];exact ht.1
 ·have hi2:i<x.types.length:=by grind [Zm,VA]
  exact TT hi2 (ht.2 i hi2)
 ·show (Xu x.orders l).length<=10
  rw [WZ];exact ho.1
 ·have hi2:i<x.orders.length:=by grind [Zm,WZ]
  show OrdOk x.net.places.length (dimsOf (Xw x.types l)) (Xw x.types l).length (Xu x.orders l) i
  rw [J2,VA];refine rD hi2 (ho.2 i hi2) (fun hm=> ?_) (fun hm=> ?_)
  ·grind [Gi,C5]
  grind [Gi,C5]
 ·show chk ((Xu x.orders l).length:Int) (Y9 x.apart l 5 x.apart.length) (Y9 x.before l 6 x.before.length)= []
  grind [WZ,LC,BN]
theorem AJ {x:Inst} (h:InstOk x):ISz x:=by
 have hf:=Xz h;have ht:=Dh.1 h.types.1;obtain ⟨⟨a1,_,_⟩,b1,_,_⟩:=LC.1 h.rules;have:=h.orders.1;exact ⟨hf.plc,Za,Za,Za,Za,Za⟩
theorem NS {x:Inst} (h:InstOk x): ∀t∈x.types,t.cap.length<=1048576:=fun t hm=>by
 obtain ⟨i,hi,rfl⟩:=ZN.1 hm;have:=h.types.2 i hi;have h5:=(DH.1 this.1.1.1.1.2).1
 grind [Zh]
theorem Ej {P Q:Prop} (h:Q) (e:Q->P:=by intro h;simp (disch:=omega) only [Zi,zeroI,Zn,go_sem,seval];exact h):P:=e h
theorem wH (x:Inst) (hs:ISz x) (hcap: ∀t∈x.types,t.cap.length<=1048576) (l:List Itm) (c:Bool) (hl:l.length<=1048576):PT 34 [.p (Zv x),.p (.list c (l.map YL))] [.p (Zv (KK x l)),.p (.int .i64 (Ub x l))]:=by
 have s1:=hs.ord;have s2:=hs.typ;have s3:=hs.ap;have s4:=hs.be;have hrl:=GN hs;refine Zf [27] Tryz.func34 rfl Zjy ?_;simp (disch:=omega) only [Tryz.f34,go_sem,seval];refine (Re x hs).use (Zc ?_);have zI:Zv zeroI= .agg [.list true [],.list true [],.list true [],.list true [],.list true [],.list true []]:=rfl;refine ZZ [10] [1,2,4,6,13,14] (fun k:Nat=> [(15,.p (.int .i64 k))]) (fun _=> [Zi x,Zi zeroI]) (fun k=>k<=l.length/\ ∀j,j<k->WJ x l j=0) (fun k=>l.length-k) 0 Zb (Weak.mk ?_) ?_
 ·simp (disch:=omega) only [Zi,zeroI,Zn,go_sem,seval]
 ·rintro k ⟨hk,hno⟩;refine Ej ?_;refine cD ?_ ?_<;>intro h<;>simp (disch:=omega) only [Sh.out h,go_sem,seval,↓reduceIte]
  ·have hk2:k<l.length:=Za
   refine (U3 (KJ x 10) false (nth l k) hrl).use (Zc ?_);refine cD ?_ ?_<;>intro h2<;>simp (disch:=omega) only [Sh.out h2,go_sem,seval,↓reduceIte]
   ·have h3:X9 x (nth l k)=false:=by grind [JK]
    have e0:WJ x l k=7:=by rw [WJ,h3];rfl
    have e:Ub x l=7:=by grind [AB]
    have r:KK x l=zeroI:=by rw [KK,e];rfl
    simp only [e,r,zeroI,Zn];exact we
   ·have h3:X9 x (nth l k)=true:=by simp_all [JK]
    refine Xq (Zc ?_);refine Zo (U3 (l.take k) _ (nth l k) (by simp;omega)) (Zc ?_);refine ZK ?_ ?_<;>intro h4
    ·have e0:WJ x l k=6:=by simp_all [WJ]
     have e:Ub x l=6:=by grind [AB]
     have r:KK x l=zeroI:=by rw [KK,e];rfl
     simp only [e,r,zeroI,Zn];exact we
    ·exact ⟨k+1,⟨Za,Zp.2 ⟨hno,Ua.2 ⟨h3,h4⟩⟩⟩,Za,wk⟩
  ·have hkl:k=l.length:=Za
   subst hkl;have e:Ub x l=0:=LJ hno
   have r:KK x l=Zm x l:=by rw [KK,if_pos e]
   rw [e,r];clear hk h;refine aL [1,2,4] (fun _:Unit=> []) (fun _=> [.cells [.p (.list x.net.places_c (x.net.places.map eS)),.p (.list x.net.arcs_c (x.net.arcs.map V2)),.sl 2 0 x.types.length x.types.length,.sl 3 0 x.orders.length x.orders.length,.p (.list x.apart_c (x.apart.map eP)),.p (.list x.before_c (x.before.map eP))],Zi zeroI,.elems 14 (x.types.map X8),.elems 16 (x.orders.map Yo)]) (fun _=>True) ?_ ?_
   ·refine FT (.cons 0 (.cons 1 (.cons 2 (.cons 3 (.cons 4 (.cons 5 (.cons 6 (.cons 7 (.cons 8 (.cons 9 .nil .nil) .nil) .nil) .nil) (.cons 6 (.cons 5 (.cons 7 (.cons 8 (.cons 9 .nil .nil) .nil) .nil) .nil) .nil)) .nil) .nil) (.cons 3 (.cons 2 (.cons 4 (.cons 5 (.cons 6 (.cons 7 (.cons 8 (.cons 9 .nil .nil) .nil) .nil) .nil) (.cons 6 (.cons 5 (.cons 7 (.cons 8 (.cons 9 .nil .nil) .nil) .nil) .nil) .nil)) .nil) (.cons 4 (.cons 2 (.cons 5 (.cons 6 (.cons 7 (.cons 8 (.cons 9 .nil .nil) .nil) .nil) .nil) (.cons 6 (.cons 5 (.cons 7 (.cons 8 (.cons 9 .nil .nil) .nil) .nil) .nil) .nil)) .nil) .nil)) .nil)) (.cons 3 (.cons 1 (.cons 2 (.cons 4 (.cons 5 (.cons 6 (.cons 7 (.cons 8 (.cons 9 .nil .nil) .nil) .nil) .nil) (.cons 6 (.cons 5 (.cons 7 (.cons 8 (.cons 9 .nil .nil) .nil) .nil) .nil) .nil)) .nil) (.cons 4 (.cons 2 (.cons 5 (.cons 6 (.cons 7 (.cons 8 (.cons 9 .nil .nil) .nil) .nil) .nil) (.cons 6 (.cons 5 (.cons 7 (.cons 8 (.cons 9 .nil .nil) .nil) .nil) .nil) .nil)) .nil) .nil)) (.cons 4 (.cons 1 (.cons 2 (.cons 5 (.cons 6 (.cons 7 (.cons 8 (.cons 9 .nil .nil) .nil) .nil) .nil) (.cons 6 (.cons 5 (.cons 7 (.cons 8 (.cons 9 .nil .nil) .nil) .nil) .nil) .nil)) .nil) .nil) .nil)) .nil)) (.cons 3 (.cons 0 (.cons 1 (.cons 2 (.cons 4 (.cons 5 (.cons 6 (.cons 7 (.cons 8 (.cons 9 .nil .nil) .nil) .nil) .nil) (.cons 6 (.cons 5 (.cons 7 (.cons 8 (.cons 9 .nil .nil) .nil) .nil) .nil) .nil)) .nil) (.cons 4 (.cons 2 (.cons 5 (.cons 6 (.cons 7 (.cons 8 (.cons 9 .nil .nil) .nil) .nil) .nil) (.cons 6 (.cons 5 (.cons 7 (.cons 8 (.cons 9 .nil .nil) .nil) .nil) .nil) .nil)) .nil) .nil)) (.cons 4 (.cons 1 (.cons 2 (.cons 5 (.cons 6 (.cons 7 (.cons 8 (.cons 9 .nil .nil) .nil) .nil) .nil) (.cons 6 (.cons 5 (.cons 7 (.cons 8 (.cons 9 .nil .nil) .nil) .nil) .nil) .nil)) .nil) .nil) .nil)) (.cons 4 (.cons 0 (.cons 1 (.cons 2 (.cons 5 (.cons 6 (.cons 7 (.cons 8 (.cons 9 .nil .nil) .nil) .nil) .nil) (.cons 6 (.cons 5 (.cons 7 (.cons 8 (.cons 9 .nil .nil) .nil) .nil) .nil) .nil)) .nil) .nil) .nil) .nil)) .nil)) mixed Zd ?_
    have cT:ACalls Tryz.prog 58 [.p (.list x.types_c (x.types.map X8))] [] fun y H'=>y= .sl 0 0 x.types.length x.types.length/\H'= [.elems 14 (x.types.map X8)]:=Hu x.types x.types_c Za;have cO:ACalls Tryz.prog 59 [.p (.list x.orders_c (x.orders.map Yo))] [] fun y H'=>y= .sl 0 0 x.orders.length x.orders.length/\H'= [.elems 16 (x.orders.map Yo)]:=Ht x.orders x.orders_c Za
    repeat' first
     | refine DC ?_ ?_
     | (refine cT.useF ?_;simp (disch:=omega) only [go_sem,seval,↓reduceIte])
     | (refine cO.useF ?_;simp (disch:=omega) only [go_sem,seval,↓reduceIte])
     | exact ⟨(),Weak.mk (by simp (disch:=omega) only [Zi,zeroI,Zn,go_sem,seval])⟩
     | simp (disch:=omega) only [go_sem,seval]
   ·rintro _ _;refine Ej ?_;have lT:=VA x.types;have lO:=WZ x.orders
    have hcap2: ∀k i,i<x.types.length->(nth (Xw x.types (l.take k)) i).cap.length<=1048576:=fun k i hi=>by
     grind [Wt,Zt,Vh]
    refine ZZ [26,27] [1,2,4,42,43] (fun k:Nat=> [(44,.p (.int .i64 k))]) (fun k=> [.cells [.p (.list x.net.places_c (x.net.places.map eS)),.p (.list x.net.arcs_c (x.net.arcs.map V2)),.sl 2 0 x.types.length x.types.length,.sl 3 0 x.orders.length x.orders.length,.p (.list x.apart_c (x.apart.map eP)),.p (.list x.before_c (x.before.map eP))],Zi zeroI,.elems 14 ((Xw x.types (l.take k)).map X8),.elems 16 ((Xu x.orders (l.take k)).map Yo)]) (fun k=>k<=l.length) (fun k=>l.length-k) 0 Zb (Weak.mk ?_) ?_
    ·simp (disch:=omega) only [Zi,zeroI,Zn,Vq,fF,dE,go_sem,seval]
    ·rintro k hk;refine Ej ?_;have hhas:k<l.length->X9 x (nth l k)=true:=fun h=>(Ua.1 (hno k h)).1
     have hsn:k<l.length->l.take (k+1)=l.take k++ [nth l k]:=fun h=>by rw [XZ h,Zh h]
     refine cD ?_ ?_<;>intro h<;>simp (disch:=omega) only [Sh.out h,go_sem,seval,↓reduceIte]
     ·have hk2:k<l.length:=Za
      have hhas:=hhas hk2;have hsn:=hsn hk2
      have hgo: ∀kd a,nth l k=⟨kd,a⟩->(kd=1\/kd=2\/kd=4\/kd=10)/\(0<=a/\a<(x.orders.length:Int))\/(kd=3\/kd=7\/kd=8\/kd=9)/\(0<=a/\a<(x.types.length:Int))\/kd=5\/kd=6:=fun kd a e=>by
       rw [e] at hhas;unfold X9 at hhas;simp only at hhas
       split at hhas
       ·simp_all [U1]
       grind
      generalize hv:nth l k=v at hgo hsn ⊢;obtain ⟨kd,a⟩:=v;rcases hgo kd a rfl with ⟨hkd,ha⟩ | ⟨hkd,ha⟩ | hkd
      ·rcases hkd with rfl | rfl | rfl | rfl
       ·have hmO:((Xu x.orders (l.take k)).map Yo).length=x.orders.length:=by grind
        have c9:=A6 (Xu x.orders (l.take k)) a.toNat 1 (by grind);rw [A7 Za (v:=⟨1,a⟩) (by grind),<- hsn,lO,<- hmO] at c9
        have eT:Xw x.types (l.take (k+1))=Xw x.types (l.take k):=by grind [UE]
        refine Zc ?_;refine ZB 7 mixed Zd Zd (Zc ?_);rw [<- hmO];refine (ACalls.atE (ps:= [.int .i64 1]) (o:=3) rfl c9 (by simp [lO])).useH (Al ?_);refine ⟨k+1,Za,Za,Weak.mk ?_⟩
        try simp only [lO]
        simp (disch:=omega) only [eT,go_sem,seval]
       ·have hmO:((Xu x.orders (l.take k)).map Yo).length=x.orders.length:=by grind
        have c9:=A6 (Xu x.orders (l.take k)) a.toNat 2 (by grind);rw [A7 Za (v:=⟨2,a⟩) (by grind),<- hsn,lO,<- hmO] at c9
        have eT:Xw x.types (l.take (k+1))=Xw x.types (l.take k):=by grind [UE]
        refine Zc ?_;refine ZB 7 mixed Zd Zd (Zc ?_);rw [<- hmO];refine (ACalls.atE (ps:= [.int .i64 2]) (o:=3) rfl c9 (by simp [lO])).useH (Al ?_);refine ⟨k+1,Za,Za,Weak.mk ?_⟩
        try simp only [lO]
        simp (disch:=omega) only [eT,go_sem,seval]
       ·have hmO:((Xu x.orders (l.take k)).map Yo).length=x.orders.length:=by grind
        have c9:=A6 (Xu x.orders (l.take k)) a.toNat 4 (by grind);rw [A7 Za (v:=⟨4,a⟩) (by grind),<- hsn,lO,<- hmO] at c9
        have eT:Xw x.types (l.take (k+1))=Xw x.types (l.take k):=by grind [UE]
        refine Zc ?_;refine ZB 7 mixed Zd Zd (Zc ?_);rw [<- hmO];refine (ACalls.atE (ps:= [.int .i64 4]) (o:=3) rfl c9 (by simp [lO])).useH (Al ?_);refine ⟨k+1,Za,Za,Weak.mk ?_⟩
        try simp only [lO]
        simp (disch:=omega) only [eT,go_sem,seval]
       ·have hmO:((Xu x.orders (l.take k)).map Yo).length=x.orders.length:=by grind
        have c9:=A6 (Xu x.orders (l.take k)) a.toNat 10 (by grind);rw [A7 Za (v:=⟨10,a⟩) (by grind),<- hsn,lO,<- hmO] at c9
        have eT:Xw x.types (l.take (k+1))=Xw x.types (l.take k):=by grind [UE]
        refine Zc ?_;refine ZB 7 mixed Zd Zd (Zc ?_);rw [<- hmO];refine (ACalls.atE (ps:= [.int .i64 10]) (o:=3) rfl c9 (by simp [lO])).useH (Al ?_);refine ⟨k+1,Za,Za,Weak.mk ?_⟩
        try simp only [lO]
        simp (disch:=omega) only [eT,go_sem,seval]
      ·rcases hkd with rfl | rfl | rfl | rfl
       ·have hmT:((Xw x.types (l.take k)).map X8).length=x.types.length:=by grind
        have c9:=fun (H:List AM.Obj) (hH:H[2]? =some (.elems 14 ((Xw x.types (l.take k)).map X8)))=>Q7 (Xw x.types (l.take k)) a.toNat 3 Zb (by grind) (hcap2 k a.toNat Za) hH;rw [Be Za (v:=⟨3,a⟩) (by grind),<- hsn,lT,<- hmT] at c9
        have eO:Xu x.orders (l.take (k+1))=Xu x.orders (l.take k):=by grind [Uz]
        refine Zc ?_;refine ZB 7 mixed Zd Zd (Zc ?_);rw [<- hmT];refine (c9 _ rfl).useH (Al ?_);refine ⟨k+1,Za,Za,Weak.mk ?_⟩
        try simp only [lT]
        simp (disch:=omega) only [eO,go_sem,seval]
       ·have hmT:((Xw x.types (l.take k)).map X8).length=x.types.length:=by grind
        have c9:=fun (H:List AM.Obj) (hH:H[2]? =some (.elems 14 ((Xw x.types (l.take k)).map X8)))=>Q7 (Xw x.types (l.take k)) a.toNat 7 Zb (by grind) (hcap2 k a.toNat Za) hH;rw [Be Za (v:=⟨7,a⟩) (by grind),<- hsn,lT,<- hmT] at c9
        have eO:Xu x.orders (l.take (k+1))=Xu x.orders (l.take k):=by grind [Uz]
        refine Zc ?_;refine ZB 7 mixed Zd Zd (Zc ?_);rw [<- hmT];refine (c9 _ rfl).useH (Al ?_);refine ⟨k+1,Za,Za,Weak.mk ?_⟩
        try simp only [lT]
        simp (disch:=omega) only [eO,go_sem,seval]
       ·have hmT:((Xw x.types (l.take k)).map X8).length=x.types.length:=by grind
        have c9:=fun (H:List AM.Obj) (hH:H[2]? =some (.elems 14 ((Xw x.types (l.take k)).map X8)))=>Q7 (Xw x.types (l.take k)) a.toNat 8 Zb (by grind) (hcap2 k a.toNat Za) hH;rw [Be Za (v:=⟨8,a⟩) (by grind),<- hsn,lT,<- hmT] at c9
        have eO:Xu x.orders (l.take (k+1))=Xu x.orders (l.take k):=by grind [Uz]
        refine Zc ?_;refine ZB 7 mixed Zd Zd (Zc ?_);rw [<- hmT];refine (c9 _ rfl).useH (Al ?_);refine ⟨k+1,Za,Za,Weak.mk ?_⟩
        try simp only [lT]
        simp (disch:=omega) only [eO,go_sem,seval]
       ·have hmT:((Xw x.types (l.take k)).map X8).length=x.types.length:=by grind
        have c9:=fun (H:List AM.Obj) (hH:H[2]? =some (.elems 14 ((Xw x.types (l.take k)).map X8)))=>Q7 (Xw x.types (l.take k)) a.toNat 9 Zb (by grind) (hcap2 k a.toNat Za) hH;rw [Be Za (v:=⟨9,a⟩) (by grind),<- hsn,lT,<- hmT] at c9
        have eO:Xu x.orders (l.take (k+1))=Xu x.orders (l.take k):=by grind [Uz]
        refine Zc ?_;refine ZB 7 mixed Zd Zd (Zc ?_);rw [<- hmT];refine (c9 _ rfl).useH (Al ?_);refine ⟨k+1,Za,Za,Weak.mk ?_⟩
        try simp only [lT]
        simp (disch:=omega) only [eO,go_sem,seval]
      ·have eT:Xw x.types (l.take (k+1))=Xw x.types (l.take k):=by grind [UE]
       have eO:Xu x.orders (l.take (k+1))=Xu x.orders (l.take k):=by grind [Uz]
       rcases hkd with rfl | rfl
       ·simp (disch:=omega) only [Zn,go_sem,seval];exact ⟨k+1,Za,Za,Weak.mk (by simp (disch:=omega) only [eT,eO,go_sem,seval])⟩
       ·simp (disch:=omega) only [Zn,go_sem,seval];exact ⟨k+1,Za,Za,Weak.mk (by simp (disch:=omega) only [eT,eO,go_sem,seval])⟩
     ·have hkl:k=l.length:=Za
      subst hkl;rw [X5];have cA:=IB x.apart l 5 x.apart_c c Za hl;have cB:=IB x.before l 6 x.before_c c Za hl;refine ZB 9 mixed Zd Zd (Zc ?_);refine Zo (cA) (Zc ?_);refine Zo (cB) (Zc ?_);rw [<- lT l,<- lO l];refine Zq (Weak.fz (o:=2) (by rfl)) ?_;refine Zq (Weak.fz (o:=3) (by rfl)) (Zg [] _ _ _ _ (UX ?_));exact we (by simp (disch:=omega) only [Zm,go_sem,seval])
theorem Mo (o:Ord) (a:Int) (w:List Itm) (d:Bool) (hw:w.length<=1048576):PC 28 [.p (Yo o),.p (.int .i64 a),.p (.list d (w.map YL))] (Yo (V3 o a w)):=by
 refine Ze Tryz.func28 rfl Zjs ?_;have n1:(0<=ME w ⟨1,a⟩)=((⟨1,a⟩:Itm)∈w):=propext Un;have n2:(0<=ME w ⟨2,a⟩)=((⟨2,a⟩:Itm)∈w):=propext Un;have n4:(0<=ME w ⟨4,a⟩)=((⟨4,a⟩:Itm)∈w):=propext Un;have n10:(0<=ME w ⟨10,a⟩)=((⟨10,a⟩:Itm)∈w):=propext Un
 by_cases h1:(⟨1,a⟩:Itm)∈w<;>by_cases h2:(⟨2,a⟩:Itm)∈w<;>by_cases h4:(⟨4,a⟩:Itm)∈w<;>by_cases h10:(⟨10,a⟩:Itm)∈w
 all_goals
  simp (disch:=omega) only [Tryz.f28,go_sem,seval,↓reduceIte];refine (X0 w d ⟨1,a⟩ hw).use ?_;simp (disch:=omega) only [n1,h1,go_sem,seval,↓reduceIte];refine (X0 w d ⟨2,a⟩ hw).use ?_;simp (disch:=omega) only [n2,h2,go_sem,seval,↓reduceIte];refine (X0 w d ⟨4,a⟩ hw).use ?_;simp (disch:=omega) only [n4,h4,go_sem,seval,↓reduceIte];refine (X0 w d ⟨10,a⟩ hw).use ?_;simp (disch:=omega) only [n10,h10,V3,h1,h2,h4,go_sem,seval,↓reduceIte]
def qQ : Typ:=⟨[],0,0,0,true,[],0,0,0,0,0,0,0,0,0⟩
theorem OA (t:Typ) (a:Int) (w:List Itm) (d:Bool) (hw:w.length<=1048576) (hc:t.cap.length<=1048576):PC 29 [.p (X8 t),.p (.int .i64 a),.p (.list d (w.map YL))] (X8 (Vh t a w)):=by
 refine UZ [3,8] Tryz.func29 rfl Zjt ?_;have n3:(0<=ME w ⟨3,a⟩)=((⟨3,a⟩:Itm)∈w):=propext Un;have n7:(0<=ME w ⟨7,a⟩)=((⟨7,a⟩:Itm)∈w):=propext Un;have n8:(0<=ME w ⟨8,a⟩)=((⟨8,a⟩:Itm)∈w):=propext Un;have n9:(0<=ME w ⟨9,a⟩)=((⟨9,a⟩:Itm)∈w):=propext Un
 by_cases h3:(⟨3,a⟩:Itm)∈w
 ·simp (disch:=omega) only [Tryz.f29,go_sem,seval];refine (X0 w d ⟨3,a⟩ hw).use ?_;simp (disch:=omega) only [n3,h3,go_sem,seval];refine Zq (Weak.ofNil 7 1 (by simp (disch:=omega) only [go_sem,seval]) Zb (Weak.refl _ _ _)) ?_;refine Zg [] _ _ _ _ (Zc ?_);refine ZZ [] [1,2,3,6] (fun k:Nat=> [(7,.sl 2 0 (List.replicate k (1000:Int)).length (List.replicate k (1000:Int)).length),(8,.p (.int .i64 k))]) (fun k=> [Ym t,Ym qQ,.elems 1 ((List.replicate k (1000:Int)).map eI)]) (fun k=>k<=t.cap.length) (fun k=>t.cap.length-k) 0 Zb (Weak.mk ?_) ?_
  ·simp (disch:=omega) only [Ym,qQ,go_sem,seval]
  ·intro k hk
   have hlr:(List.replicate k (1000:Int)).length=k:=Zb
   have hsn:List.replicate (k+1) (1000:Int)=List.replicate k (1000:Int)++ [1000]:=by rw [Fh]
   generalize hm:List.replicate k (1000:Int)=m at hlr hsn ⊢;simp (disch:=omega) only [Ym,qQ,go_sem,seval];refine ZK ?_ ?_<;>intro h
   ·exact ⟨k+1,Za,Za,Weak.mk (by rw [hsn];simp (disch:=omega) only [go_sem,seval])⟩
   ·have hk2:k=t.cap.length:=Za
    subst hk2;subst hm;refine Zq (Weak.fz (o:=2) (by rfl)) (Zg [] _ _ _ _ (UX ?_))
    by_cases h7:(⟨7,a⟩:Itm)∈w<;>by_cases h8:(⟨8,a⟩:Itm)∈w<;>by_cases h9:(⟨9,a⟩:Itm)∈w
    all_goals
     refine (X0 w d ⟨7,a⟩ hw).use ?_;simp (disch:=omega) only [n7,h7,go_sem,seval,↓reduceIte];refine (X0 w d ⟨8,a⟩ hw).use ?_;simp (disch:=omega) only [n8,h8,go_sem,seval,↓reduceIte];refine (X0 w d ⟨9,a⟩ hw).use ?_;simp (disch:=omega) only [n9,h9,Vh,h3,h7,h8,go_sem,seval,↓reduceIte]
 ·simp (disch:=omega) only [Tryz.f29,go_sem,seval];refine (X0 w d ⟨3,a⟩ hw).use ?_;simp (disch:=omega) only [n3,h3,go_sem,seval];refine Zg [] _ _ _ _ (Zc ?_)
  by_cases h7:(⟨7,a⟩:Itm)∈w<;>by_cases h8:(⟨8,a⟩:Itm)∈w<;>by_cases h9:(⟨9,a⟩:Itm)∈w
  all_goals
   refine (X0 w d ⟨7,a⟩ hw).use ?_;simp (disch:=omega) only [n7,h7,go_sem,seval,↓reduceIte];refine (X0 w d ⟨8,a⟩ hw).use ?_;simp (disch:=omega) only [n8,h8,go_sem,seval,↓reduceIte];refine (X0 w d ⟨9,a⟩ hw).use ?_;simp (disch:=omega) only [n9,h9,Vh,h3,h7,h8,go_sem,seval,↓reduceIte]
theorem O0 {l:List Itm} {k:Nat} (hk:k<l.length):ME l (nth l k)=(k:Int)↔nth l k ∉ l.take k:=by
 constructor
 ·grind [ZN,ME,UK]
 ·intro h;refine RU hk rfl fun j hj e=>h ?_
  grind [Zh,ZN]
theorem Mw (x:Inst) (hs:ISz x) (hcap: ∀t∈x.types,t.cap.length<=1048576) (l:List Itm) (c:Bool) (hl:l.length<=1048576):PT 11 [.p (Zv x),.p (.list c (l.map YL))] [.p (Zv (KK x l)),.p (.int .i64 (Ub x l))]:=by
 have s1:=hs.ord;have s2:=hs.typ;have s3:=hs.ap;have s4:=hs.be;refine Zf [9,13,17] Tryz.func11 rfl Zjh ?_;simp (disch:=omega) only [Tryz.f11,go_sem,seval];have zI:Zv zeroI= .agg [.list true [],.list true [],.list true [],.list true [],.list true [],.list true []]:=rfl;refine Zk [1,2,4] (fun k:Nat=> [(6,.p (.int .i64 k))]) (fun _=> [Zi x,Zi zeroI]) (fun k=>k<=l.length/\ ∀j,j<k->WJ x l j=0) (fun k=>l.length-k) 0 Zb (Weak.mk ?_) ?_
 ·simp (disch:=omega) only [Zi,zeroI,Zn,go_sem,seval]
 ·rintro k ⟨hk,hno⟩;refine Ej ?_;refine cD ?_ ?_<;>intro h<;>simp (disch:=omega) only [Sh.out h,go_sem,seval,↓reduceIte]
  ·have hk2:k<l.length:=Za
   refine Xq (Zc ?_);refine Zo (oW x hs (nth l k)) (Zc ?_);refine cD ?_ ?_<;>intro h2<;>simp (disch:=omega) only [Sh.out h2,go_sem,seval,↓reduceIte]
   ·have h3:X9 x (nth l k)=false:=by grind
    have e0:WJ x l k=7:=by rw [WJ,h3];rfl
    have e:Ub x l=7:=by grind [AB]
    have r:KK x l=zeroI:=by rw [KK,e];rfl
    simp only [e,r,zeroI,Zn];exact we
   ·have h3:X9 x (nth l k)=true:=by grind
    refine (X0 l c (nth l k) hl).use (Zc ?_);refine ZK ?_ ?_<;>intro h4
    ·have h5:nth l k∈l.take k:=Kj fun h=>h4 ((O0 hk2).2 h)
     have e0:WJ x l k=6:=by simp_all [WJ]
     have e:Ub x l=6:=by grind [AB]
     have r:KK x l=zeroI:=by rw [KK,e];rfl
     simp only [e,r,zeroI,Zn];exact we
    ·have h5:nth l k ∉ l.take k:=(O0 hk2).1 (Z3.1 h4);exact ⟨k+1,⟨Za,Zp.2 ⟨hno,Ua.2 ⟨h3,h5⟩⟩⟩,Za,wk⟩
  ·have hkl:k=l.length:=Za
   subst hkl;have e:Ub x l=0:=LJ hno
   have r:KK x l=Zm x l:=by rw [KK,if_pos e]
   rw [e,r];clear hk h;refine Py 11 12 _ [.cells [.p (.list true []),.p (.list true []),.p (.list true []),.p (.list true []),.p (.list true []),.p (.list true [])]] (.ptr 2 0) mixed Zd Zd (by decide) rfl rfl Zb (fun fr'=>by simp (disch:=omega) only [go_sem,seval]) (Zc ?_);refine Zo (GR x.apart l 5 x.apart_c c Za hl) (Zc ?_);refine Zo (GR x.before l 6 x.before_c c Za hl) (Zc ?_);refine Zq (Weak.nilC (o:=2) (j:=3) 16 rfl rfl Zb) ?_;refine Zg [13,17] _ _ _ _ ?_
   simp (disch:=omega) only [Xa,Z1,ZO,ZD,go_sem,seval];obtain ⟨os,hos⟩: ∃os,os=Xu x.orders l:=⟨_,rfl⟩
   have hol:os.length=x.orders.length:=by rw [hos,WZ]
   refine ZZ [] [1,2,4,7] (fun q:Nat×List Ord=> [(8,.p (.int .i64 q.1))]) (fun q=> [Zi x,Zi zeroI,.cells [.p (.list x.net.places_c (x.net.places.map eS)),.p (.list x.net.arcs_c (x.net.arcs.map V2)),.p (.list true []),.sl 3 0 q.2.length q.2.length,.p (.list false ((Y9 x.apart l 5 x.apart.length).map eP)),.p (.list false ((Y9 x.before l 6 x.before.length).map eP))],.elems 16 (q.2.map Yo)]) (fun q=>q.1<=x.orders.length/\q.2=os.take q.1) (fun q=>x.orders.length-q.1) (0,[]) ⟨Zb,Zb⟩ (Weak.mk ?_) ?_
   ·simp (disch:=omega) only [Zi,zeroI,Zn,go_sem,seval]
   ·rintro ⟨k,m⟩ ⟨hk,hm⟩;simp only at hk hm
    have hml:m.length=k:=by grind
    refine Ej ?_;refine cD ?_ ?_<;>intro h<;>simp (disch:=omega) only [Sh.out h,go_sem,seval,↓reduceIte]
    ·have hk2:k<x.orders.length:=Za
     have htk:os.take (k+1)=os.take k++ [V3 (nth x.orders k) k l]:=by
      rw [XZ Za]
      congr 2
      rw [<- Zh Za,hos,Z8 hk2]
     refine ZB 11 mixed Zd Zd (Zc ?_);refine Zo (Mo (nth x.orders k) k l c hl) (Zc ?_);exact ⟨(k+1,m++ [V3 (nth x.orders k) k l]),⟨Za,by grind⟩,Za,Weak.mk (by simp (disch:=omega) only [Zn,go_sem,seval])⟩
    ·have hkl:k=x.orders.length:=Za
     have hmo:m=os:=by grind
     subst hmo;clear hm hk h;refine Zq (Weak.nilC (o:=2) (j:=2) 14 rfl rfl Zb) ?_;refine Zg [17] _ _ _ _ ?_;simp (disch:=omega) only [Xa,Z1,ZO,ZD,go_sem,seval];obtain ⟨ts,hts⟩: ∃ts,ts=Xw x.types l:=⟨_,rfl⟩
     have htl:ts.length=x.types.length:=by rw [hts,VA]
     refine ZZ [] [1,2,4,7] (fun q:Nat×List Typ=> [(9,.p (.int .i64 q.1))]) (fun q=> [Zi x,Zi zeroI,.cells [.p (.list x.net.places_c (x.net.places.map eS)),.p (.list x.net.arcs_c (x.net.arcs.map V2)),.sl 4 0 q.2.length q.2.length,.sl 3 0 m.length m.length,.p (.list false ((Y9 x.apart l 5 x.apart.length).map eP)),.p (.list false ((Y9 x.before l 6 x.before.length).map eP))],.elems 16 (m.map Yo),.elems 14 (q.2.map X8)]) (fun q=>q.1<=x.types.length/\q.2=ts.take q.1) (fun q=>x.types.length-q.1) (0,[]) ⟨Zb,Zb⟩ (Weak.mk ?_) ?_
     ·simp (disch:=omega) only [Zi,zeroI,Zn,go_sem,seval]
     ·rintro ⟨i,n⟩ ⟨hi,hn⟩;simp only at hi hn
      have hnl:n.length=i:=by grind
      refine Ej ?_;refine cD ?_ ?_<;>intro h<;>simp (disch:=omega) only [Sh.out h,go_sem,seval,↓reduceIte]
      ·have hi2:i<x.types.length:=Za
       have htk:ts.take (i+1)=ts.take i++ [Vh (nth x.types i) i l]:=by
        rw [XZ Za]
        congr 2
        rw [<- Zh Za,hts,Wt hi2]
       refine ZB 11 mixed Zd Zd (Zc ?_);refine Zo (OA (nth x.types i) i l c hl (hcap _ (Zt hi2))) (Zc ?_);exact ⟨(i+1,n++ [Vh (nth x.types i) i l]),⟨Za,by grind⟩,Za,Weak.mk (by simp (disch:=omega) only [Zn,go_sem,seval])⟩
      ·have hin:i=x.types.length:=Za
       have hnt:n=ts:=by grind
       subst hnt;clear hn hi h;refine Zq (Weak.fz (o:=3) (by rfl)) ?_;refine Zq (Weak.fz (o:=4) (by rfl)) (Zg [] _ _ _ _ (UX ?_));exact we (by simp (disch:=omega) only [Zm,hos,hts,go_sem,seval])
theorem nC {α:Type} [Inhabited α] {l:List α} {i:Nat} (h: ¬i<l.length):nth l i=default:=by grind [nth]
theorem ZeH {os:List Ord} {l:List Itm} (i:Nat):ZW (Xu os l) i=ZW os i:=by
 unfold ZW
 by_cases h:i<os.length
 ·rw [Z8 h];rfl
 grind [nC,WZ]
theorem OM {x:Inst} {l:List Itm} {v:List Vis} (h:Xk x v=0):Xk (Zm x l) v=0:=by
 have hsub1:=BN x.apart l 5;have hsub2:=BN x.before l 6
 have e1:v.any (Va (Zm x l))=v.any (Va x):=by
  congr 1;funext w;simp [Va,Zm,WZ]
 unfold Xk at h ⊢;rw [e1]
 split at h
 ·simp at h
 ·rename_i c1;rw [if_neg c1]
  have hin: ∀w∈v,w.order.toNat<x.orders.length:=fun w hw=>by
   have h5: ¬(v.any (Va x))=true:=fun e=>c1 (.inr e)
   have h6:Va x w=false:=by
    cases hb:Va x w with
    | false=>rfl
    | true=>exact absurd (Wx.2 ⟨w,hw,hb⟩) h5
   simp [Va] at h6;omega
  have e2:(v.any fun w=>(nth (Zm x l).orders w.order.toNat).off)=v.any fun w=>(nth x.orders w.order.toNat).off:=by
   rw [Wf,Wx,Wx]
   constructor
   ·rintro ⟨w,hw,h⟩;exact ⟨w,hw,by rw [show (Zm x l).orders=Xu x.orders l from rfl,Z8 (hin w hw)] at h;exact h⟩
   ·rintro ⟨w,hw,h⟩;exact ⟨w,hw,by rw [show (Zm x l).orders=Xu x.orders l from rfl,Z8 (hin w hw)];exact h⟩
  rw [e2]
  split at h
  ·simp at h
  ·rename_i c2;rw [if_neg c2]
   split at h
   ·simp at h
   ·rename_i c3;rw [if_neg c3]
    have e3:v.all (pairB (Zm x l).orders v)=v.all (pairB x.orders v):=by
     congr 1;funext w;simp only [pairB];rw [show (Zm x l).orders=Xu x.orders l from rfl,ZeH]
    rw [e3]
    split at h
    ·simp at h
    ·rename_i c4;rw [if_neg c4]
     split at h
     ·simp at h
     ·rename_i c5
      have c5': ¬((Zm x l).apart.any fun p=>hasO v p.1&&hasO v p.2)=true:=fun hh=>by
       obtain ⟨p,hp,hb⟩:=Wx.1 hh;exact c5 (Wx.2 ⟨p,hsub1.subset hp,hb⟩)
      rw [if_neg c5']
      split at h
      ·simp at h
      ·rename_i c6;rw [if_neg];intro hh;refine c6 ?_;obtain ⟨p,hp,hb⟩:=Wx.1 hh;exact Wx.2 ⟨p,hsub2.subset hp,hb⟩
structure WkT (t t':Typ) (sp sp':List Stp):Prop where
 len:sp'.length=sp.length
 cls:t.cls<=t'.cls
 drv:t.drive<=t'.drive
 rst:t'.rest=t.rest
 src:t'.src=t.src
 dst:t'.dst=t.dst
 prf:t'.prof=t.prof
 opn:t'.opn=t.opn
 stp: ∀k,k<sp.length-> ∃c,(nth sp k).cls<=c/\nth sp' k= { nth sp k with cls:=c }
theorem cV {x y:Inst} {t t' sp sp' k L b} (hn:y.net=x.net) (h:WkT t t' sp sp') (hk:k<=sp.length) (he:(nxtF x t sp k L b).2=0):nxtF y t' sp' k L b=nxtF x t sp k L b:=by
 have hplc: ∀k,k<=sp.length->Ui t' sp' k=Ui t sp k:=fun k hk=>by
  unfold Ui
  split
  ·exact h.src
  ·obtain ⟨c,_,e⟩:=h.stp (k-1) Za;rw [e]
 have hto:Pi t' sp' k=Pi t sp k:=by
  unfold Pi;rw [h.len]
  split
  ·exact h.dst
  ·obtain ⟨c,_,e⟩:=h.stp k Za;rw [e]
 have hd:ZM t' L b=ZM t L b:=by simp [ZM,h.rst]
 unfold nxtF at he ⊢
 have hg:Y7 y t' sp' k (ZM t' L b)=Y7 x t sp k (ZM t L b):=by rw [Y7,Y7,hn,h.prf,hplc k hk,hto,hd]
 rw [hg,hd];have h1:=h.cls;have h2:=h.drv;unfold WI at he ⊢;rw [h.len]
 split at he
 ·simp at he
 ·rename_i c1;rw [if_neg c1,if_neg c1]
  split at he
  ·grind
  ·rename_i c2;rw [if_neg c2,if_neg c2];obtain ⟨c,hc,e⟩:=h.stp k Za
   grind
theorem D9 {x y:Inst} {t t' sp sp'} (hn:y.net=x.net) (h:WkT t t' sp sp'): ∀(bs:List Bool) (k:Nat) (L z:Lab),k+bs.length<=sp.length+1->Wi (XE x t sp) k L bs=some z->Wi (XE y t' sp') k L bs=some z
 | [],k,L,z,_,e=>e
 | b::bs,k,L,z,hk,e=>by
  simp at hk;rw [Wi] at e ⊢;unfold XE at e ⊢
  by_cases c:(nxtF x t sp k L b).2=0
  ·rw [cV hn h Za c];rw [if_pos c] at e ⊢;exact D9 hn h bs (k+1) _ z Za e
  grind
theorem kY {fin:Lab->Int} : ∀ {l:List Lab},Vb fin none l=none↔l= []
 | []=>by simp [Vb]
 | a::l=>by
  rw [Vb];obtain ⟨z,e,_⟩:=VJ fin l a;rw [e];simp
theorem PG {x t sp st r} :(Yw x t sp st r).2=0↔ ∃bs∈XH r (sp.length+1),∃z,Wi (XE x t sp) 0 (labF t st) bs=some z:=by
 unfold Yw
 cases hf:Vb Wn none ((XH r (sp.length+1)).filterMap (Wi (XE x t sp) 0 (labF t st))) with
 | some L =>
  simp only [true_iff];have:=bestF_len.fmL_mem _ _ hf
  grind
 | none =>
  rw [kY] at hf;simp only
  constructor
  ·intro h
   have hm:YT r (sp.length+1)∈XH r (sp.length+1):=by
    grind [XH,YT,fromB_next]
   simp_all [YD]
  grind
theorem PF {x y:Inst} {t t' sp sp'} {st:Int} {r:List Bool} (hn:y.net=x.net) (h:WkT t t' sp sp') (hr:r.length<=sp.length+1) (h0:(Yw x t sp st r).2=0):(Yw y t' sp' st r).2=0:=by
 rw [PG] at h0 ⊢;obtain ⟨bs,hbs,z,hz⟩:=h0;rw [h.len]
 have hl:bs.length=sp.length+1:=by
  obtain ⟨q,hq,rfl⟩:=Xn.1 hbs;have:=bestF_len.fromB_len _ _ hq
  grind
 have el:labF t' st=labF t st:=by simp [labF,h.opn]
 grind [D9]
theorem nI {x:Inst} {l:List Itm} {v:List Vis} {n i:Nat} (hi:i<x.orders.length):Fo (Zm x l) v n i=Fo x v n i:=by
 unfold Fo;rw [show (Zm x l).orders=Xu x.orders l from rfl,Z8 hi];rfl
theorem T5 {x:Inst} {l:List Itm} {v:List Vis} {n:Nat} :Wm (Zm x l) v n=Wm x v n:=by
 unfold Wm;rw [show (Zm x l).types=Xw x.types l from rfl,J2];refine Y0 fun j _=> ?_;unfold Ek;rw [show (Zm x l).orders.length=x.orders.length from WZ _ _]
 congr 1
 refine Y0 fun i hi=> ?_;have hi:=Zz.1 hi;rw [nI hi,show (Zm x l).orders=Xu x.orders l from rfl,Z8 hi];rfl
theorem bN {a c:List Int} :V4 a c=true↔a.length=c.length/\ ∀i,i<a.length->nth a i<=nth c i:=by
 grind [V4]
theorem fE {t:Typ} {a:Int} {l:List Itm} {b:List Int} (hc: ∀n∈t.cap,n<=1000) (h:V4 b t.cap=true):V4 b (Vh t a l).cap=true:=by
 grind [bN,Vh,Zt]
theorem Pm {t:Typ} {s:Int} (h:Yq t s=true):Yq t 0=true:=by
 grind [Yq]
theorem bJ {x:Inst} {l:List Itm} {r:Rte} (hx:InstOk x) (hI: ∀v∈l,X9 x v=true) (h:Z6 x r=0):Z6 (Zm x l) r=0:=by
 unfold Z6 at h ⊢
 have hr:X2 x r=0:=by
  omega
 rw [if_pos hr] at h;unfold X2 at hr
 split at hr
 ·simp at hr
 ·rename_i c1;have c1:0<=r.typ/\r.typ<(x.types.length:Int):=Z3.1 c1
  split at hr
  ·omega
  ·rename_i c2;have c2:Xk x r.visits=0:=Z3.1 c2;have hsq:=VY c2
   split at hr
   ·simp at hr
   ·rename_i c3
    split at hr
    ·simp at hr
    ·rename_i c4
     split at hr
     ·simp at hr
     ·rename_i c5;have c5:=Z3.1 c5
      have htl:r.typ.toNat<x.types.length:=Za
      have ety:ZF (Zm x l) r=Vh (ZF x r) r.typ l:=by
       unfold ZF;rw [show (Zm x l).types=Xw x.types l from rfl,Wt htl]
       grind
      have hty:=hx.types.2 _ htl;have hlt:=TT (l:=l) htl hty;have htk:UD x.net x.types r.typ.toNat:=hty;unfold UD at htk;obtain ⟨⟨⟨⟨⟨⟨⟨⟨_,_⟩,_⟩,_⟩,hcap⟩,_⟩,hcl⟩,HA⟩,_⟩:=htk;have hcap':=(DH.1 hcap).2.2
      have hsp: ∀w∈r.visits,∃c,(Xp x w).cls<=c/\Xp (Zm x l) w= { Xp x w with cls:=c } :=fun w hw=>by
       obtain ⟨w1,w2⟩:=hsq.inr w hw
       have hi:w.order.toNat<x.orders.length:=Za
       have hord:=hx.orders.2 _ hi;have hpk:=hord.pstp;have hdk:=hord.dstp;simp only [stpOk,Zs] at hpk hdk;unfold Xp;rw [show (Zm x l).orders=Xu x.orders l from rfl,Z8 hi]
       split
       ·simp only [V3]
        grind
       ·simp only [V3]
        grind
      have hw:WkT (ZF x r) (ZF (Zm x l) r) (ZP x r.visits) (ZP (Zm x l) r.visits):=by
       rw [ety];refine ⟨by simp [ZP],?_,?_,rfl,rfl,rfl,rfl,rfl,fun k hk=> ?_⟩
       ·simp only [Vh];split
        ·exact hcl.2
        omega
       ·simp only [Vh];split
        ·have:=HA.1;simp [rng] at this;exact this.2
        omega
       ·simp [ZP] at hk
        have e: ∀y:Inst,nth (ZP y r.visits) k=Xp y (nth r.visits k):=fun y=>by
         grind [Zh,ZP]
        grind [Zt]
      have hr':X2 (Zm x l) r=0:=by
       unfold X2;rw [if_neg (by grind [Zm,VA]),if_neg (by rw [OM c2];simp)];rw [if_neg,if_neg,if_neg (fun hh=>hh c5)]
       ·grind [Qv,ZF,T5,fE]
       ·intro hh;refine c3 ?_;obtain ⟨w,hw2,hb⟩:=Wx.1 hh;refine Wx.2 ⟨w,hw2,?_⟩;obtain ⟨w1,w2⟩:=hsq.inr w hw2
        have hi:w.order.toNat<x.orders.length:=Za
        rw [show (Zm x l).orders=Xu x.orders l from rfl,Z8 hi,ety] at hb
        cases ha:Yq (ZF x r) (nth x.orders w.order.toNat).skills with
        | false=>rfl
        | true =>
         have e: ∀s,Yq (Vh (ZF x r) r.typ l) s=Yq (ZF x r) s:=fun s=>rfl
         grind [V3,Pm]
      rw [if_pos hr'];exact PF (x:=x) (y:=Zm x l) (t:=ZF x r) (t':=ZF (Zm x l) r) (sp:=ZP x r.visits) (sp':=ZP (Zm x l) r.visits) rfl hw (by grind [ZP]) h
set_option maxRecDepth 60000
theorem Tn {α:Type} [Inhabited α] {l:List α} {i j:Nat} {a:α} (h:i<l.length):nth (l.set i a) j=if i=j then a else nth l j:=by
 grind [nth]
theorem uZ {α:Type} [Inhabited α] {l:List α} {j:Nat} {a:α} (h:j<l.length):nth (l++ [a]) j=nth l j:=by
 grind [nth]
theorem Md {α:Type} [Inhabited α] {l:List α} {a:α} :nth (l++ [a]) l.length=a:=by
 grind [nth]
def cfK (a b:Col):Int:=vK [Y5 a.typ b.typ,Y5 a.set b.set]
theorem jJ {a b:Int} :Y5 a b<0↔a<b:=by grind [Y5]
theorem jK {a b:Int} :Y5 a b=0↔a=b:=by grind [Y5]
theorem BG {a b:Col} :cfK a b<0↔a.typ<b.typ\/(a.typ=b.typ/\a.set<b.set):=by
 grind [cfK,Fq,jK,jJ]
theorem sS : Go.Sort.SWO (ltOf cfK) where
 irrefl x:=by grind [ltOf,BG]
 trans x y z h1 h2:=by simp only [ltOf,Zs,BG] at *;omega
 ntrans x y z h1 h2:=by grind [ltOf,BG]
theorem Nj (a b:Col):PC 200 [.p (Xx a),.p (Xx b)] (.int .i64 (cfK a b)):=by
 refine Ze Tryz.func200 rfl Zcw ?_;simp (disch:=omega) only [Tryz.f200,go_sem,seval];refine Xq (Zc ?_);refine Zo (Ev a.typ b.typ) (Zc ?_);refine Zo (Ev a.set b.set) (Zc ?_);refine Zo (vL [Y5 a.typ b.typ,Y5 a.set b.set] false Zb) (Zc ?_)
 rfl
theorem wY (xs:List Col) (hl:xs.length<=1048576) {H:List AM.Obj} {o:Nat} (hH:H[o]? =some (.elems 7 (xs.map Xx))) :
  ACalls Tryz.prog 123 [.sl o 0 xs.length xs.length,.fn (.func 200) [] []] H fun y H'=>y= .tup []/\ ∃ys:List Col,ys.Perm xs/\ys.Pairwise (fun a b=> ¬cfK b a<0)/\H'=H.set o (.elems 7 (ys.map Xx)) :=
 ACalls.sortFunc OT lW 7 Tryz.isAgg107 Tryz.sizeOf107 Xx (fun x=>⟨_,rfl,rfl,rfl⟩) cfK sS 200 Nj xs Za hH
def kd (c:Col):Kd:=⟨c.typ,c.set⟩
def Bst (l:List Col) (k:Nat) (d:Col):Prop:= ∃j,j<k/\nth l j=d/\ ∀i,i<k->kd (nth l i)=kd d->d.price<(nth l i).price\/(d.price=(nth l i).price/\j<=i)
structure Chp (l:List Col) (k:Nat) (m:List (Kd×Int)) (out:List Col):Prop where
 len:out.length<=k
 at1: ∀i,i<out.length->mq m (kd (nth out i))=some (i:Int)
 at2: ∀q v,mq m q=some v-> ∃i,i<out.length/\v=i/\kd (nth out i)=q
 bst: ∀i,i<out.length->Bst l k (nth out i)
 all: ∀j,j<k-> ∃i,i<out.length/\kd (nth out i)=kd (nth l j)
theorem Nn (l:List Col):Chp l 0 [] []:=⟨Zb,fun i h=>by simp at h,fun q v h=>by simp [mq] at h,fun i h=>by simp at h,fun j h=>by simp at h⟩
theorem Sv {l:List Col} {k:Nat} {m m':List (Kd×Int)} {out:List Col} (h:Chp l k m out) (hn:mq m (kd (nth l k))=none) (hm: ∀q,mq m' q=if q=kd (nth l k) then some (out.length:Int) else mq m q):Chp l (k+1) m' (out++ [nth l k]):=by
 have hno: ∀i,i<out.length->kd (nth out i)≠kd (nth l k):=fun i hi e=>by
  have:=h.at1 i hi
  grind
 have split: ∀i,i<(out++ [nth l k]).length->(i<out.length/\nth (out++ [nth l k]) i=nth out i)\/(i=out.length/\nth (out++ [nth l k]) i=nth l k):=fun i hi=>by
  simp only [ZJ,ZC,ZG] at hi;rcases WM i out.length with h1 | h1
  ·grind [uZ]
  ·obtain rfl:i=out.length:=Za
   exact .inr ⟨rfl,Md⟩
 refine ⟨by have:=h.len;simp;omega,fun i hi=> ?_,fun q v hq=> ?_,fun i hi=> ?_,fun j hj=> ?_⟩
 ·rcases split i hi with ⟨h1,e⟩ | ⟨rfl,e⟩
  ·rw [e,hm,if_neg (hno i h1)];exact h.at1 i h1
  grind
 ·rw [hm] at hq
  split at hq
  ·grind [Md]
  ·obtain ⟨i,h1,h2,h3⟩:=h.at2 q v hq
   grind
 ·rcases split i hi with ⟨h1,e⟩ | ⟨rfl,e⟩
  ·rw [e];obtain ⟨j,h2,h3,h4⟩:=h.bst i h1;refine ⟨j,Za,h3,fun p hp he=> ?_⟩
   grind
  ·rw [e];refine ⟨k,Za,rfl,fun p hp he=> ?_⟩;rcases CM.1 hp with h5 | rfl
   ·obtain ⟨i,h6,h7⟩:=h.all p h5
    grind
   omega
 ·rcases CM.1 hj with h5 | rfl
  ·obtain ⟨i,h6,h7⟩:=h.all j h5
   grind
  ·exact ⟨out.length,Zb,by rw [Md]⟩
theorem Sw {l:List Col} {k:Nat} {m:List (Kd×Int)} {out:List Col} {i:Nat} (h:Chp l k m out) (hi:i<out.length) (hk:kd (nth out i)=kd (nth l k)):Chp l (k+1) m (if (nth l k).price<(nth out i).price then out.set i (nth l k) else out):=by
 have hun: ∀j,j<out.length->kd (nth out j)=kd (nth l k)->j=i:=fun j hj e=>by
  have h1:=h.at1 j hj;have h2:=h.at1 i hi
  grind
 split
 ·rename_i hp
  have key: ∀j,kd (nth (out.set i (nth l k)) j)=kd (nth out j):=fun j=>by
   grind [Tn]
  refine ⟨by have:=h.len;simp;omega,fun j hj=> ?_,fun q v hq=> ?_,fun j hj=> ?_,fun j hj=> ?_⟩
  ·rw [key];exact h.at1 j (by grind)
  ·obtain ⟨j,h1,h2,h3⟩:=h.at2 q v hq
   grind
  ·simp only [QW] at hj;rw [Tn hi]
   split
   ·rename_i e;subst e;refine ⟨k,Za,rfl,fun p hp2 he=> ?_⟩;rcases CM.1 hp2 with h5 | rfl
    ·obtain ⟨j,h6,h7,h8⟩:=h.bst i hi
     grind
    omega
   ·rename_i e;obtain ⟨p,h2,h3,h4⟩:=h.bst j hj;refine ⟨p,Za,h3,fun p' hp' he=> ?_⟩
    grind
  ·rcases CM.1 hj with h5 | rfl
   ·obtain ⟨p,h6,h7⟩:=h.all j h5
    grind
   grind
 ·rename_i hp;refine ⟨by have:=h.len;omega,h.at1,h.at2,fun j hj=> ?_,fun j hj=> ?_⟩
  ·obtain ⟨p,h2,h3,h4⟩:=h.bst j hj;refine ⟨p,Za,h3,fun p' hp' he=> ?_⟩
   grind
  ·rcases CM.1 hj with h5 | rfl
   ·exact h.all j h5
   grind
structure Cheap (l ys:List Col):Prop where
 asc:ys.Pairwise fun a b=>cfK a b<0
 bst: ∀d∈ys,Bst l l.length d
 all: ∀c∈l,∃d∈ys,kd d=kd c
theorem Su {l:List Col} {m:List (Kd×Int)} {out ys:List Col} (h:Chp l l.length m out) (hp:ys.Perm out) (ha:ys.Pairwise fun a b=> ¬cfK b a<0):Cheap l ys:=by
 have hnd:out.Pairwise fun a b=>kd a≠kd b:=by
  rw [VP];intro i j hi hj hij e;have h1:=h.at1 i hi;have h2:=h.at1 j hj
  grind [Zh]
 have hnd2:ys.Pairwise fun a b=>kd a≠kd b:=(hp.pairwise_iff fun h e=>h e.symm).2 hnd;refine ⟨(hnd2.and ha).imp fun {a b} hh=> ?_,fun d hd=> ?_,fun c hc=> ?_⟩
 ·rw [BG] at hh ⊢
  grind [kd]
 ·obtain ⟨i,hi,rfl⟩:=ZN.1 (hp.mem_iff.1 hd);rw [<- Zh hi];exact h.bst i hi
 ·obtain ⟨j,hj,rfl⟩:=ZN.1 hc;obtain ⟨i,hi,e⟩:=h.all j hj
  grind [Zh]
theorem PP (l:List Col) (c:Bool) (hl:l.length<=8192):ACalls Tryz.prog 166 [.p (.list c (l.map Xx))] [] fun y H'=> ∃ys:List Col,(Cheap l ys/\ys.length<=l.length)/\y= .p (.list false (ys.map Xx))/\H'= []:=by
 refine Zf [15] Tryz.func166 rfl Zb5 ?_;simp (disch:=omega) only [Tryz.f166,go_sem,seval];refine Zk [3,11,12] (fun q:Nat×List (Kd×Int)×List Col=> [(4,.sl 1 0 q.2.2.length q.2.2.length),(13,.p (.int .i64 q.1))]) (fun q=> [.map (q.2.1.map (Nx fN)),.elems 7 (q.2.2.map Xx)]) (fun q=>q.1<=l.length/\Chp l q.1 q.2.1 q.2.2) (fun q=>l.length-q.1) (0,[],[]) ⟨Zb,Nn l⟩ (Weak.ofNil 4 7 (by simp (disch:=omega) only [go_sem,seval]) Zb (Weak.mk ?_)) ?_
 ·simp (disch:=omega) only [Zn,ZG,go_sem,seval]
 ·rintro ⟨k,m,out⟩ ⟨hk,hC⟩;simp only at hk hC;have hol:=hC.len;refine Zc ?_;refine cD ?_ ?_<;>intro h1<;>simp (disch:=omega) only [Sh.out h1,go_sem,seval,↓reduceIte]
  ·have hk2:k<l.length:=Za
   refine mN (l:=m) (k:=kd (nth l k)) mJ (fun _ _=>trivial) trivial (by rfl) (Zc ?_)
   cases hq:mq m (kd (nth l k)) with
   | none =>
    simp (disch:=omega) only [AP,Option.getD_none,go_sem,seval];refine Mn (l:=m) (k:=kd (nth l k)) mJ (fun _ _=>trivial) trivial (by rfl) fun m' hm' _=> ?_;simp (disch:=omega) only [Z1,go_sem,seval];exact ⟨(k+1,m',out++ [nth l k]),⟨Za,Sv hC hq hm'⟩,Za,Weak.mk (by simp (disch:=omega) only [XD,Zr,Zn,ZJ,ZC,ZG,Xt,go_sem,seval])⟩
   | some v =>
    obtain ⟨i,hi,rfl,hkd⟩:=hC.at2 _ _ hq;have hold:=Sw hC hi hkd;simp (disch:=omega) only [Ko,Kc,go_sem,seval];refine Xq ?_;simp (disch:=first | omega | (simp only [ZC,ZG,ZJ,Z2,Xi,XN]<;>omega)) only [U4 hi,hi,go_sem,seval,↓reduceIte];refine ZK ?_ ?_<;>intro h2
    ·rw [if_pos h2] at hold;simp (disch:=first | omega | (simp only [ZC,ZG,ZJ,Z2,Xi,XN]<;>omega)) only [go_sem,seval];exact ⟨(k+1,m,out.set i (nth l k)),⟨Za,hold⟩,Za,Weak.mk (by simp (disch:=omega) only [U6,QW,go_sem,seval])⟩
    ·rw [if_neg h2] at hold;exact ⟨(k+1,m,out),⟨Za,hold⟩,Za,wk⟩
  ·have hkl:k=l.length:=Za
   subst hkl;refine (wY out Za (H:=_) (o:=1) rfl).mono ?_;rintro y H' ⟨rfl,ys,g1,g2,rfl⟩;have hyl:ys.length=out.length:=g1.length_eq;refine Al ?_;rw [<- hyl];refine Zq (Weak.fz (o:=1) (by rfl)) (Zg [] _ _ _ _ (UX ?_));exact ⟨.p (.list false (ys.map Xx)),[],wk,ys,⟨Su hC g1 g2,Za⟩,rfl,rfl⟩
def Yk (x:Inst):Nat->Nat
 | 0=>0
 | i+1=>if (nth x.orders i).off=true then Yk x i else Yk x i|||pw i
theorem N5 (x:Inst): ∀i,Yk x i<2^i
 | 0=>by simp [Yk]
 | i+1=>by
  have:=N5 x i
  have h:2^(i+1)=2*2^i:=Za
  rw [Yk]
  split
  ·omega
  ·exact Jn Za (by rw [pw];omega)
theorem Qh (x:Inst): ∀(n i:Nat),(Yk x n).testBit i=(decide (i<n)&& !(nth x.orders i).off)
 | 0,i=>by simp [Yk]
 | n+1,i=>by
  rw [Yk]
  split
  ·rename_i h;rw [Qh x n i]
   by_cases e:i=n
   ·subst e;simp [h]
   ·have:decide (i<n+1)=decide (i<n):=by simp;omega
    rw [this]
  ·rename_i h;rw [AT,Qh x n i,pw,Nat.testBit_two_pow]
   grind
theorem Zap (o:Ord):PC 198 [.p (Yo o)] (.bool true):=by
 refine Ze Tryz.func198 rfl Zcu ?_;simp (disch:=omega) only [Tryz.f198,go_sem,seval,↓reduceIte]
theorem Zew (x:Inst) (hn:x.orders.length<=10):PC 197 [.p (Zv x),.fn (.func 198) [] []] (.int .i64 ((Yk x x.orders.length:Nat):Int)):=by
 refine Zf [] Tryz.func197 rfl Zct ?_;simp (disch:=omega) only [Tryz.f197,go_sem,seval];refine Zk [1,9,10] (fun k:Nat=> [(5,.p (.int .i64 ((Yk x k:Nat):Int))),(11,.p (.int .i64 k))]) (fun _=> [Zi x]) (fun k=>k<=x.orders.length) (fun k=>x.orders.length-k) 0 Zb (Weak.mk ?_) ?_
 ·have h00:((Yk x 0:Nat):Int)=0:=rfl;simp (disch:=omega) only [h00,Zi,go_sem,seval]
 ·intro k hk;refine Yl ?_;refine cD ?_ ?_<;>intro h1<;>simp (disch:=omega) only [Sh.out h1,go_sem,seval,↓reduceIte]
  ·have hk2:k<x.orders.length:=Za
   have hm:=N5 x k;have hp:2^k<=2^10:=YA Za Za;have hpw:pw k<=1024:=hp;refine Ql ?_ ?_<;>intro h2
   ·refine (Zap (nth x.orders k)).use (Zc ?_)
    have ho:(nth x.orders k).off=false:=by grind
    exact ⟨k+1,Za,Za,Weak.mk (by simp (disch:=omega) only [Yk,ho,Y1,go_sem,seval,↓reduceIte])⟩
   ·have ho:(nth x.orders k).off=true:=by grind
    exact ⟨k+1,Za,Za,Weak.mk (by simp (disch:=omega) only [Yk,ho,go_sem,seval,↓reduceIte])⟩
  ·have hkl:k=x.orders.length:=Za
   subst hkl;exact we
theorem Zd8 (x:Inst) (hn:x.orders.length<=10):PC 164 [.p (Zv x)] (.int .i64 ((Yk x x.orders.length:Nat):Int)):=by
 refine Ze Tryz.func164 rfl Zb3 ?_;simp (disch:=omega) only [Tryz.f164,go_sem,seval];refine (Zew x hn).use ?_;simp (disch:=omega) only [go_sem,seval]
def R2 (S M:Nat):Bool:=(List.range 63).all fun i=> !S.testBit i||M.testBit i
theorem wQ (S M:Nat) (hS:S<9223372036854775808):PC 199 [.p (.int .i64 (S:Int)),.p (.int .i64 (M:Int))] (.bool (R2 S M)):=by
 refine Ze Tryz.func199 rfl Zcv ?_;simp (disch:=omega) only [Tryz.f199,go_sem,seval];have hb:=Et (S:=S) (M:=M) hS
 have hd:decide (IntKind.i64.wrap ((BitVec.ofInt 64 (S:Int)&&& ~~~BitVec.ofInt 64 (M:Int)).toNat:Int)=0)=((List.range 63).all fun i=> !S.testBit i||M.testBit i):=by
  grind
 exact ZY (fun b=>V.p (PV.bool b)) hd
def rightB (x:Inst) (c:Col):Bool:=decide (0<=c.typ)&&(decide (c.typ<x.types.length)&&(decide (0<c.set)&&(R2 c.set.toNat (Yk x x.orders.length)&&(decide (0<=c.price)&&decide (c.price<=18014398509481984)))))
theorem aW (x:Inst) (c:Col) (hs:c.set<9223372036854775808) (ht:x.types.length<=1048576):PC 165 [.p (Zv x),.p (Xx c),.p (.int .i64 ((Yk x x.orders.length:Nat):Int))] (.bool (rightB x c)):=by
 refine Ze Tryz.func165 rfl Zb4 ?_;simp (disch:=omega) only [Tryz.f165,go_sem,seval];refine gT ?_ ?_<;>intro h1<;>simp (disch:=omega) only [Sh.out h1,go_sem,seval,↓reduceIte]
 ·refine gT ?_ ?_<;>intro h2<;>simp (disch:=omega) only [Sh.out h2,go_sem,seval,↓reduceIte]
  ·refine gT ?_ ?_<;>intro h3<;>simp (disch:=omega) only [Sh.out h3,go_sem,seval,↓reduceIte]
   ·obtain ⟨S,hS⟩: ∃S:Nat,c.set=(S:Int):=⟨c.set.toNat,Za⟩
    have e1:rightB x c=(R2 S (Yk x x.orders.length)&&(decide (0<=c.price)&&decide (c.price<=18014398509481984))):=by
     simp_all [rightB]
    rw [hS];refine (wQ S (Yk x x.orders.length) Za).use (Zc ?_);refine gT ?_ ?_<;>intro h4<;>simp (disch:=omega) only [Sh.out h4,go_sem,seval,↓reduceIte]
    ·refine gT ?_ ?_<;>intro h5<;>simp (disch:=omega) only [Sh.out h5,go_sem,seval,↓reduceIte]
     ·grind
     grind
    grind
   grind [rightB]
  grind [rightB]
 ·simp [rightB,h1]
theorem Zqp (n:Nat) (h0:0<n) (h:n<16):PC 174 [.p (.int .u64 n)] (.int .i64 (Bf n)):=by
 refine Ze Tryz.func174 rfl Zcc ?_;simp (disch:=omega) only [Tryz.f174,go_sem,seval];refine (ZeB n h0 h).use ?_;simp (disch:=omega) only [go_sem,seval]
theorem OJ (n:Nat) (h0:0<n) (h:n<16):PC 125 [.p (.int .i64 n)] (.int .i64 (Bf n)):=by
 refine Ze Tryz.func125 rfl ZbF ?_;simp (disch:=omega) only [Tryz.f125,go_sem,seval];refine cD ?_ ?_<;>intro h1<;>simp (disch:=omega) only [Sh.out h1,go_sem,seval]
 ·omega
 ·refine (Zqp n h0 h).use ?_;simp (disch:=omega) only [go_sem,seval]
def skpF (x:Inst) (i:Nat):Int:=if (unsF x i).2=0/\(Xm (unsF x i).1).2=0 then (Xm (unsF x i).1).1 else-1
def Yt (ys:List Col) (i:Nat):List Col:=ys.filter fun c=>decide (Bf c.set.toNat=(i:Int))
def fstF (n:Nat) (ys:List Col):List (List Col):=(List.range n).map (Yt ys)
theorem dK {ys:List Col} {k i:Nat} (h:k<ys.length):Yt (ys.take (k+1)) i=if Bf (nth ys k).set.toNat=(i:Int) then Yt (ys.take k) i++ [nth ys k] else Yt (ys.take k) i:=by
 grind [XZ,Yt,nth]
theorem oL (i:Nat):Yt [] i= []:=rfl
theorem Dd (ys:List Col) (k i:Nat):(Yt (ys.take k) i).length<=ys.length:=by
 refine AX (List.length_filter_le _ _) ?_;simp;omega
theorem J7 (ys):fstF 0 ys= []:=rfl
theorem Jg (ys):fstF 1 ys= [Yt ys 0]:=rfl
theorem Jh (ys):fstF 2 ys= [Yt ys 0,Yt ys 1]:=rfl
theorem Ji (ys):fstF 3 ys= [Yt ys 0,Yt ys 1,Yt ys 2]:=rfl
theorem Jj (ys):fstF 4 ys= [Yt ys 0,Yt ys 1,Yt ys 2,Yt ys 3]:=rfl
def Dj : List (List Col)->Nat->List V
 | [],_=> []
 | p::P,o=> .sl o 0 p.length p.length::Dj P (o+1)
def II (P:List (List Col)):List AM.Obj:=P.map fun p=> .elems 7 (p.map Xx)
theorem cQ {n0:Nat} {fr:List V} {a b c:AM.Obj} (h0:n0<=4) (n:Nat):Weak n0 fr [a,b,c,.cells (List.replicate n (.p (.list true [])))] fr (a::b::c:: .cells (Dj (List.replicate n []) 4)::II (List.replicate n [])):=by
 have hr: ∀(k o:Nat),Dj (List.replicate k []) o=(List.range k).map fun j=>V.sl (o+j) 0 0 0:=fun k=>by
  induction k with
  | zero=>intro o;rfl
  | succ k ih =>
   intro o;rw [K3,Dj,ih,List.range_succ_eq_map,Zr,List.map_map];simp only [ZG,VN,List.cons.injEq,true_and];apply Y0
   grind
 have key: ∀k,k<=n->Weak n0 fr [a,b,c,.cells (List.replicate n (.p (.list true [])))] fr (a::b::c:: .cells (((List.range k).map fun j=>V.sl (4+j) 0 0 0)++List.replicate (n-k) (.p (.list true [])))::List.replicate k (.elems 7 [])):=fun k=>by
  induction k with
  | zero=>grind [Weak.refl]
  | succ k ih =>
   intro hk
   have h1:=(ih Za).trans (Weak.nilC (n0:=n0) (fr:=fr) (o:=3) (j:=k) 7 (by rfl) (by
    grind) (by simp;omega))
   have e1:List.length (a::b::c::AM.Obj.cells (((List.range k).map fun j=>V.sl (4+j) 0 0 0)++List.replicate (n-k) (.p (.list true [])))::List.replicate k (AM.Obj.elems 7 []))=4+k:=by simp;omega
   have e2:(((List.range k).map fun j=>V.sl (4+j) 0 0 0)++List.replicate (n-k) (V.p (.list true []))).set k (.sl (4+k) 0 0 0)=((List.range (k+1)).map fun j=>V.sl (4+j) 0 0 0)++List.replicate (n-(k+1)) (V.p (.list true [])):=by
    rw [Fe _ _ Zb,show n-k=(n-(k+1))+1 by omega,K3,X6,XD];simp
   grind [Fh]
 have:=key n (Zw _)
 simp_all [II]
def skF (x:Inst) (n:Nat):List Int:=(List.range n).map (skpF x)
def sO (x:Inst) (m:Int) (f g:V):AM.Obj:= .cells [.p (.list x.net.places_c (x.net.places.map eS)),.p (.list x.net.arcs_c (x.net.arcs.map V2)),.p (.list x.types_c (x.types.map X8)),.p (.list x.orders_c (x.orders.map Yo)),.p (.list x.apart_c (x.apart.map eP)),.p (.list x.before_c (x.before.map eP)),f,g,.mp 1,.p (.int .i64 m)]
theorem QC {x:Inst} {c:Col} (h:rightB x c=true) (hs:c.set<9223372036854775808): ∃S:Nat,c.set=S/\0<S/\S<2^x.orders.length/\ ∀i,S.testBit i=true->i<x.orders.length/\(nth x.orders i).off=false:=by
 simp only [rightB,ZE,Zs] at h;obtain ⟨_,_,h3,h4,_⟩:=h
 have key: ∀i,c.set.toNat.testBit i=true->i<x.orders.length/\(nth x.orders i).off=false:=fun i hi=>by
  have h63:i<63:=by
   rcases WM i 63 with h | h
   ·exact h
   ·have:2^63<=2^i:=YA Za h
    grind [AK]
  have:=Zx.1 h4 i (Zz.2 h63)
  grind [Qh]
 refine ⟨c.set.toNat,Za,Za,?_,key⟩;refine Nat.lt_pow_two_of_testBit _ fun i hi=> ?_
 grind
theorem ZeC {S n:Nat} (h0:0<S) (h:S<2^n) (hn:n<=4):Bf S<n/\0<=Bf S:=by
 have:n=0\/n=1\/n=2\/n=3\/n=4:=Za
 unfold Bf
 grind
theorem G2 (x:Inst) (k:Nat):skF x (k+1)=skF x k++ [skpF x k]:=by simp [skF,X6]
theorem Ks (x:Inst) (k:Nat):(skF x k).length=k:=by simp [skF]
theorem Zk3 (x:Inst):skF x 0= []:=rfl
theorem NW {P:Program} {ko:List Nat} {l:List Oper} {n:Nat} {rem:List Nat} {fr:List V} {H:List AM.Obj} {K:List V->List AM.Obj->Prop} (m:Nat) (Y:V) (Z:List AM.Obj) (hr:QB l rem= [m]) (h:Zy P (Xb l m) fr H fun y H'=>y=Y/\H'=Z)
  (k:(∀k∈ko,oat Z k=oat H k)/\CI P ko l n (rem.erase m) (UQ fr (Xb l m).dst Y) Z K):CI P ko l (n+1) rem fr H K :=
 Im m _ hr h fun y H' hq=>by grind
theorem aV (x:Inst) (l:List Col) (lc:Bool) (hn:x.orders.length<=4) (ht:x.types.length<=1048576) (hu: ∀i:Nat,scoR 1152921504606846976 (unsF x i).1) (hs: ∀c∈l,c.set<9223372036854775808) (hl:l.length<=1048576) :
  ACalls Tryz.prog 119 [.p (Zv x),.p (.list lc (l.map Xx))] [] fun y H'=>(8192<l.length/\y= .tup [.p .nilp,.p (.int .i64 4)]/\H'= [])\/(l.length<=8192/\(∃c∈l,rightB x c=false)/\y= .tup [.p .nilp,.p (.int .i64 2)]/\H'= []) \/
   (l.length<=8192/\(∀c∈l,rightB x c=true)/\ ∃ys,(Cheap l ys/\ys.length<=l.length)/\y= .tup [.ptr 2 0,.p (.int .i64 0)]/\H'= .cells (List.replicate 6 .junk)::(Y4 x (.list false ((fstF x.orders.length ys).map WD)) (.list false ((skF x x.orders.length).map eI)) (Yk x x.orders.length) []).map (shO 1)):=by
 refine Zf [10] Tryz.func119 rfl ZbA ?_;simp (disch:=omega) only [Tryz.f119,go_sem,seval];refine cD ?_ ?_<;>intro h0<;>simp (disch:=omega) only [Sh.out h0,go_sem,seval]
 ·exact ⟨_,[],wk,.inl ⟨Za,rfl,rfl⟩⟩
 ·refine XJ [1] 4 mixed Zd Zd Zd Zb (Zc ?_);refine Zo (Zd8 x Za) (Zc ?_);refine Z0 1 _ _ Zd (by refine Zc ?_;exact ⟨rfl,rfl⟩) (YN ?_);simp (disch:=omega) only [show ∀(l:List V),QJ (V.mp 1::l)=none from fun _=>rfl,Option.map_none,go_sem,seval];refine Zk [1,2,6,27,28] (fun k:Nat=> [(29,.p (.int .i64 k))]) (fun _=> [Zi x,.map [],sO x ((Yk x x.orders.length:Nat):Int) (.p (.list true [])) (.p (.list true []))]) (fun k=>k<=l.length/\ ∀j,j<k->rightB x (nth l j)=true) (fun k=>l.length-k) 0 ⟨Za,fun j hj=>Za⟩ (Weak.mk ?_) ?_
  ·simp (disch:=omega) only [Zi,sO,go_sem,seval]
  ·rintro k ⟨hk,hr⟩;simp (disch:=omega) only [Zi,sO,go_sem,seval];refine cD ?_ ?_<;>intro h1<;>simp (disch:=omega) only [Sh.out h1,go_sem,seval,↓reduceIte]
   ·have hk2:k<l.length:=Za
    refine Xq (Zc ?_);refine Zo (aW x (nth l k) (hs _ (ZL hk2)) ht) (Zc ?_)
    cases hq:rightB x (nth l k) with
    | false =>
     refine G7 ?_;exact ⟨_,[],wk,.inr (.inl ⟨Za,⟨_,ZL hk2,hq⟩,rfl,rfl⟩)⟩
    | true =>
     refine B3 ?_
     exact ⟨k+1,⟨Za,fun j hj=>by
      grind⟩,Za,wk⟩
   ·have hkl:k=l.length:=Za
    subst hkl
    have hall: ∀c∈l,rightB x c=true:=fun c hc=>by
     obtain ⟨j,hj,rfl⟩:=ZN.1 hc
     grind [Zh]
    clear hr hk h1;generalize ((Yk x x.orders.length:Nat):Int)=m;have hun: ∀i:Nat,PT 167 [.p (Zv x),.p (.int .i64 i)] [.p (Bl (unsF x i).1),.p (.int .i64 (unsF x i).2)]:=fun i=>Ou x i Za;refine Wa (Lq 4 rfl rfl (Zc ?_));refine ⟨_,_,cZ 248 83 _ _ x.orders.length 24 (.list true []) rfl Zd Zd Zd Zd (by rfl) Za Za (by simp (disch:=omega) only [go_sem,seval]) (by simp (disch:=omega) only [go_sem,seval]),?_⟩
    refine Zc ?_
    have h5:x.orders.length=0\/x.orders.length=1\/x.orders.length=2\/x.orders.length=3\/x.orders.length=4:=Za
    refine Zq (cQ Zb x.orders.length) ?_;refine Zg [17] _ _ _ _ (Zc ?_);refine (PP l lc Za).useV fun ys hC=>Zc ?_;obtain ⟨hC,hyl⟩:=hC;rcases h5 with h5 | h5 | h5 | h5 | h5
    all_goals
     simp (disch:=omega) only [h5,List.replicate,Dj,II,Zr,Zn,go_sem,seval];refine Zk [2,6,50,51] (fun k:Nat=> [(52,.p (.int .i64 k))]) (fun k=> [Zi x,.map [],sO x m (.sl 3 0 x.orders.length x.orders.length) (.p (.list true [])),.cells (Dj (fstF x.orders.length (ys.take k)) 4)]++II (fstF x.orders.length (ys.take k))) (fun k=>k<=ys.length) (fun k=>ys.length-k) 0 Za (Weak.mk ?_) ?_
     ·simp (disch:=omega) only [h5,Vq,oL,ZG,J7,Jg,Jh,Ji,Jj,Dj,II,Zr,Zn,ZO,ZD,Zi,sO,go_sem,seval]
     ·intro k hk;simp (disch:=omega) only [h5,J7,Jg,Jh,Ji,Jj,Dj,II,Zr,Zn,ZO,ZD,Zi,sO,go_sem,seval];refine cD ?_ ?_<;>intro h1<;>simp (disch:=omega) only [Sh.out h1,go_sem,seval,↓reduceIte]
      ·have hk2:k<ys.length:=Za
       obtain ⟨j,hj,hjl,_⟩:=hC.bst _ (ZL hk2)
       have hmem:nth ys k∈l:=by rw [<- hjl];exact ZL hj
       obtain ⟨S,hS,hS0,hS1,hS2⟩:=QC (hall _ hmem) (hs _ hmem);have hlt:=ZeC hS0 hS1 hn;have h16:S<16:=UM hS1 (by rw [h5];decide)
       have cl:PC 125 [.p (.int .i64 (nth ys k).set)] (.int .i64 (Bf (nth ys k).set.toNat)):=by
        rw [hS];exact OJ S hS0 h16
       refine (cl).use ?_;simp (disch:=omega) only [go_sem,seval]
       have htz:Bf (nth ys k).set.toNat=Bf S:=by rw [hS];rfl
       have hi:Bf (nth ys k).set.toNat=0\/Bf (nth ys k).set.toNat=1\/Bf (nth ys k).set.toNat=2\/Bf (nth ys k).set.toNat=3:=Za
       rcases hi with hi | hi | hi | hi
       all_goals try omega
       all_goals
        simp (disch:=omega) only [hi,go_sem,seval];refine BD [14] [1,2,3] [2] 15 mixed Zd Zd Zd Zd Zb ?_;simp (disch:=omega) only [go_sem,seval,↓reduceIte];refine ⟨fun q hq p' hp=> ?_,?_⟩
        ·simp only [Z4,We,Wz] at hq;rcases hq with rfl | rfl | rfl
         ·obtain rfl:59=p':=Vp hp;exact Uc (by decide)
         ·obtain rfl:60=p':=Vp hp;exact Uc (by decide)
         ·obtain rfl:61=p':=Vp hp;exact Uc (by decide)
        ·have q0:=Dd ys k 0;have q1:=Dd ys k 1;have q2:=Dd ys k 2;have q3:=Dd ys k 3;refine NW 14 _ _ Zd (by simp (disch:=omega) only [go_sem,seval,↓reduceIte];exact ⟨rfl,rfl⟩) ?_;refine ⟨fun k hk=>by simp at hk;subst hk;rfl,L6 ?_⟩;simp (disch:=omega) only [go_sem,seval];exact ⟨k+1,Za,Za,Weak.mk (by simp (disch:=omega) only [h5,dK hk2,hi,XD,ZJ,ZC,ZG,Xt,Jg,Jh,Ji,Jj,Dj,Zr,Zn,go_sem,seval,↓reduceIte])⟩
      ·have hkl:k=ys.length:=Za
       subst hkl;clear hk h1
       try refine Zq (Weak.fz (o:=4) (by rfl)) ?_
       try refine Zq (Weak.fz (o:=5) (by rfl)) ?_
       try refine Zq (Weak.fz (o:=6) (by rfl)) ?_
       try refine Zq (Weak.fz (o:=7) (by rfl)) ?_
       refine Zg [17] _ _ _ _ ?_;simp (disch:=omega) only [X5,Zr,Zn,Xa,Z1,eq_self,go_sem,seval,↓reduceIte];refine Zq (Weak.fzC (o:=3) (ys:=(fstF x.orders.length ys).map WD) (by rw [h5];rfl) (fun y hy=>by obtain ⟨p,_,rfl⟩:=Xn.1 hy;rfl)) ?_;refine Zg [17] _ _ _ _ ?_;simp (disch:=omega) only [h5,J7,Jg,Jh,Ji,Jj,Zr,Zn,Xa,Z1,ZC,ZG,Xt,Nat.reduceAdd,eq_self,go_sem,seval,↓reduceIte]
       refine Zg [28] _ _ _ _ ?_;simp (disch:=omega) only [go_sem,seval,↓reduceIte];refine Zk [2,6,78] (fun k:Nat=> [(79,.p (.int .i64 k))]) (fun k=> [Zi x,.map [],sO x m (.p (.list false ((fstF x.orders.length ys).map WD))) (.sl (4+x.orders.length) 0 k k),.dead]++List.replicate x.orders.length .dead++ [.elems 1 ((skF x k).map eI)]) (fun k=>k<=x.orders.length) (fun k=>x.orders.length-k) 0 Za ((Weak.nilC (o:=2) (j:=7) 1 (by rfl) (by rfl) Zb).trans (Weak.mk ?_)) ?_
       ·simp (disch:=omega) only [h5,Zk3,List.replicate,Xa,Z1,ZC,ZG,Xt,Nat.reduceAdd,J7,Jg,Jh,Ji,Jj,Zr,Zn,ZO,ZD,Zi,sO,go_sem,seval]
       ·intro k hk;simp (disch:=omega) only [h5,List.replicate,Nat.reduceAdd,J7,Jg,Jh,Ji,Jj,Zr,Zn,ZO,ZD,Zi,sO,go_sem,seval];refine cD ?_ ?_<;>intro h1<;>simp (disch:=omega) only [Sh.out h1,go_sem,seval,↓reduceIte]
        ·have hk2:k<x.orders.length:=Za
         refine Vi (hun k) ?_;simp (disch:=omega) only [go_sem,seval,↓reduceIte];refine cD ?_ ?_<;>intro h2<;>simp (disch:=omega) only [Sh.out h2,go_sem,seval,↓reduceIte]
         ·refine Vi (Iz _ (hu k)) ?_;simp (disch:=omega) only [go_sem,seval];refine cD ?_ ?_<;>intro h3<;>simp (disch:=omega) only [Sh.out h3,go_sem,seval,↓reduceIte]
          ·have hsk:skpF x k=(Xm (unsF x k).1).1:=by simp [skpF,h2,h3]
           simp (disch:=omega) only [Ks,go_sem,seval];rw [if_pos ⟨Za,Za⟩];simp (disch:=omega) only [Ks,Z2,ZJ,ZC,ZG,Xt,eq_self,Um,go_sem,seval];exact ⟨k+1,Za,Za,Weak.mk (by simp (disch:=omega) only [h5,G2,hsk,XD,List.replicate,Nat.reduceAdd,J7,Jg,Jh,Ji,Jj,Zr,Zn,ZO,ZD,go_sem,seval])⟩
          ·have hsk:skpF x k= -1:=by simp [skpF,h3]
           simp (disch:=omega) only [Ks,go_sem,seval];rw [if_pos ⟨Za,Za⟩];simp (disch:=omega) only [Ks,Z2,ZJ,ZC,ZG,Xt,eq_self,Um,go_sem,seval];exact ⟨k+1,Za,Za,Weak.mk (by simp (disch:=omega) only [h5,G2,hsk,XD,List.replicate,Nat.reduceAdd,J7,Jg,Jh,Ji,Jj,Zr,Zn,ZO,ZD,go_sem,seval])⟩
         ·have hsk:skpF x k= -1:=by simp [skpF,h2]
          simp (disch:=omega) only [Ks,go_sem,seval];rw [if_pos ⟨Za,Za⟩];simp (disch:=omega) only [Ks,Z2,ZJ,ZC,ZG,Xt,eq_self,Um,go_sem,seval];exact ⟨k+1,Za,Za,Weak.mk (by simp (disch:=omega) only [h5,G2,hsk,XD,List.replicate,Nat.reduceAdd,J7,Jg,Jh,Ji,Jj,Zr,Zn,ZO,ZD,go_sem,seval])⟩
        ·have hkl:k=x.orders.length:=Za
         clear hk h1;refine Zq (Weak.fz (o:=4+x.orders.length) (S:=1) (xs:=(skF x k).map eI) (by rw [h5];rfl)) ?_;refine Zg [] _ _ _ _ ?_;simp (disch:=omega) only [h5,Zr,Zn,Xa,Z1,Z2,Ks,Nat.reduceAdd,eq_self,go_sem,seval,↓reduceIte];exact ⟨.tup [.ptr 2 0,.p (.int .i64 0)],_,Weak.mk (by simp (disch:=omega) only [hkl,h5,Y4,V1,shO,shVs,shV,J7,Jg,Jh,Ji,Jj,Zr,Zn,go_sem,seval]),.inr (.inr ⟨Za,hall,ys,⟨hC,hyl⟩,rfl,rfl⟩)⟩
theorem ZeD : ∀S:Fin 16,0<S.val->sHas (S.val:Int) (Bf S.val)=true:=by decide+kernel
theorem OS {x:Inst} (hx:InstOk x) (i:Nat): -1<=skpF x i/\skpF x i<=18014398509481984:=by
 unfold skpF
 split
 ·rename_i h
  have hm:(unsF x i).1.cost<=1000000/\(unsF x i).1.moved<=1/\0<=(unsF x i).1.moved/\(unsF x i).1.other=0/\(unsF x i).1.work=0:=by
   unfold unsF
   split
   ·simp [zSco]
   ·split
    ·simp [zSco]
    ·split
     ·simp [zSco]
     ·have ha:=(hx.orders.2 (i:Int).toNat Za).arg;simp only [argOk,rng,ZE,Zs] at ha
      grind
  obtain ⟨_,h2⟩:=h;unfold Xm at h2 ⊢
  grind
 ·omega
theorem Sp {x:Inst} {l ys:List Col} (hx:InstOk x) (hn:x.orders.length<=4) (hC:Cheap l ys) (hr: ∀c∈l,rightB x c=true) (hs: ∀c∈l,c.set<9223372036854775808):ChOk x.orders.length x (fstF x.orders.length ys) (skF x x.orders.length):=by
 refine ⟨fun i hi c hc=> ?_,?_,fun i hi=> ?_⟩
 ·have e:nth (fstF x.orders.length ys) i=Yt ys i:=by
   grind [fstF,Zh]
  rw [e,Yt,QX] at hc;obtain ⟨h1,h2⟩:=hc;simp only [Zs] at h2;obtain ⟨j,hj,hjl,_⟩:=hC.bst c h1
  have hm:c∈l:=by grind [ZL]
  obtain ⟨S,q1,q2,q3,_⟩:=QC (hr c hm) (hs c hm);have h16:S<16:=UM q3 (YA (n:=2) Za hn);have hb:=ZeD ⟨S,h16⟩ q2;have hr1:=hr c hm;simp only [rightB,ZE,Zs] at hr1
  grind
 ·have ht:=hx.types;simp only [typesOk,rng,Zs] at ht;refine ⟨Za,fun t _=> ?_⟩;rcases WM t x.types.length with h | h
  ·have:=ht.2 t h;unfold UD at this;have:=this.1.1.1.1.1.1.2;simp only [rng,Zs] at this;omega
  ·rw [show nth x.types t=default from by grind [nth]]
   decide
 simp_all [skF,Zh,OS]
def zSt : St:=⟨0,0,[0,0,0,0,0,0]⟩
def HE (x:Inst) (ys:List Col):Int:=Wp x.orders.length ((Yk x x.orders.length:Nat):Int) x (fstF x.orders.length ys) (skF x x.orders.length) 20 (Vu x.orders.length ((Yk x x.orders.length:Nat):Int) zSt)
theorem Zaa (n:Nat):StV n zSt:=⟨rfl,⟨by decide,by simp [zSt]⟩,⟨0,rfl,Za⟩,fun j hj=>by
 have:nth zSt.used j=0:=by
  have:j=0\/j=1\/j=2\/j=3\/j=4\/j=5:=Za
  rcases this with rfl | rfl | rfl | rfl | rfl | rfl<;>rfl
 omega⟩
theorem G4 {α:Type} {r:α->α->Prop} (irr: ∀a,¬r a a) (asy: ∀a b,r a b-> ¬r b a): ∀ {l l':List α},l.Pairwise r->l'.Pairwise r->(∀a,a∈l↔a∈l')->l=l'
 | [],[],_,_,_=>rfl
 | [],b::_,_,_,h=>by have:=(h b).2 Zb;simp at this
 | a::_,[],_,_,h=>by have:=(h a).1 Zb;simp at this
 | a::l,b::l',h1,h2,h=>by
  rw [List.pairwise_cons] at h1 h2
  have hab:a=b:=by
   rcases Z4.1 ((h a).1 Zb) with e | e
   ·exact e
   ·rcases Z4.1 ((h b).2 Zb) with e' | e'
    ·exact e'.symm
    ·exact absurd (h1.1 b e') (asy _ _ (h2.1 a e))
  subst hab
  rw [G4 irr asy h1.2 h2.2 fun c=>⟨fun hc=>by
   rcases Z4.1 ((h c).1 (XL _ hc)) with e | e
   ·subst e;exact absurd (h1.1 c hc) (irr c)
   ·exact e,fun hc=>by
   rcases Z4.1 ((h c).2 (XL _ hc)) with e | e
   ·subst e;exact absurd (h2.1 c hc) (irr c)
   ·exact e⟩]
theorem iY {l ys:List Col} (h:Cheap l ys) {c:Col} (hc:c∈l): ∃d∈ys,kd d=kd c/\d.price<=c.price:=by
 obtain ⟨d,hd,e⟩:=h.all c hc;obtain ⟨j,hj,rfl⟩:=ZN.1 hc;obtain ⟨i,hi,_,h3⟩:=h.bst d hd
 grind [Zh]
theorem iX {l ys:List Col} (h:Cheap l ys) {d:Col} (hd:d∈ys):d∈l:=by
 obtain ⟨j,hj,e,_⟩:=h.bst d hd
 grind [ZL]
theorem Oc {n i:Nat} {ys:List Col} :nth (fstF n ys) i=if i<n then Yt ys i else []:=by
 split
 ·grind [fstF,Zh]
 ·rename_i h;rw [nth,Ki,List.getElem?_eq_none (by simp [fstF];omega)];rfl
def fQ (a b:Int):Prop:=b<0\/(0<=a/\a<=b)
theorem SM {x:Inst} {s:St} {r:Col->Int} (hr: ∀c,-1<=r c): ∀ {l:List Col} {a:Int},(∀c∈l,0<=c.price) ->
  fQ (l.foldl (fun o c=>if YO x s c=true then Y3 o c.price (r c) else o) a) a/\ ∀c∈l,YO x s c=true->0<=r c->fQ (l.foldl (fun o c=>if YO x s c=true then Y3 o c.price (r c) else o) a) (c.price+r c)
 | [],a,_=>⟨by grind [fQ],fun c hc=>by simp at hc⟩
 | d::l,a,hp=>by
  have hd:=hp d Zb;obtain ⟨g1,g2⟩:=SM (x:=x) (s:=s) hr (l:=l) (a:=if YO x s d=true then Y3 a d.price (r d) else a) fun c hc=>hp c (XL _ hc);rw [XO];generalize l.foldl (fun o c=>if YO x s c=true then Y3 o c.price (r c) else o) (if YO x s d=true then Y3 a d.price (r d) else a)=M at g1 g2;refine ⟨?_,fun c hc hy h0=> ?_⟩
  ·grind [fQ,Y3]
  ·rcases Z4.1 hc with rfl | hc
   ·rw [if_pos hy] at g1
    grind [fQ,Y3]
   grind
theorem Ie {x:Inst} {s:St} {r:Col->Int} : ∀ {l:List Col} {a:Int},l.foldl (fun o c=>if YO x s c=true then Y3 o c.price (r c) else o) a=a\/ ∃c∈l,YO x s c=true/\0<=r c/\l.foldl (fun o c=>if YO x s c=true then Y3 o c.price (r c) else o) a=c.price+r c
 | [],a=> .inl rfl
 | d::l,a=>by
  rw [XO];rcases Ie (x:=x) (s:=s) (r:=r) (l:=l) (a:=if YO x s d=true then Y3 a d.price (r d) else a) with h | ⟨c,h1,h2,h3,h4⟩
  ·rw [h]
   split
   ·rename_i hy;unfold Y3
    split
    ·grind
    omega
   omega
  grind
abbrev Cm := { c:Col // ∃S:Nat,c.set=S/\0<S/\S<16 }
instance : Inhabited Cm := ⟨⟨⟨0, 1, 0, default⟩, 1, rfl, by decide, by decide⟩⟩
def lo (c:Col):Int:=Bf c.set.toNat
def qY (a b:Col):Int:=vK [Y5 a.typ b.typ,Y5 (lo a) (lo b)]
theorem Qk {a b:Col} :qY a b<0↔a.typ<b.typ\/(a.typ=b.typ/\lo a<lo b):=by
 grind [qY,Fq,jK,jJ]
def cfM (a b:Cm):Int:=qY a.val b.val
theorem sT : Go.Sort.SWO (ltOf cfM) where
 irrefl x:=by grind [ltOf,cfM,Qk]
 trans x y z h1 h2:=by simp only [ltOf,cfM,Zs,Qk] at *;omega
 ntrans x y z h1 h2:=by grind [ltOf,cfM,Qk]
theorem Zkv (c:Cm):PC 125 [.p (.int .i64 c.val.set)] (.int .i64 (lo c.val)):=by
 obtain ⟨c,S,h1,h2,h3⟩:=c
 grind [lo,OJ]
theorem aX (a b:Cm):PC 124 [.p (Xx a.val),.p (Xx b.val)] (.int .i64 (cfM a b)):=by
 refine Ze Tryz.func124 rfl ZbE ?_;simp (disch:=omega) only [Tryz.f124,go_sem,seval];refine Xq (Zc ?_);refine Zo (Ev a.val.typ b.val.typ) (Zc ?_);refine Zo (Zkv a) (Zc ?_);refine Zo (Zkv b) (Zc ?_);refine Zo (Ev (lo a.val) (lo b.val)) (Zc ?_);refine Zo (vL [Y5 a.val.typ b.val.typ,Y5 (lo a.val) (lo b.val)] false Zb) (Zc ?_)
 rfl
theorem wX (xs:List Cm) (hl:xs.length<=1048576) {H:List AM.Obj} {o:Nat} (hH:H[o]? =some (.elems 7 (xs.map fun c=>Xx c.val))) :
  ACalls Tryz.prog 123 [.sl o 0 xs.length xs.length,.fn (.func 124) [] []] H fun y H'=>y= .tup []/\ ∃ys:List Cm,ys.Perm xs/\ys.Pairwise (fun a b=> ¬cfM b a<0)/\H'=H.set o (.elems 7 (ys.map fun c=>Xx c.val)) :=
 ACalls.sortFunc OT lW 7 Tryz.isAgg107 Tryz.sizeOf107 (fun c:Cm=>Xx c.val) (fun x=>⟨_,rfl,rfl,rfl⟩) cfM sT 124 aX xs Za hH
theorem D2 {n:Nat} {m:Int} {x:Inst} {fst:List (List Col)} {sk:List Int} : ∀(d:Nat) (s:St),∀c∈(Yr n m x fst sk d s).1,∃i,i<fst.length/\c∈nth fst i
 | 0,s,c,h=>by simp [Yr] at h
 | d+1,s,c,h=>by
  rw [Yr] at h
  split at h
  ·simp at h
  ·split at h
   ·rename_i c' hf;simp only [Z4] at h;rcases h with rfl | h
    ·refine ⟨s.ix.toNat,?_,UL hf⟩;rcases WM s.ix.toNat fst.length with h | h
     ·exact h
     ·rw [show nth fst s.ix.toNat= [] from by simp [nth,Ki,List.getElem?_eq_none h];rfl] at hf;simp at hf
    ·exact D2 d _ c h
   ·exact D2 d _ c h
def zPlC : Pln:=⟨true,[],true,[]⟩
def I5 (x:Inst) (l:List Col) (p:Pln) (c e:Int):Prop:=(8192<l.length/\p=zPlC/\c=0/\e=4)\/(l.length<=8192/\(∃c∈l,rightB x c=false)/\p=zPlC/\c=0/\e=2) \/
 (l.length<=8192/\(∀c∈l,rightB x c=true)/\ ∃ys,Cheap l ys/\ys.length<=l.length/\((HE x ys<0/\p=zPlC/\c=0/\e=24)\/(0<=HE x ys/\c=HE x ys/\e=0 /\
  ∃zs:List Col,zs.Perm (Yr x.orders.length ((Yk x x.orders.length:Nat):Int) x (fstF x.orders.length ys) (skF x x.orders.length) 20 (Vu x.orders.length ((Yk x x.orders.length:Nat):Int) zSt)).1/\zs.Pairwise (fun a b=> ¬qY b a<0) /\
   p=⟨false,zs.map (·.route),false,(Yr x.orders.length ((Yk x x.orders.length:Nat):Int) x (fstF x.orders.length ys) (skF x x.orders.length) 20 (Vu x.orders.length ((Yk x x.orders.length:Nat):Int) zSt)).2⟩)))
theorem D1 {n:Nat} {m:Int} {x:Inst} {fst:List (List Col)} {sk:List Int} : ∀(d:Nat) (s:St),(Yr n m x fst sk d s).1.length<=d/\(Yr n m x fst sk d s).2.length<=d
 | 0,s=>by simp [Yr]
 | d+1,s=>by
  rw [Yr]
  split
  ·simp
  ·split
   ·rename_i c' hf;have:=D1 (n:=n) (m:=m) (x:=x) (fst:=fst) (sk:=sk) d (VZ n m s c');simp;omega
   ·have:=D1 (n:=n) (m:=m) (x:=x) (fst:=fst) (sk:=sk) d (DY n m s);simp;omega
theorem dG (x:Inst) (l:List Col) (lc:Bool) (hx:InstOk x) (hn:x.orders.length<=4) (ht:x.types.length<=1048576) (hs: ∀c∈l,c.set<9223372036854775808) (hl:l.length<=1048576) :
  ACalls Tryz.prog 81 [.p (Zv x),.p (.list lc (l.map Xx))] [] fun y H'=> ∃p c e,I5 x l p c e/\y= .tup [.p (Ut p),.p (.int .i64 c),.p (.int .i64 e)]/\H'= []:=by
 refine Zf [16] Tryz.func81 rfl Zkb ?_;simp (disch:=omega) only [Tryz.f81,go_sem,seval];refine ((aV x l lc hn ht (fun i=>Yu Za (Dw hx _)) hs hl).behind (by rfl) _).mono ?_;rintro y H' ⟨y1,H1,hq,rfl,rfl⟩;rcases hq with ⟨h1,rfl,rfl⟩ | ⟨h1,h2,rfl,rfl⟩ | ⟨h1,h2,ys,⟨hC,hyl⟩,rfl,rfl⟩
 ·simp (disch:=omega) only [shV,shVs,Zn,go_sem,seval];exact ⟨.tup [.p (Ut zPlC),.p (.int .i64 0),.p (.int .i64 4)],[],Weak.mk (by simp (disch:=omega) only [zPlC,Zn,go_sem,seval]),_,_,_,Or.inl ⟨h1,rfl,rfl,rfl⟩,rfl,rfl⟩
 ·simp (disch:=omega) only [shV,shVs,Zn,go_sem,seval];exact ⟨.tup [.p (Ut zPlC),.p (.int .i64 0),.p (.int .i64 2)],[],Weak.mk (by simp (disch:=omega) only [zPlC,Zn,go_sem,seval]),_,_,_,Or.inr (Or.inl ⟨h1,h2,rfl,rfl,rfl⟩),rfl,rfl⟩
 ·have hok:=Sp hx hn hC h2 hs
  have hcl: ∀r∈fstF x.orders.length ys,r.length<=1048576:=fun r hr=>by
   obtain ⟨p,_,rfl⟩:=Xn.1 hr
   grind [Yt]
  obtain ⟨m,hm⟩: ∃m:Int,m=((Yk x x.orders.length:Nat):Int):=⟨_,rfl⟩;obtain ⟨B,hB⟩: ∃B,B=HE x ys:=⟨_,rfl⟩;simp (disch:=omega) only [shV,shVs,shO,Y4,V1,Zr,Zn,List.replicate,ZO,ZD,go_sem,seval];rw [<- hm];refine ACalls.mono ((G0 x (.list false ((fstF x.orders.length ys).map WD)) (.list false ((skF x x.orders.length).map eI)) m [] zSt rfl (by decide) Za (by decide)).back [Zi x,.cells [.p (.list true []),.p (.list true [])],.cells (List.replicate 6 .junk)] (by rfl)) ?_;rintro y H' ⟨y1,H1,⟨rfl,rfl⟩,rfl,rfl⟩;obtain ⟨v1,_⟩:=MB (m:=m) (Zaa x.orders.length)
  have hrg:=Uv (m:=m) hok 20 _ v1
  have hbb:B=Wp x.orders.length m x (fstF x.orders.length ys) (skF x x.orders.length) 20 (Vu x.orders.length m zSt):=by rw [hB,HE,hm]
  rw [<- hbb] at hrg;obtain ⟨R,hR⟩: ∃R,R=Yr x.orders.length m x (fstF x.orders.length ys) (skF x x.orders.length) 20 (Vu x.orders.length m zSt):=⟨_,rfl⟩;obtain ⟨i,w,b0,b1,b2,b3,b4,b5,hw⟩:=YW v1.len;have hRr:=hR;rw [hw] at hbb v1 hR ⊢;simp (disch:=omega) only [shV,shVs,shO,Y4,V1,Zr,Zn,List.replicate,ZO,ZD,go_sem,seval];have c3:=((E6 x (fstF x.orders.length ys) (skF x x.orders.length) false false m Za (by simp [fstF]) (by simp [skF]) hok hcl 20 ⟨i,w,[b0,b1,b2,b3,b4,b5]⟩ [] Za v1 (by have:=v1.ix;omega) (fun p hp=>by simp at hp)).mono (fun y H' hq=>(⟨hq,by obtain ⟨l',_,_,rfl⟩:=hq;rfl⟩:_/\H'.length=(Y4 x (.list false ((fstF x.orders.length ys).map WD)) (.list false ((skF x x.orders.length).map eI)) m []).length))).front (by rfl) (by rfl) [B2 ⟨i,w,[b0,b1,b2,b3,b4,b5]⟩]
  refine ACalls.mono (c3.back [Zi x,.cells [.p (.list true []),.p (.list true [])],.cells (List.replicate 6 .junk)] (by rfl)) ?_;rintro y H' ⟨y1,H1,⟨H2,⟨l',hl',rfl,rfl⟩,rfl⟩,rfl,rfl⟩;rw [<- hbb];simp (disch:=omega) only [shV,shVs,shO,Y4,V1,B2,Zr,Zn,List.replicate,ZO,ZD,go_sem,seval];refine cD ?_ ?_<;>intro h3<;>simp (disch:=omega) only [Sh.out h3,go_sem,seval,↓reduceIte]
  ·exact ⟨.tup [.p (Ut zPlC),.p (.int .i64 0),.p (.int .i64 24)],[],Weak.mk (by simp (disch:=omega) only [zPlC,Zn,go_sem,seval]),_,_,_,Or.inr (Or.inr ⟨h1,h2,ys,hC,hyl,Or.inl ⟨Za,rfl,rfl,rfl⟩⟩),rfl,rfl⟩
  ·refine ACalls.mono ((Zea (B2 ⟨i,w,[b0,b1,b2,b3,b4,b5]⟩) (by intro H n;simp (disch:=omega) only [B2,Zr,Zn,go_sem,seval]) (by intro o xs;rfl) x (fstF x.orders.length ys) (skF x x.orders.length) false false m Za (by simp [fstF]) (by simp [skF]) hok hcl ⟨i,w,[b0,b1,b2,b3,b4,b5]⟩ l' v1 hl').back [Zi x,.cells [.p (.list true []),.p (.list true [])],.cells (List.replicate 6 .junk)] (by rfl)) ?_;rintro y H' ⟨y1,H1,⟨l2,A,U,hl2,hAU,rfl,rfl⟩,rfl,rfl⟩;rw [<- hR] at hAU;have hlen:=D1 (n:=x.orders.length) (m:=m) (x:=x) (fst:=fstF x.orders.length ys) (sk:=skF x x.orders.length) 20 (Vu x.orders.length m zSt)
   rw [<- hRr,<- hAU] at hlen
   have hA: ∀c∈A,∃S:Nat,c.set=S/\0<S/\S<16:=fun c hc=>by
    have hc':c∈(Yr x.orders.length m x (fstF x.orders.length ys) (skF x x.orders.length) 20 (Vu x.orders.length m zSt)).1:=by grind
    obtain ⟨j,hj,hm2⟩:=D2 _ _ _ hc'
    have e:nth (fstF x.orders.length ys) j=Yt ys j:=by
     grind [fstF,Zh]
    rw [e,Yt,QX] at hm2;obtain ⟨q,hq,hql,_⟩:=hC.bst c hm2.1
    have hmem:c∈l:=by grind [ZL]
    obtain ⟨S,q1,q2,q3,_⟩:=QC (h2 c hmem) (hs c hmem);exact ⟨S,q1,q2,UM q3 (YA (n:=2) Za hn)⟩
   obtain ⟨L,hL⟩: ∃L:List Cm,L.map Subtype.val=A:=⟨A.pmap (fun c h=>⟨c,h⟩) hA,by simp [List.map_pmap]⟩;subst hL
   have hLl:(L.map Subtype.val).length=L.length:=Zb
   have hLe:(L.map Subtype.val).map Xx=L.map fun c=>Xx c.val:=Zb
   simp only at hlen;rw [hLl] at hlen;simp (disch:=omega) only [shV,shVs,shO,Y4,V1,B2,Zr,Zn,List.replicate,ZO,ZD,hLl,hLe,go_sem,seval];refine ((wX L Za (H:=_) (o:=7) rfl)).mono ?_;rintro y H' ⟨rfl,zs,hp,hsr,rfl⟩;have hzl:zs.length=L.length:=hp.length_eq;rw [<- hzl] at hlen ⊢;refine Al ?_;obtain ⟨Z,hZ⟩: ∃Z,Z=zs.map Subtype.val:=⟨_,rfl⟩
   have hZl:Z.length=zs.length:=by rw [hZ];simp
   have hZe:Z.map Xx=zs.map fun c=>Xx c.val:=by rw [hZ];simp
   rw [<- hZl] at hlen ⊢
   have htl: ∀k,k<=Z.length->(Z.take k).length=k:=fun k hk=>by simp;omega
   refine Zk [4,10,13,45,46] (fun k:Nat=> [(47,.p (.int .i64 k))]) (fun k=> [Zi x,.cells [.p (.list true []),.p (.list true [])],.cells (List.replicate 6 .junk),.map (l2.map (Nx Bm)),shO 3 (V1 x (.list false ((fstF x.orders.length ys).map WD)) (.list false ((skF x x.orders.length).map eI)) m),B2 ⟨i,w,[b0,b1,b2,b3,b4,b5]⟩,.cells (List.replicate 8 .junk),.elems 7 (Z.map Xx),.cells [.sl 9 0 k k,.p (.list false (U.map eI))],.elems 4 ((Z.take k).map fun c=>Wd c.route)]) (fun k=>k<=Z.length) (fun k=>Z.length-k) 0 Za ((Weak.nilC (o:=8) (j:=0) 4 (by rfl) (by rfl) Zb).trans (Weak.mk ?_)) ?_
   ·simp (disch:=omega) only [hZe,Vq,Xa,Z1,ZC,ZG,Xt,Nat.reduceAdd,shV,shVs,shO,V1,B2,Zr,Zn,List.replicate,ZO,ZD,Zi,go_sem,seval]
   ·intro k hk;simp (disch:=omega) only [shV,shVs,shO,V1,B2,Zr,Zn,List.replicate,Zi,go_sem,seval];refine cD ?_ ?_<;>intro h4<;>simp (disch:=omega) only [Sh.out h4,go_sem,seval,↓reduceIte]
    ·have hk2:k<Z.length:=Za
     simp (disch:=first | omega | (simp only [ZC,ZG,ZJ,Z2,Xi,XN]<;>omega)) only [U4 hk2,hk2,go_sem,seval,↓reduceIte]
     have hsc:Z.take (k+1)=Z.take k++ [nth Z k]:=by rw [XZ hk2,Zh hk2]
     rw [if_pos ⟨htl k hk,Za,Za⟩];simp (disch:=omega) only [htl k hk,Z2,ZJ,ZC,ZG,Xt,eq_self,Um,go_sem,seval];exact ⟨k+1,Za,Za,Weak.mk (by simp (disch:=omega) only [hsc,XD,Zr,Zn,go_sem,seval])⟩
    ·have hkl:k=Z.length:=Za
     subst hkl;refine Zq (Weak.fz (o:=9) (by rfl)) ?_;refine Zg [] _ _ _ _ ?_;simp (disch:=omega) only [Zr,Zn,Xa,Z1,X5,go_sem,seval];exact ⟨.tup [.p (Ut ⟨false,Z.map (·.route),false,U⟩),.p (.int .i64 B),.p (.int .i64 0)],[],Weak.mk (by simp (disch:=omega) only [List.map_map,Function.comp_def,go_sem,seval]),_,_,_,Or.inr (Or.inr ⟨h1,h2,ys,hC,hyl,Or.inr ⟨Za,hB,rfl,Z,by grind,by rw [hZ];exact List.pairwise_map.2 hsr,by grind⟩⟩),rfl,rfl⟩
def Zog (x:Inst) (l:List Col) (a e:Int):Prop:=(8192<l.length/\a=0/\e=4)\/(l.length<=8192/\(∃c∈l,rightB x c=false)/\a=0/\e=2) \/
 (l.length<=8192/\(∀c∈l,rightB x c=true)/\ ∃ys,Cheap l ys/\a=(if HE x ys<0 then 0 else HE x ys)/\e=(if HE x ys<0 then 24 else 0))
def ky (l:List Col) (a:Int):Int×Int×Int:=if a<0 then (1,0,0) else (0,(nth l a.toNat).typ,(nth l a.toNat).set)
def mK (a b:Int×Int×Int):Prop:=a.1<b.1\/(a.1=b.1/\(a.2.1<b.2.1\/(a.2.1=b.2.1/\a.2.2<b.2.2)))
def KE (n:Nat) (l:List Col) (a b:List Int):Prop:= ∀t,t<n->ky l (nth a t)=ky l (nth b t)/\nth a t<=nth b t
def KL (n:Nat) (l:List Col) (a b:List Int):Prop:=(∃i,i<n/\(∀t,t<i->ky l (nth a t)=ky l (nth b t))/\mK (ky l (nth a i)) (ky l (nth b i)))\/KE n l a b
def mI (x:Inst):Int:=((Yk x x.orders.length:Nat):Int)
theorem Gp {x:Inst} (hn:x.orders.length<=4) {k:Nat} (hk:k<x.orders.length):sHas (mI x) k= !(nth x.orders k).off:=by
 grind [mI,WQ,Qh]
theorem Cu {n:Nat} {s:St} (h:StV n s) {k:Nat} (hk:k<=62):sHas s.cov k=s.cov.toNat.testBit k:=by
 obtain ⟨C,hC,_⟩:=h.cov
 grind [WQ]
structure Ctx (x:Inst) (l ys:List Col):Prop where
 n4:x.orders.length<=4
 t6:x.types.length<=6
 ch:Cheap l ys
 rt: ∀c∈l,rightB x c=true
 st: ∀c∈l,c.set<9223372036854775808
 ok:ChOk x.orders.length x (fstF x.orders.length ys) (skF x x.orders.length)
 sk: ∀k,k<x.orders.length->(nth x.orders k).off=false->(0<=(nth x.orders k).penalty↔0<=skpF x k)/\(0<=skpF x k->skpF x k=skR x k)
theorem ZdW : ∀S:Fin 16,0<S.val-> ∀k:Fin 4,(Bf S.val=(k.val:Int)↔(S.val.testBit k.val=true/\ ∀i:Fin 4,i.val<k.val->S.val.testBit i.val=false)):=by decide+kernel
theorem RZ {S n k:Nat} (hS:0<S) (h:S<2^n) (hn:n<=4) (hk:k<n):Bf S=(k:Int)↔(S.testBit k=true/\ ∀i,i<n->S.testBit i=true->k<=i):=by
 have h16:S<16:=UM h (YA (n:=2) Za hn);rw [show Bf S=(k:Int)↔_ from ZdW ⟨S,h16⟩ hS ⟨k,Za⟩];refine and_congr_right fun _=>⟨fun g i hi hb=> ?_,fun g i hi=> ?_⟩
 ·rcases WM i k with h1 | h1
  ·have:=g ⟨i,Za⟩ h1
   grind
  ·exact h1
 grind
theorem Ctx.set {x:Inst} {l ys:List Col} (h:Ctx x l ys) {c:Col} (hc:c∈l):c.set=(c.set.toNat:Int)/\0<c.set.toNat/\c.set.toNat<2^x.orders.length/\ ∀i,c.set.toNat.testBit i=true->i<x.orders.length/\(nth x.orders i).off=false:=by
 obtain ⟨S,h1,h2,h3,h4⟩:=QC (h.rt c hc) (h.st c hc)
 grind
theorem Ctx.typ {x:Inst} {l ys:List Col} (h:Ctx x l ys) {c:Col} (hc:c∈l):(0<=c.typ/\c.typ<x.types.length)/\0<=c.price:=by
 have:=h.rt c hc;simp only [rightB,ZE,Zs] at this;omega
structure Nd (x:Inst) (l:List Col) (a:List Int) (s:St) (k:Nat):Prop where
 len:a.length=x.orders.length
 ix:s.ix=k
 v:StV x.orders.length s
 cov: ∀i,i<x.orders.length->s.cov.toNat.testBit i=decide (0<=nth a i)
 rng: ∀i,i<x.orders.length-> -1<=nth a i/\nth a i<l.length
 used: ∀T:Nat,T<6->nth s.used T=usdI l a T x.orders.length
 grp: ∀i,i<x.orders.length->0<=nth a i-> ∀t,t<x.orders.length->(nth l (nth a i).toNat).set.toNat.testBit t=true->nth a t=nth a i
 old: ∀i,i<x.orders.length->k<=i->0<=nth a i-> ∃t,t<k/\(nth l (nth a i).toNat).set.toNat.testBit t=true
 own: ∀i,i<x.orders.length->0<=nth a i->(nth l (nth a i).toNat).set.toNat.testBit i=true
def Hk (s:St):St:= { s with ix:=s.ix+1 }
def A1 (s:St) (c:Col):St:=⟨s.ix+1,((s.cov.toNat|||c.set.toNat:Nat):Int),s.used.set c.typ.toNat (nth s.used c.typ.toNat+1)⟩
theorem Nd.skip {x:Inst} {l:List Col} {a:List Int} {s:St} {k:Nat} (h:Nd x l a s k) (hk:k<x.orders.length) (ho:0<=nth a k-> ∃t,t<k/\(nth l (nth a k).toNat).set.toNat.testBit t=true):Nd x l a (Hk s) (k+1) :=
 ⟨h.len,by simp only [Hk,h.ix];omega,⟨h.v.len,by have:=h.ix;simp only [Hk];omega,h.v.cov,h.v.used⟩,h.cov,h.rng,h.used,h.grp,fun i hi hki h0=>by
  obtain ⟨t,h1,h2⟩:=h.old i hi Za h0
  grind,h.own⟩
theorem Nd.skip' {x:Inst} {l:List Col} {a:List Int} {s:St} {k:Nat} (h:Nd x l a s k) (hk:k<x.orders.length):Nd x l a (Hk s) (k+1):=h.skip hk fun h0=>h.old k hk (Zw _) h0
theorem So {x:Inst} {l ys:List Col} (hc:Ctx x l ys) {a:List Int} {s:St} {k j:Nat} (h:Nd x l a s k) (hk:k<x.orders.length) (hj:j<l.length):JA x l a j k=true↔(YO x s (nth l j)=true/\Bf (nth l j).set.toNat=(k:Int)):=by
 obtain ⟨hS,hS0,hS1,hS2⟩:=hc.set (ZL hj);obtain ⟨⟨ht0,ht1⟩,_⟩:=hc.typ (ZL hj);have ht6:=hc.t6;have hu:=h.used (nth l j).typ.toNat Za;rw [show (((nth l j).typ.toNat:Nat):Int)=(nth l j).typ by omega] at hu;rw [RZ hS0 hS1 hc.n4 hk];simp only [JA,YO,EQ,ZE,Zs,Q1,h.len,hu]
 constructor
 ·rintro ⟨h1,h2,h3⟩;refine ⟨⟨CT fun i=> ?_,h2⟩,h1,fun i hi hb=>(h3 i hi hb).2⟩;rw [Nat.testBit_and,Nat.zero_testBit]
  cases hb:(nth l j).set.toNat.testBit i with
  | false=>simp
  | true =>
   have hi:=(hS2 i hb).1;rw [h.cov i hi,QY,XX]
   grind
 ·rintro ⟨⟨h1,h2⟩,h3,h4⟩;refine ⟨h3,h2,fun i hi hb=>⟨?_,h4 i hi hb⟩⟩;have:=ZY (fun z=>z.testBit i) h1;simp only [Nat.testBit_and,Nat.zero_testBit,hb,QY] at this;rw [h.cov i hi,XX] at this;omega
theorem Em {x:Inst} {l:List Col} {a:List Int} {k:Nat} {S:Nat} {j:Nat} (hl:a.length=x.orders.length) (hk:k<x.orders.length) (hb:S.testBit k=true) (hneg: ∀i,i<x.orders.length->S.testBit i=true->nth a i<0/\k<=i) (hfr: ∀i,i<x.orders.length->S.testBit i=false->nth a i≠(j:Int)) (T:Int) :
  ∀m,m<=x.orders.length->usdI l (VC S a j) T m=usdI l a T m+(if k<m/\(nth l j).typ=T then 1 else 0)
 | 0,_=>by simp [usdI]
 | i+1,hm=>by
  have hi:i<a.length:=Za
  rw [usdI,usdI,Em hl hk hb hneg hfr T i Za];have ZS: ∀t,t<i->nth (VC S a j) t=if S.testBit t=true then (j:Int) else nth a t:=fun t ht=>Xl Za
  cases hs:S.testBit i with
  | false =>
   have e:KO l (VC S a j) T i=KO l a T i:=by
    rw [KO,KO,Xl hi,hs,if_neg Zb]
    by_cases h0:0<=nth a i
    ·have ef:bR (VC S a j) i=bR a i:=by
      rw [Wf,CB,CB,Xl hi,hs,if_neg Zb]
      grind
     rw [ef]
    ·simp [h0]
   grind
  | true =>
   obtain ⟨hn,hki⟩:=hneg i Za hs
   have e2:KO l a T i=false:=by
    simp_all [KO,Qt]
   have e1:KO l (VC S a j) T i=(decide ((nth l j).typ=T)&&decide (k=i)):=by
    rw [KO,Xl hi,hs,if_pos rfl,Vr Za,VS,XY]
    congr 1
    rw [Wf,CB,Xl hi,hs,if_pos rfl,Zs]
    grind
   grind
theorem Nd.child {x:Inst} {l ys:List Col} (hc:Ctx x l ys) {a:List Int} {s:St} {k j:Nat} (h:Nd x l a s k) (hk:k<x.orders.length) (hj:j<l.length) (hcan:JA x l a j k=true):Nd x l (VC (nth l j).set.toNat a j) (A1 s (nth l j)) (k+1):=by
 obtain ⟨hS,hS0,hS1,hS2⟩:=hc.set (ZL hj);obtain ⟨⟨ht0,ht1⟩,_⟩:=hc.typ (ZL hj);have ht6:=hc.t6;have hl6:s.used.length=6:=h.v.len;have hu:=h.used (nth l j).typ.toNat Za;rw [show (((nth l j).typ.toNat:Nat):Int)=(nth l j).typ by omega] at hu;have hcan':=hcan;simp only [JA,ZE,Zs,Q1,h.len] at hcan';obtain ⟨hb,hcnt,hneg⟩:=hcan';rw [<- hu] at hcnt;have hcount:=hc.ok.typ.2 (nth l j).typ.toNat Za;have hak:=(hneg k hk hb).1
 have hfr: ∀i,i<x.orders.length->(nth l j).set.toNat.testBit i=false->nth a i≠(j:Int):=fun i hi _ e=>by
  have:=h.grp i hi Za k hk (by grind [XY]);omega
 obtain ⟨C,hC,hC2⟩:=h.v.cov;have hS10:(nth l j).set.toNat<1024:=UM hS1 (YA (n:=2) Za (show x.orders.length<=10 by have:=hc.n4;omega));refine ⟨by rw [VX];exact h.len,by simp only [A1,h.ix];omega,⟨by simp only [StR,A1,QW];exact hl6,by have:=h.ix;simp only [A1];omega,⟨_,rfl,?_⟩,fun t ht=> ?_⟩,fun i hi=> ?_,fun i hi=> ?_,fun T hT=> ?_,fun i hi h0 t ht hbt=> ?_,fun i hi hki h0=> ?_,fun i hi h0=> ?_⟩
 ·rw [hC,XY];exact Jn (n:=10) hC2 hS10
 ·simp only [A1];rw [C2 Za]
  split
  ·omega
  ·exact h.v.used t ht
 ·simp only [A1,XY];rw [AT,h.cov i hi,Xl (by rw [h.len];exact hi)]
  grind
 ·rw [Xl (by rw [h.len];exact hi)]
  split
  ·omega
  ·exact h.rng i hi
 ·simp only [A1];rw [C2 Za,Em h.len hk hb hneg hfr T _ (Zw _),h.used T hT]
  grind
 ·rw [Xl (i:=i) (by rw [h.len];exact hi)] at h0 hbt ⊢;rw [Xl (i:=t) (by rw [h.len];exact ht)]
  cases hbi:(nth l j).set.toNat.testBit i with
  | true =>
   rw [hbi,if_pos rfl,XY] at hbt
   grind
  | false =>
   rw [hbi,if_neg Zb] at h0 hbt;have e:=h.grp i hi h0 t ht hbt
   grind
 ·rw [Xl (by rw [h.len];exact hi)] at h0 ⊢
  cases hbi:(nth l j).set.toNat.testBit i with
  | true =>
   rw [if_pos rfl,XY]
   grind
  | false =>
   rw [hbi,if_neg Zb] at h0;rw [if_neg Zb];obtain ⟨t,h1,h2⟩:=h.old i hi Za h0
   grind
 ·rw [Xl (by rw [h.len];exact hi)] at h0 ⊢
  cases hbi:(nth l j).set.toNat.testBit i with
  | true=>rw [if_pos rfl,XY];exact hbi
  | false =>
   rw [hbi,if_neg Zb] at h0;rw [if_neg Zb];exact h.own i hi h0
def Lx (x:Inst) (ys:List Col) (D:Nat) (s:St):Int:=Wp x.orders.length (mI x) x (fstF x.orders.length ys) (skF x x.orders.length) D (Vu x.orders.length (mI x) s)
theorem fW {x:Inst} {ys:List Col} {D:Nat} {s:St} (h:s.ix=x.orders.length):Lx x ys D s=0:=by
 unfold Lx
 cases D with
 | zero=>rfl
 | succ D =>
  simp_all [Wp,Vu,Dp]
theorem Ec {n:Nat} {m:Int} {s:St} {k:Nat} (hk:s.ix=k) (hkn:k<n) (hc:sHas m k=false\/sHas s.cov k=true):Vu n m s=Vu n m (Hk s):=by
 simp_all [Vu,Hk,Fv]
theorem Ee {n:Nat} {m:Int} {s:St} {k:Nat} (hk:s.ix=k) (h1:sHas m k=true) (h2:sHas s.cov k=false):Vu n m s=s:=by
 obtain ⟨i,v,u⟩:=s
 simp_all [Vu,Ef]
theorem Hh {n:Nat} {m:Int} {s:St} {c:Col} {k:Nat} (hk:s.ix=k) (hkn:k<n) (hn:n<=4) (hb:c.set.toNat.testBit k=true):VZ n m s c=Vu n m (A1 s c):=by
 have e:=Ec (n:=n) (m:=m) (s:=⟨s.ix,((s.cov.toNat|||c.set.toNat:Nat):Int),s.used.set c.typ.toNat (nth s.used c.typ.toNat+1)⟩) (k:=k) hk hkn (.inr (by
  simp only
  rw [WQ _ _ Za,AT,hb,Bool.or_true]))
 exact e
theorem Af {x:Inst} {l ys:List Col} (hc:Ctx x l ys) {k:Nat} (hk:k<x.orders.length) {c:Col} (hm:c∈Yt ys k):c∈ys/\c∈l/\Bf c.set.toNat=(k:Int)/\c.set.toNat.testBit k=true:=by
 rw [Yt,QX,Zs] at hm;have hl:=iX hc.ch hm.1;obtain ⟨_,h0,h1,_⟩:=hc.set hl;exact ⟨hm.1,hl,hm.2,((RZ h0 h1 hc.n4 hk).1 hm.2).1⟩
theorem Pk {x:Inst} {l ys:List Col} (hc:Ctx x l ys) {D:Nat} (hD:10<D) {s:St} {k:Nat} (hv:StV x.orders.length s) (hk:s.ix=k) (hkn:k<x.orders.length) (ho:(nth x.orders k).off=false) (hcv:s.cov.toNat.testBit k=false) :
  Lx x ys D s=if 0<=skpF x k then Y3 ((Yt ys k).foldl (fun o c=>if YO x s c=true then Y3 o c.price (Lx x ys D (A1 s c)) else o) (-1)) (skpF x k) (Lx x ys D (Hk s)) else (Yt ys k).foldl (fun o c=>if YO x s c=true then Y3 o c.price (Lx x ys D (A1 s c)) else o) (-1):=by
 have hn:=hc.n4
 have e1:Lx x ys D s=Wp x.orders.length (mI x) x (fstF x.orders.length ys) (skF x x.orders.length) (D+1) s:=by
  rw [Lx,Ee hk (by grind [Gp]) (by grind [Cu])];exact JI hc.ok _ _ s hv Za Za
 rw [e1,Wp,if_neg Za]
 have e2:nth (fstF x.orders.length ys) s.ix.toNat=Yt ys k:=by simp_all [Oc]
 have e3:nth (skF x x.orders.length) s.ix.toNat=skpF x k:=by grind [skF,Zh]
 have e4:(Yt ys k).foldl (fun o c=>if YO x s c=true then Y3 o c.price (Wp x.orders.length (mI x) x (fstF x.orders.length ys) (skF x x.orders.length) D (VZ x.orders.length (mI x) s c)) else o) (-1)=(Yt ys k).foldl (fun o c=>if YO x s c=true then Y3 o c.price (Lx x ys D (A1 s c)) else o) (-1) :=
  J6 fun c hm o=>by rw [Hh hk hkn hn (Af hc hkn hm).2.2.2];rfl
 simp only [e2,e3,e4]
 rfl
def Ah (x:Inst) (ys:List Col) (D:Nat) (s:St) (c:Col):Bool:=YO x s c&&(decide (0<=Lx x ys D (A1 s c))&&decide (c.price+Lx x ys D (A1 s c)=Lx x ys D s))
noncomputable def BT (l:List Col) (d:Col):Nat:=open Classical in if h:Bst l l.length d then h.choose else 0
theorem Tu {l:List Col} {d:Col} (h:Bst l l.length d):BT l d<l.length/\nth l (BT l d)=d/\ ∀i,i<l.length->kd (nth l i)=kd d->d.price<(nth l i).price\/(d.price=(nth l i).price/\BT l d<=i):=by
 have e:BT l d=h.choose:=by rw [BT,dif_pos h]
 grind
noncomputable def gr (x:Inst) (l ys:List Col) (D:Nat):Nat->Nat->St->List Int->List Int
 | 0,_,_,a=>a
 | d+1,k,s,a=>if (nth x.orders k).off=true\/0<=nth a k then gr x l ys D d (k+1) (Hk s) a else
  match (Yt ys k).find? (Ah x ys D s) with
  | some c=>gr x l ys D d (k+1) (A1 s c) (VC c.set.toNat a (BT l c))
  | none=>gr x l ys D d (k+1) (Hk s) a
theorem Kp {x:Inst} {l ys:List Col} (hc:Ctx x l ys) {a:List Int} {s:St} {k:Nat} (h:Nd x l a s k) (hk:k<x.orders.length) {c:Col} (hm:c∈Yt ys k) (hy:YO x s c=true):BT l c<l.length/\nth l (BT l c)=c/\JA x l a (BT l c) k=true:=by
 obtain ⟨h1,h2,h3,h4⟩:=Af hc hk hm;obtain ⟨p1,p2,_⟩:=Tu (hc.ch.bst c h1)
 grind [So]
theorem Cs {x:Inst} {l:List Col} {a:List Int} {k j:Nat} (hl:a.length=x.orders.length) (hcan:JA x l a j k=true):(nth l j).set.toNat.testBit k=true/\ ∀t,t<x.orders.length->(t<k\/0<=nth a t)->nth (VC (nth l j).set.toNat a j) t=nth a t:=by
 simp only [JA,ZE,Q1,hl] at hcan
 grind [Xl]
theorem DN {x:Inst} {l ys:List Col} (hc:Ctx x l ys) {D:Nat} : ∀(d k:Nat) (s:St) (a:List Int),k+d=x.orders.length->Nd x l a s k->(gr x l ys D d k s a).length=x.orders.length/\ ∀t,t<x.orders.length->(t<k\/0<=nth a t)->nth (gr x l ys D d k s a) t=nth a t
 | 0,k,s,a,_,h=>⟨h.len,fun _ _ _=>rfl⟩
 | d+1,k,s,a,hd,h=>by
  have hk:k<x.orders.length:=Za
  rw [gr];have skip:=DN hc (D:=D) d (k+1) (Hk s) a Za (h.skip' hk)
  split
  ·grind
  ·split
   ·rename_i c hf;have hsel:=QV hf;simp only [Ah,ZE] at hsel;obtain ⟨p1,p2,p3⟩:=Kp hc h hk (UL hf) hsel.1;have hch:=h.child hc hk p1 p3;rw [p2] at hch;have ho:=(Cs h.len p3).2;rw [p2] at ho;obtain ⟨g1,g2⟩:=DN hc (D:=D) d (k+1) (A1 s c) _ Za hch;refine ⟨g1,fun t ht hh=> ?_⟩
    rw [g2 t ht (by
     rcases hh with h1 | h1
     ·left;omega
     ·right;rw [ho t ht (.inr h1)];exact h1),ho t ht hh]
   grind
theorem CY {x:Inst} {l:List Col} : ∀(d:Nat) (a:List Int) (p:Int),d<=x.orders.length->a.length=x.orders.length-> ∀q∈QI x l d a p,q.1.length=x.orders.length/\ ∀t,t<x.orders.length->(t<x.orders.length-d\/0<=nth a t)->nth q.1 t=nth a t
 | 0,a,p,_,h,q,hq=>by
  simp only [QI,Z4,We,Wz] at hq
  grind
 | d+1,a,p,hd,h,q,hq=>by
  rw [QI] at hq
  split at hq
  ·obtain ⟨g1,g2⟩:=CY d a p Za h q hq;exact ⟨g1,fun t ht hh=>g2 t ht (hh.imp Za id)⟩
  ·rw [Xj,XS] at hq;rcases hq with ⟨j,hj,hq⟩ | hq
   ·split at hq
    ·rename_i hcan;have ho:=(Cs h hcan).2;obtain ⟨g1,g2⟩:=CY d _ _ Za (by rw [VX];exact h) q hq;refine ⟨g1,fun t ht hh=> ?_⟩
     rw [g2 t ht (by
      rcases hh with h1 | h1
      ·left;omega
      ·right;rw [ho t ht (.inr h1)];exact h1),ho t ht hh]
    ·simp at hq
   ·split at hq
    ·obtain ⟨g1,g2⟩:=CY d a _ Za h q hq;exact ⟨g1,fun t ht hh=>g2 t ht (hh.imp Za id)⟩
    ·simp at hq
theorem KE.refl {n:Nat} {l:List Col} {a:List Int} :KE n l a a:=fun _ _=>⟨rfl,Int.le_refl _⟩
theorem ZdU {l:List Col} {a:Int} (h:a<0):ky l a=(1,0,0):=if_pos h
theorem L4 {l:List Col} {a:Int} (h:0<=a):ky l a=(0,(nth l a.toNat).typ,(nth l a.toNat).set):=if_neg Za
theorem Zkn {l:List Col} {i j:Nat} :ky l (i:Int)=ky l (j:Int)↔kd (nth l i)=kd (nth l j):=by
 grind [L4,kd]
theorem lC {x:Inst} {s:St} {r:Col->Int} {ls:List Col} (hp: ∀c∈ls,0<=c.price) (hr: ∀c∈ls,YO x s c=true-> -1<=r c) {c:Col} (hc:c∈ls) (hy:YO x s c=true) (h0:0<=r c) :
  fQ (ls.foldl (fun o c=>if YO x s c=true then Y3 o c.price (r c) else o) (-1)) (c.price+r c):=by
 have e:=J6 (f:=fun o c=>if YO x s c=true then Y3 o c.price (r c) else o) (g:=fun o c=>if YO x s c=true then Y3 o c.price (max (-1) (r c)) else o) (l:=ls) (b:=(-1:Int)) fun c hc o=>by
  grind
 rw [e];have:=(SM (x:=x) (s:=s) (r:=fun c=>max (-1) (r c)) (fun c=>Za) (l:=ls) (a:= -1) hp).2 c hc hy Za
 grind
theorem Pl {x:Inst} {l ys:List Col} (hc:Ctx x l ys) {D:Nat} {s:St} (hv:StV x.orders.length s): -1<=Lx x ys D s:=(Uv (m:=mI x) hc.ok D _ (MB hv).1).1
theorem Sm {o p r:Int} (hr: -1<=r) (hp:0<=p):fQ (Y3 o p r) o/\(0<=r->fQ (Y3 o p r) (p+r)):=by
 grind [fQ,Y3]
theorem Zac {x:Inst} {l ys:List Col} (hc:Ctx x l ys) {D:Nat} (hD:10<D) {a:List Int} {s:St} {k:Nat} (h:Nd x l a s k) (hk:k<x.orders.length) (ho:(nth x.orders k).off=false) (hak:nth a k<0) {c:Col} (hm:c∈Yt ys k) (hy:YO x s c=true) (h0:0<=Lx x ys D (A1 s c)) :
  fQ (Lx x ys D s) (c.price+Lx x ys D (A1 s c)):=by
 have hcv:s.cov.toNat.testBit k=false:=by rw [h.cov k hk];grind
 rw [Pk hc hD h.v h.ix hk ho hcv]
 have nd: ∀e∈Yt ys k,YO x s e=true->StV x.orders.length (A1 s e):=fun e he hye=>by
  obtain ⟨p1,p2,p3⟩:=Kp hc h hk he hye;have:=(h.child hc hk p1 p3).v
  grind
 have low:=lC (x:=x) (s:=s) (r:=fun c=>Lx x ys D (A1 s c)) (ls:=Yt ys k) (fun e he=>(hc.typ (Af hc hk he).2.1).2) (fun e he hye=>Pl hc (nd e he hye)) hm hy h0
 split
 ·rename_i hs;have b:=(Sm (o:=(Yt ys k).foldl (fun o c=>if YO x s c=true then Y3 o c.price (Lx x ys D (A1 s c)) else o) (-1)) (Pl hc (D:=D) (h.skip' hk).v) hs).1
  grind [fQ]
 ·exact low
theorem rC {x:Inst} {l ys:List Col} (hc:Ctx x l ys) {D:Nat} (hD:10<D) {a:List Int} {s:St} {k:Nat} (h:Nd x l a s k) (hk:k<x.orders.length) (ho:(nth x.orders k).off=false) (hak:nth a k<0) (hs:0<=skpF x k) (h0:0<=Lx x ys D (Hk s)) :
  fQ (Lx x ys D s) (skpF x k+Lx x ys D (Hk s)):=by
 have hcv:s.cov.toNat.testBit k=false:=by rw [h.cov k hk];grind
 rw [Pk hc hD h.v h.ix hk ho hcv,if_pos hs]
 grind [Sm]
theorem R4 {x:Inst} {l ys:List Col} (hc:Ctx x l ys) {D:Nat} {a:List Int} {s:St} {k:Nat} (h:Nd x l a s k) (hk:k<x.orders.length) (ho:(nth x.orders k).off=true\/0<=nth a k):Lx x ys D s=Lx x ys D (Hk s):=by
 unfold Lx;rw [Ec h.ix hk (ho.imp (fun e=>by rw [Gp hc.n4 hk,e];rfl) fun e=>by rw [Cu h.v (by have:=hc.n4;omega),h.cov k hk];grind)]
theorem AH {x:Inst} {l ys:List Col} (hc:Ctx x l ys) {D:Nat} (hD:10<D): ∀(d k:Nat) (s:St) (a b:List Int) (p:Int),k+d=x.orders.length->Nd x l a s k->Nd x l b s k->KE x.orders.length l a b-> ∀q∈QI x l d b p,
  0<=Lx x ys D s/\p+Lx x ys D s<=q.2/\(q.2=p+Lx x ys D s->KL x.orders.length l (gr x l ys D d k s a) q.1)
 | 0,k,s,a,b,p,hd,ha,hb,he,q,hq=>by
  simp only [QI,Z4,We,Wz] at hq;subst hq;rw [fW (by rw [ha.ix];omega)];exact ⟨Za,Zb,fun _=> .inr he⟩
 | d+1,k,s,a,b,p,hd,ha,hb,he,q,hq=>by
  have hk:k<x.orders.length:=Za
  have hkd:x.orders.length-(d+1)=k:=Za
  have hneg: ∀t,t<x.orders.length->(0<=nth a t↔0<=nth b t):=fun t ht=>by
   have h1:=ha.cov t ht;rw [hb.cov t ht,decide_eq_decide] at h1;exact h1.symm
  rw [QI,hkd] at hq;rw [gr]
  split at hq
  ·rename_i ho;have ho':(nth x.orders k).off=true\/0<=nth a k:=ho.imp id (hneg k hk).2;rw [if_pos ho',R4 hc ha hk ho'];exact AH hc hD d (k+1) (Hk s) a b p Za (ha.skip' hk) (hb.skip' hk) he q hq
  ·rename_i ho;have ho': ¬((nth x.orders k).off=true\/0<=nth a k):=fun g=>ho (g.imp id (hneg k hk).1);rw [if_neg ho']
   have hoff:(nth x.orders k).off=false:=by
    grind
   have hbk:nth b k<0:=Int.not_le.1 fun g=>ho (.inr g);have hak:nth a k<0:=Int.not_le.1 fun g=>ho' (.inr g)
   -- what was picked stands at k
   have hpick: ∀c,(Yt ys k).find? (Ah x ys D s)=some c->YO x s c=true/\c∈ys/\(∀t,t<k->nth (gr x l ys D d (k+1) (A1 s c) (VC c.set.toNat a (BT l c))) t=nth a t)/\nth (gr x l ys D d (k+1) (A1 s c) (VC c.set.toNat a (BT l c))) k=BT l c/\nth l (BT l c)=c:=fun c hf=>by
    have hsel:=QV hf;simp only [Ah,ZE] at hsel;obtain ⟨p1,p2,p3⟩:=Kp hc ha hk (UL hf) hsel.1;have hch:=ha.child hc hk p1 p3;obtain ⟨c1,c2⟩:=Cs ha.len p3;rw [p2] at hch c1 c2;have g2:=(DN hc (D:=D) d (k+1) (A1 s c) _ Za hch).2;refine ⟨hsel.1,(Af hc hk (UL hf)).1,fun t ht=> ?_,?_,p2⟩
    ·grind
    ·rw [g2 k hk (.inl Za),Xl (by rw [ha.len];exact hk),if_pos c1]
   rw [Xj,XS] at hq;rcases hq with ⟨j,hj,hq⟩ | hq
   ·have hj:=Zz.1 hj
    split at hq
    ·rename_i hcan;obtain ⟨hy,htz⟩:=(So hc hb hk hj).1 hcan;have hjl:=ZL hj;obtain ⟨d',hd',hkd',hpr⟩:=iY hc.ch hjl
     have hst:d'.set=(nth l j).set/\d'.typ=(nth l j).typ:=by
      grind [kd]
     have hm:d'∈Yt ys k:=by
      simp_all [Yt]
     have hy':YO x s d'=true:=by grind [YO]
     have hnx:A1 s d'=A1 s (nth l j):=by grind [A1]
     have hcb:=hb.child hc hk hj hcan;obtain ⟨cb1,cb2⟩:=Cs hb.len hcan;have hqo:=(CY d _ _ Za (by rw [VX];exact hb.len) q hq).2
     have hqt: ∀t,t<k->nth q.1 t=nth b t:=fun t ht=>by rw [hqo t Za (.inl Za),cb2 t Za (.inl ht)]
     have hqk:nth q.1 k=j:=by rw [hqo k hk (.inl Za),Xl (by rw [hb.len];exact hk),if_pos cb1]
     obtain ⟨i1,i2,_⟩:=AH hc hD d (k+1) _ _ _ _ Za hcb hcb KE.refl q hq;rw [<- hnx] at i1 i2;have hle:=Zac hc hD ha hk hoff hak hm hy' i1;have hp0:=(hc.typ (Af hc hk hm).2.1).2
     have hL0:0<=Lx x ys D s/\Lx x ys D s<=d'.price+Lx x ys D (A1 s d'):=by
      rcases hle with h | h
      ·-- the least price would be lacking: not so, azs the column leads on
       omega
      ·exact h
     refine ⟨hL0.1,Za,fun hqc=> ?_⟩
     have hpe:d'.price=(nth l j).price:=Za
     have hLe:d'.price+Lx x ys D (A1 s d')=Lx x ys D s:=Za
     have hsel:Ah x ys D s d'=true:=by simp_all [Ah]
     have hpos:=Tu (hc.ch.bst d' hd')
     have hpj:BT l d'<=j:=by
      rcases hpos.2.2 j hj hkd'.symm with h | h
      ·omega
      ·exact h.2
     cases hf:(Yt ys k).find? (Ah x ys D s) with
     | none=>rw [AN] at hf;simp_all
     | some c =>
      obtain ⟨k1,k2,k3,k4,k5⟩:=hpick c hf;simp only
      by_cases hcd:c=d'
      ·subst hcd;obtain ⟨p1,p2,p3⟩:=Kp hc ha hk hm hy';have hca:=ha.child hc hk p1 p3;rw [p2] at hca;rw [<- hnx] at hcb;refine (AH hc hD d (k+1) _ _ _ _ Za hca hcb (fun t ht=> ?_) q hq).2.2 Za;rw [hst.1,Xl (by rw [ha.len];exact ht),Xl (by rw [hb.len];exact ht)]
       cases hbt:(nth l j).set.toNat.testBit t with
       | true =>
        rw [if_pos rfl,if_pos rfl,Zkn,p2]
        grind
       | false =>
        rw [if_neg Zb,if_neg Zb];exact he t ht
      ·-- an earlier kind
       have hlt:cfK c d'<0:=by
        have hpw:(Yt ys k).Pairwise fun a b=>cfK a b<0:=hc.ch.asc.filter _;obtain ⟨_,u,w,hab,hno⟩:=List.find?_eq_some_iff_append.1 hf;rw [hab] at hpw hm;rw [Fg,List.pairwise_cons] at hpw;rcases Xj.1 hm with h | h
        ·have:=hno d' h
         grind
        ·rcases Z4.1 h with h | h
         ·grind
         ·exact hpw.2.1.1 d' h
       rw [BG] at hlt;refine .inl ⟨k,hk,fun t ht=> ?_,?_⟩
       ·rw [k3 t ht,hqt t ht];exact (he t Za).1
       ·rw [k4,hqk,L4 Za,L4 Za,XY,XY,k5]
        right
        grind
    ·simp at hq
   ·split at hq
    ·rename_i hpen;obtain ⟨s1,s2⟩:=hc.sk k hk hoff;have hs0:=s1.1 hpen;have hse:=s2 hs0;rw [<- hse] at hq;have hqo:=(CY d _ _ Za hb.len q hq).2;obtain ⟨i1,i2,i3⟩:=AH hc hD d (k+1) (Hk s) a b _ Za (ha.skip' hk) (hb.skip' hk) he q hq;have hle:=rC hc hD ha hk hoff hak hs0 i1;have hrg:=Pl hc (D:=D) ha.v
     have hL0:0<=Lx x ys D s/\Lx x ys D s<=skpF x k+Lx x ys D (Hk s):=by
      rcases hle with h | h
      ·omega
      ·exact h
     refine ⟨hL0.1,Za,fun hqc=> ?_⟩
     cases hf:(Yt ys k).find? (Ah x ys D s) with
     | none=>grind
     | some c =>
      obtain ⟨k1,k2,k3,k4,k5⟩:=hpick c hf;simp only;refine .inl ⟨k,hk,fun t ht=> ?_,?_⟩
      ·rw [k3 t ht,hqo t Za (.inl Za)];exact (he t Za).1
      ·rw [k4,hqo k hk (.inl Za),L4 Za,ZdU hbk]
       left;omega
    ·simp at hq
theorem Pa {x:Inst} {S:Nat} (hn:x.orders.length<=4) (hS:S<9223372036854775808):R2 S (Yk x x.orders.length)=(decide (S<2^x.orders.length)&&(List.range x.orders.length).all fun i=> !(S.testBit i&&(nth x.orders i).off)):=by
 rw [Wf,ZE,Zs,R2,Zx,Zx]
 constructor
 ·intro h
  have key: ∀i,S.testBit i=true->i<x.orders.length/\(nth x.orders i).off=false:=fun i hi=>by
   have h63:i<63:=by
    rcases WM i 63 with h | h
    ·exact h
    ·have:2^63<=2^i:=YA Za h
     grind [AK]
   grind [Qh]
  refine ⟨Nat.lt_pow_two_of_testBit _ fun i hi=> ?_,fun i _=> ?_⟩
  ·grind
  grind
 ·rintro ⟨h1,h2⟩ i _
  cases hb:S.testBit i with
  | false=>rfl
  | true =>
   have hi:i<x.orders.length:=by
    rcases WM i x.orders.length with h | h
    ·exact h
    ·have:2^x.orders.length<=2^i:=YA Za h
     grind [AK]
   have:=h2 i (Zz.2 hi)
   simp_all [Qh]
theorem dV (x:Inst) (c:Col) (hn:x.orders.length<=4) (ht:x.types.length<=1048576) (hs:c.set<9223372036854775808):PC 84 [.p (Zv x),.p (Xx c)] (.bool (rightB x c)):=by
 obtain ⟨B,hB⟩: ∃B,B=rightB x c:=⟨_,rfl⟩;rw [<- hB]
 have h54:((pw 54:Nat):Int)=18014398509481984:=by decide
 refine Ze Tryz.func84 rfl Zkd ?_;simp (disch:=omega) only [Tryz.f84,go_sem,seval];refine Xq (Zc ?_);refine gF ?_ ?_<;>intro h1<;>simp (disch:=omega) only [Sh.out h1,go_sem,seval,↓reduceIte]
 ·grind [rightB]
 ·refine gF ?_ ?_<;>intro h2<;>simp (disch:=omega) only [Sh.out h2,go_sem,seval,↓reduceIte]
  ·grind [rightB]
  ·refine gF ?_ ?_<;>intro h3<;>simp (disch:=omega) only [Sh.out h3,go_sem,seval,↓reduceIte]
   ·grind [rightB]
   ·obtain ⟨S,hS⟩: ∃S:Nat,c.set=S:=⟨c.set.toNat,Za⟩
    have e0:B=(decide (S<2^x.orders.length)&&((List.range x.orders.length).all fun i=> !(S.testBit i&&(nth x.orders i).off))&&(decide (0<=c.price)&&decide (c.price<=18014398509481984))):=by
     grind [rightB,Pa]
    rw [hS];refine Zo (Ls x.orders.length Za) (Zc ?_);have hpw:pw x.orders.length=2^x.orders.length:=rfl;refine gF ?_ ?_<;>intro h4<;>simp (disch:=omega) only [Sh.out h4,go_sem,seval,↓reduceIte]
    ·grind [Qt]
    ·refine gF ?_ ?_<;>intro h5<;>simp (disch:=omega) only [Sh.out h5,go_sem,seval,↓reduceIte]
     ·grind
     ·refine Zo (Ls 54 Za) (Zc ?_);rw [h54];refine cD ?_ ?_<;>intro h6<;>simp (disch:=omega) only [Sh.out h6,go_sem,seval]
      ·grind
      ·have e1:B=((List.range x.orders.length).all fun i=> !(S.testBit i&&(nth x.orders i).off)):=by grind
       refine Zk [2,3] (fun k:Nat=> [(5,.p (.int .i64 k))]) (fun _=> [Zi x,LF c]) (fun k=>k<=x.orders.length/\ ∀j,j<k->(!(S.testBit j&&(nth x.orders j).off))=true) (fun k=>x.orders.length-k) 0 ⟨Zb,fun j hj=>Za⟩ (Weak.mk ?_) ?_
       ·simp (disch:=omega) only [Zi,LF,hS,go_sem,seval]
       ·rintro k ⟨hk,hno⟩;simp (disch:=omega) only [Zi,LF,hS,go_sem,seval];refine cD ?_ ?_<;>intro h7<;>simp (disch:=omega) only [Sh.out h7,go_sem,seval,↓reduceIte]
        ·have hk2:k<x.orders.length:=Za
         refine (LU S k Za Za).use (Zc ?_);refine Ql ?_ ?_<;>intro h8
         ·refine ZK ?_ ?_<;>intro h9
          ·grind
          ·exact ⟨k+1,⟨Za,Wu hno (by grind)⟩,Za,Weak.mk (by simp (disch:=omega) only [hS,go_sem,seval])⟩
         ·exact ⟨k+1,⟨Za,Wu hno (by rw [h8];rfl)⟩,Za,Weak.mk (by simp (disch:=omega) only [hS,go_sem,seval])⟩
        grind
def zCh : Chc:=⟨false,[],0⟩
def bG (b:Chc):PV:= .agg [.bool b.found,.list (!b.found) (b.places.map eI),.int .i64 b.price]
@[go_sem] theorem Zmy (b:Chc):bG b= .agg [.bool b.found,.list (!b.found) (b.places.map eI),.int .i64 b.price]:=Zl rfl rfl
def MQ (b:Chc):AM.Obj:= .cells [.p (.bool b.found),.p (.list (!b.found) (b.places.map eI)),.p (.int .i64 b.price)]
def EH (x:Inst) (l:List Col):Chc:=(QI x l x.orders.length (List.replicate x.orders.length (-1)) 0).foldl (YV l) zCh
def fU (x:Inst) (l:List Col) (b:Chc) (e:Int):Prop:=(8192<l.length/\b=zCh/\e=4)\/(l.length<=8192/\(∃c∈l,rightB x c=false)/\b=zCh/\e=2) \/
 (l.length<=8192/\(∀c∈l,rightB x c=true)/\(((EH x l).found=false/\b=zCh/\e=24)\/((EH x l).found=true/\b=EH x l/\e=0)))
theorem Fl {n i:Nat} (h:i<n):nth (List.replicate n (-1:Int)) i= -1:=by
 grind [Zh]
theorem Tw {x:Inst} {l:List Col} :RngA x l (List.replicate x.orders.length (-1)):=⟨Zb,fun i hi=>by rw [Fl hi];omega⟩
theorem Nr {x:Inst} {l:List Col} (h4:x.orders.length<=4) (h6:x.types.length<=6) (hl:l.length<=1048576) (hs: ∀c∈l,c.set<9223372036854775808) (hr: ∀c∈l,rightB x c=true)
  (hsk: ∀k,k<x.orders.length->(nth x.orders k).off=false->0<=(nth x.orders k).penalty->0<=skR x k/\skR x k<=18014398509481984) (hus: ∀i,scoR 1152921504606846976 (unsF x i).1):ColsR x l :=
 ⟨h4,h6,hl,fun c hc=>by
  obtain ⟨S,q1,q2,q3,_⟩:=QC (hr c hc) (hs c hc);have h:=hr c hc;simp only [rightB,ZE,Zs] at h
  exact ⟨⟨h.1,h.2.1⟩,h.2.2.2.2,S,q1,UM q3 (YA (n:=2) Za h4)⟩,hsk,hus⟩
theorem PQ (x:Inst) (l:List Col) (lc:Bool) (h4:x.orders.length<=4) (h6:x.types.length<=6) (hl:l.length<=1048576) (hs: ∀c∈l,c.set<9223372036854775808)
  (hsk: ∀k,k<x.orders.length->(nth x.orders k).off=false->0<=(nth x.orders k).penalty->0<=skR x k/\skR x k<=18014398509481984) (hus: ∀i,scoR 1152921504606846976 (unsF x i).1) :
  ACalls Tryz.prog 51 [.p (Zv x),.p (.list lc (l.map Xx))] [] fun y H'=> ∃b e,fU x l b e/\y= .tup [.p (bG b),.p (.int .i64 e)]/\H'= []:=by
 refine Zf [14] Tryz.func51 rfl ZjL ?_;simp (disch:=omega) only [Tryz.f51,go_sem,seval];refine cD ?_ ?_<;>intro h1<;>simp (disch:=omega) only [Sh.out h1,go_sem,seval,↓reduceIte]
 ·exact ⟨.tup [.p (bG zCh),.p (.int .i64 4)],[],Weak.mk (by simp (disch:=omega) only [zCh,W9,Zn,go_sem,seval]),_,_,.inl ⟨Za,rfl,rfl⟩,rfl,rfl⟩
 ·refine Zk [1,2,4] (fun k:Nat=> [(6,.p (.int .i64 k))]) (fun _=> [Zi x,MQ zCh]) (fun k=>k<=l.length/\ ∀j,j<k->rightB x (nth l j)=true) (fun k=>l.length-k) 0 ⟨Zb,fun j hj=>Za⟩ (Weak.mk ?_) ?_
  ·simp (disch:=omega) only [Zi,MQ,zCh,W9,Zn,go_sem,seval]
  ·rintro k ⟨hk,hno⟩;simp (disch:=omega) only [Zi,MQ,zCh,W9,Zn,go_sem,seval];refine cD ?_ ?_<;>intro h2<;>simp (disch:=omega) only [Sh.out h2,go_sem,seval,↓reduceIte]
   ·have hk2:k<l.length:=Za
    refine Xq (Zc ?_);refine Zo (dV x (nth l k) h4 Za (hs _ (ZL hk2))) (Zc ?_)
    cases hr:rightB x (nth l k) with
    | false =>
     refine G7 ?_;exact ⟨.tup [.p (bG zCh),.p (.int .i64 2)],[],Weak.mk (by simp (disch:=omega) only [zCh,W9,Zn,go_sem,seval]),_,_,.inr (.inl ⟨Za,⟨_,ZL hk2,hr⟩,rfl,rfl⟩),rfl,rfl⟩
    | true =>
     refine B3 ?_;exact ⟨k+1,⟨Za,Wu hno hr⟩,Za,wk⟩
   ·have hr: ∀c∈l,rightB x c=true:=fun c hc=>by
     obtain ⟨j,hj,rfl⟩:=ZN.1 hc
     grind [Zh]
    have hC:=Nr h4 h6 hl hs hr hsk hus;clear hno hk h2;refine ZZ [14] [2,4,7] (fun k:Nat=> [(8,.sl 3 0 k k),(9,.p (.int .i64 k))]) (fun k=> [Zi x,MQ zCh,UW x lc l zCh,.elems 1 ((List.replicate k (-1:Int)).map eI)]) (fun k=>k<=x.orders.length) (fun k=>x.orders.length-k) 0 Zb (Weak.ofNil 8 1 (by simp (disch:=omega) only [go_sem,seval]) Zb (Weak.mk ?_)) ?_
    ·simp (disch:=omega) only [Zi,MQ,UW,zCh,W9,Zn,List.replicate_zero,ZG,go_sem,seval]
    ·intro k hk;simp (disch:=omega) only [Zi,MQ,UW,zCh,W9,Zn,go_sem,seval];refine cD ?_ ?_<;>intro h2<;>simp (disch:=omega) only [Sh.out h2,go_sem,seval,↓reduceIte]
     ·have hk2:k<x.orders.length:=Za
      have hrp:(List.replicate k (-1:Int))++ [-1]=List.replicate (k+1) (-1):=by rw [Fh]
      simp (disch:=omega) only [CS,go_sem,seval];rw [if_pos ⟨Za,Za⟩];refine Zc ?_;exact ⟨k+1,Za,Za,Weak.mk (by simp (disch:=omega) only [<- hrp,XD,Zr,Zn,go_sem,seval])⟩
     ·have hkn:k=x.orders.length:=Za
      subst hkn;refine Zq (Weak.fz (o:=3) (by rfl)) ?_;refine Zg [] _ _ _ _ ?_;simp (disch:=omega) only [Zr,Zn,Xa,Z1,CS,eq_self,go_sem,seval];have ht:=TS x lc l hC x.orders.length (List.replicate x.orders.length (-1)) 0 zCh (Zw _) Tw Za Za (fun h=>by cases h);rw [Kf] at ht;obtain ⟨B,hB⟩: ∃B,B=EH x l:=⟨_,rfl⟩;rw [show (QI x l x.orders.length (List.replicate x.orders.length (-1)) 0).foldl (YV l) zCh=B from hB.symm] at ht;refine ACalls.mono (((ht.mono fun y H' hq=>(⟨hq,by grind⟩:_/\H'.length= [UW x lc l zCh].length)).front (by rfl) (by rfl) [.dead]).back [Zi x,MQ zCh] (by rfl)) ?_
      rintro y H' ⟨y1,H1,⟨H2,⟨rfl,rfl⟩,rfl⟩,rfl,rfl⟩;obtain ⟨f,bp,bc⟩:=B
      cases f with
      | false =>
       simp (disch:=omega) only [shV,shVs,shO,UW,Zi,MQ,zCh,Zr,Zn,ZO,ZD,W9,go_sem,seval];exact ⟨.tup [.p (bG zCh),.p (.int .i64 24)],[],Weak.mk (by simp (disch:=omega) only [zCh,W9,Zn,go_sem,seval]),_,_,.inr (.inr ⟨Za,hr,.inl ⟨by rw [<- hB],rfl,rfl⟩⟩),rfl,rfl⟩
      | true =>
       simp (disch:=omega) only [shV,shVs,shO,UW,Zi,MQ,zCh,Zr,Zn,ZO,ZD,YB,go_sem,seval];exact ⟨.tup [.p (bG ⟨true,bp,bc⟩),.p (.int .i64 0)],[],Weak.mk (by simp (disch:=omega) only [YB,go_sem,seval]),_,_,.inr (.inr ⟨Za,hr,.inr ⟨by rw [<- hB],hB,rfl⟩⟩),rfl,rfl⟩
theorem mL {l:List Col} {x y:Int} (hx: -1<=x) (hy: -1<=y) (h:ky l x=ky l y):(x<0->x=y)/\(y<0->x=y)/\(0<=x->0<=y/\(nth l x.toNat).typ=(nth l y.toNat).typ/\(nth l x.toNat).set=(nth l y.toNat).set):=by
 unfold ky at h
 grind
theorem DF {l:List Col} : ∀ {a b:List Int},a.length=b.length->(∀t,t<a.length-> -1<=nth a t/\ -1<=nth b t/\ky l (nth a t)=ky l (nth b t))->KG l a b=none
 | [],[],_,_=>Nb
 | [],_::_,h,_=>by simp at h
 | _::_,[],h,_=>by simp at h
 | x::a,y::b,hl,h=>by
  have ih:=DF (l:=l) (a:=a) (b:=b) (by grind) fun t ht=>h (t+1) (by grind);obtain ⟨h1,h2,h3⟩:=h 0 Zb;obtain ⟨k1,k2,k3⟩:=mL (show-1<=x from h1) (show-1<=y from h2) h3;rw [KG]
  grind
theorem Sj {l:List Col} : ∀ {a b:List Int} {i:Nat},a.length=b.length->i<a.length->(∀t,t<a.length-> -1<=nth a t/\ -1<=nth b t)->(∀t,t<i->ky l (nth a t)=ky l (nth b t))->mK (ky l (nth a i)) (ky l (nth b i))->KG l a b=some true/\KG l b a=some false
 | [],_,_,_,h,_,_,_=>by simp at h
 | _::_,[],_,h,_,_,_,_=>by simp at h
 | x::a,y::b,0,_,_,hr,_,h=>by
  obtain ⟨h1,h2⟩:=hr 0 Zb;have h':mK (ky l x) (ky l y):=h
  have hne:x≠y:=fun e=>by grind [mK]
  rw [KG,KG,if_neg hne,if_neg (Ne.symm hne)];unfold ky mK at h'
  grind
 | x::a,y::b,i+1,hl,hi,hr,he,h=>by
  have ih:=Sj (l:=l) (a:=a) (b:=b) (i:=i) (by grind) (by grind) (fun t ht=>hr (t+1) (by grind)) (fun t ht=>he (t+1) Za) h;obtain ⟨h1,h2⟩:=hr 0 Zb;have h3:ky l x=ky l y:=he 0 Za;obtain ⟨k1,k2,k3⟩:=mL (show-1<=x from h1) (show-1<=y from h2) h3;rw [KG,KG]
  grind
theorem Sk : ∀ {a b:List Int},a.length=b.length->(∀t,t<a.length->nth a t<=nth b t)->a=b\/(EI a b=true/\EI b a=false)
 | [],[],_,_=> .inl rfl
 | [],_::_,h,_=>by simp at h
 | _::_,[],h,_=>by simp at h
 | x::a,y::b,hl,h=>by
  have h0:x<=y:=h 0 Zb;rw [EI,EI]
  by_cases hxy:x=y
  ·subst hxy;rw [if_pos rfl,if_pos rfl];rcases Sk (a:=a) (b:=b) (by grind) (fun t ht=>h (t+1) (by grind)) with e | e
   ·grind
   grind
  grind
theorem Zab {x:Inst} {l:List Col} {a b:List Int} (ha:RngA x l a) (hb:RngA x l b) (h:KL x.orders.length l a b):a=b\/(FU l a b=true/\FU l b a=false):=by
 have hl:a.length=b.length:=by rw [ha.1,hb.1]
 have hr: ∀t,t<a.length-> -1<=nth a t/\ -1<=nth b t:=fun t ht=>⟨(ha.2 t (by rw [<- ha.1];exact ht)).1,(hb.2 t (by rw [<- ha.1];exact ht)).1⟩;rcases h with ⟨i,hi,he,hlt⟩ | h
 ·obtain ⟨h1,h2⟩:=Sj hl (by rw [ha.1];exact hi) hr he hlt
  grind [Jy]
 ·have h1:=DF (l:=l) hl fun t ht=>⟨(hr t ht).1,(hr t ht).2,(h t (by rw [<- ha.1];exact ht)).1⟩;have h2:=DF (l:=l) hl.symm fun t ht=>⟨(hr t Za).2,(hr t Za).1,((h t (by rw [<- hb.1];exact ht)).1).symm⟩;rcases Sk hl fun t ht=>(h t (by rw [<- ha.1];exact ht)).2 with e | ⟨e1,e2⟩
  ·exact .inl e
  grind [HQ]
def Prf (l:List Col) (P:List Int) (W:Int) (q:List Int×Int):Prop:=W<=q.2/\(q.2=W->P=q.1\/(FU l P q.1=true/\FU l q.1 P=false))
theorem O6 {l:List Col} {P:List Int} {W:Int} : ∀ {L:List (List Int×Int)},(∀q∈L,Prf l P W q)->L.foldl (YV l) ⟨true,P,W⟩=⟨true,P,W⟩
 | [],_=>rfl
 | q::L,h=>by
  have e:YV l ⟨true,P,W⟩ q=⟨true,P,W⟩:=by
   obtain ⟨h1,h2⟩:=h q Zb;unfold YV
   split
   ·rename_i hc;rcases hc with hc | hc | ⟨hc,hd⟩
    ·cases hc
    ·simp only at hc;omega
    ·simp only at hc hd;rcases h2 hc with e | ⟨_,e⟩
     ·rw [<- e,hc]
     ·rw [e] at hd;cases hd
   ·rfl
  rw [XO,e];exact O6 fun q hq=>h q (XL _ hq)
theorem I0 {l:List Col} {P:List Int} {W:Int} : ∀ {L:List (List Int×Int)} {b:Chc},(b.found=false\/Prf l P W (b.places,b.price))->(∀q∈L,Prf l P W q)->(P,W)∈L->L.foldl (YV l) b=⟨true,P,W⟩
 | [],_,_,_,hm=>by simp at hm
 | q::L,b,hb,h,hm=>by
  rw [XO];have hq:=h q Zb;have hL: ∀q∈L,Prf l P W q:=fun q hq=>h q (XL _ hq)
  by_cases e:q=(P,W)
  ·have:YV l b q=⟨true,P,W⟩:=by
    subst e;unfold YV
    split
    ·rfl
    ·rename_i hc;rcases hb with hb | ⟨h1,h2⟩
     ·grind
     ·simp only at h1 h2 hc
      have h3:b.price=W:=by
       omega
      rcases h2 h3 with e | ⟨e,_⟩
      ·obtain ⟨f,bp,bc⟩:=b
       grind
      grind
   grind [O6]
  ·refine I0 ?_ hL (by
    rcases Z4.1 hm with h | h
    ·exact absurd h.symm e
    ·exact h)
   unfold YV
   split
   ·exact .inr hq
   ·exact hb
theorem SO {x:Inst} {l ys:List Col} (hc:Ctx x l ys) {D:Nat} (hD:10<D): ∀(d k:Nat) (s:St) (a:List Int) (p:Int),k+d=x.orders.length->Nd x l a s k->0<=Lx x ys D s->(gr x l ys D d k s a,p+Lx x ys D s)∈QI x l d a p
 | 0,k,s,a,p,hd,ha,h0=>by
  rw [fW (by rw [ha.ix];omega),UP,gr,QI];simp
 | d+1,k,s,a,p,hd,ha,h0=>by
  have hk:k<x.orders.length:=Za
  have hkd:x.orders.length-(d+1)=k:=Za
  rw [QI,hkd,gr]
  split
  ·rename_i ho;rw [R4 hc ha hk ho] at h0 ⊢;exact SO hc hD d (k+1) _ a p Za (ha.skip' hk) h0
  ·rename_i ho
   have hoff:(nth x.orders k).off=false:=by
    cases e:(nth x.orders k).off with
    | false=>rfl
    | true=>exact absurd (.inl e) ho
   have hak:nth a k<0:=Int.not_le.1 fun g=>ho (.inr g)
   have hcv:s.cov.toNat.testBit k=false:=by rw [ha.cov k hk];exact Qt Za
   rw [Xj,XS]
   cases hf:(Yt ys k).find? (Ah x ys D s) with
   | some c =>
    left
    have hsel:=QV hf;simp only [Ah,ZE,Zs] at hsel;obtain ⟨p1,p2,p3⟩:=Kp hc ha hk (UL hf) hsel.1;have hch:=ha.child hc hk p1 p3;rw [p2] at hch;refine ⟨BT l c,Zz.2 p1,?_⟩;rw [if_pos p3,p2];have:=SO hc hD d (k+1) _ _ (p+c.price) Za hch hsel.2.1;rw [show p+c.price+Lx x ys D (A1 s c)=p+Lx x ys D s by omega] at this;exact this
   | none =>
    right
    rw [AN] at hf;have hdec:=Pk hc hD ha.v ha.ix hk hoff hcv;have hno: ∀c∈Yt ys k,YO x s c=true->0<=Lx x ys D (A1 s c)->c.price+Lx x ys D (A1 s c)≠Lx x ys D s:=fun c hm hy hL e=>hf c hm (by simp only [Ah,hy,Vr hL,Vr e,Bool.and_self]);obtain ⟨s1,s2⟩:=hc.sk k hk hoff;have hfold:=Ie (x:=x) (s:=s) (r:=fun c=>Lx x ys D (A1 s c)) (l:=Yt ys k) (a:= -1)
    by_cases hs:0<=skpF x k
    ·rw [if_pos (s1.2 hs),<- s2 hs];rw [if_pos hs] at hdec;unfold Y3 at hdec
     split at hdec
     ·rename_i hb;have:=SO hc hD d (k+1) _ a (p+skpF x k) Za (ha.skip' hk) hb.1;rw [show p+skpF x k+Lx x ys D (Hk s)=p+Lx x ys D s by omega] at this;exact this
     ·exfalso;rcases hfold with e | ⟨c,h1,h2,h3,h4⟩
      ·unfold Y3 at e;omega
      ·exact hno c h1 h2 h3 (by rw [hdec];exact h4.symm)
    ·exfalso;rw [if_neg hs] at hdec;rcases hfold with e | ⟨c,h1,h2,h3,h4⟩
     ·omega
     ·exact hno c h1 h2 h3 (by rw [hdec];exact h4.symm)
def Ty (l:List Col) (g:List Int) (T:Nat):Nat->List Col
 | 0=> []
 | i+1=>Ty l g T i++(if 0<=nth g i/\(nth l (nth g i).toNat).typ=T/\(nth l (nth g i).toNat).set%(pw i:Nat)=0 then [nth l (nth g i).toNat] else [])
def MR (l:List Col) (g:List Int) (n:Nat):Nat->List Col
 | 0=> []
 | T+1=>MR l g n T++Ty l g T n
def fT (x:Inst) (g:List Int):Nat->List Int
 | 0=> []
 | i+1=>fT x g i++(if nth g i<0/\(nth x.orders i).off=false then [(i:Int)] else [])
theorem Mr {l:List Col} {g:List Int} {T:Nat} : ∀k,(Ty l g T k).length<=k
 | 0=>Zw _
 | k+1=>by
  have:=Mr (l:=l) (g:=g) (T:=T) k;rw [Ty,ZJ];split<;>simp<;>omega
theorem Ms {l:List Col} {g:List Int} {n:Nat} : ∀T,(MR l g n T).length<=T*n
 | 0=>by simp [MR]
 | T+1=>by
  have:=Ms (l:=l) (g:=g) (n:=n) T;have:=Mr (l:=l) (g:=g) (T:=T) n;rw [MR,ZJ,XT];omega
theorem MK {x:Inst} {g:List Int} : ∀k,(fT x g k).length<=k
 | 0=>Zw _
 | k+1=>by
  have:=MK (x:=x) (g:=g) k;rw [fT,ZJ];split<;>simp<;>omega
def MS (x:Inst) (l:List Col) (p:Pln) (c e:Int):Prop:= ∃b,fU x l b e/\(e≠0->p=zPlC/\c=0)/\(e=0->c=b.price/\p=⟨false,(MR l b.places b.places.length x.types.length).map (·.route),false,fT x b.places b.places.length⟩)
def fS (v w:V):AM.Obj:= .cells [v,w]
theorem Nm (x:Inst) (l:List Col) (lc:Bool) (h4:x.orders.length<=4) (h6:x.types.length<=6) (hl:l.length<=1048576) (hs: ∀c∈l,c.set<9223372036854775808)
  (hsk: ∀k,k<x.orders.length->(nth x.orders k).off=false->0<=(nth x.orders k).penalty->0<=skR x k/\skR x k<=18014398509481984) (hus: ∀i,scoR 1152921504606846976 (unsF x i).1) :
  ACalls Tryz.prog 31 [.p (Zv x),.p (.list lc (l.map Xx))] [] fun y H'=> ∃p c e,MS x l p c e/\y= .tup [.p (Ut p),.p (.int .i64 c),.p (.int .i64 e)]/\H'= []:=by
 refine Zf [18] Tryz.func31 rfl Zjv ?_;simp (disch:=omega) only [Tryz.f31,go_sem,seval];refine ((PQ x l lc h4 h6 hl hs hsk hus).behind (by rfl) _).mono ?_;rintro y H' ⟨y1,H1,⟨b,e,hb,rfl,rfl⟩,rfl,rfl⟩;simp (disch:=omega) only [shV,shVs,Zn,go_sem,seval];refine cD ?_ ?_<;>intro h1<;>simp (disch:=omega) only [Sh.out h1,go_sem,seval,↓reduceIte]
 ·exact ⟨.tup [.p (Ut zPlC),.p (.int .i64 0),.p (.int .i64 e)],[],Weak.mk (by simp (disch:=omega) only [zPlC,Zn,go_sem,seval]),_,_,_,⟨b,hb,fun _=>⟨rfl,rfl⟩,fun h=>absurd h h1⟩,rfl,rfl⟩
 ·have he:e=0:=Za
  subst he;have hcv:=hb;rcases hb with ⟨_,_,h⟩ | ⟨_,_,_,h⟩ | ⟨hl2,hr,⟨_,_,h⟩ | ⟨hf,rfl,_⟩⟩
  ·cases h
  ·cases h
  ·cases h
  ·have hC:=Nr h4 h6 hl hs hr hsk hus;have hrg:RngA x l (EH x l).places:=(ML (x:=x) (l:=l) (b:=zCh) (fun h=>by cases h) (AZ x.orders.length Tw)) hf;obtain ⟨⟨f,g,c⟩,hB⟩: ∃B,B=EH x l:=⟨_,rfl⟩;rw [<- hB] at hcv hf hrg ⊢;simp only at hf hrg;subst hf;have hgl:g.length=x.orders.length:=hrg.1;refine Zk [1,2,4,7,9] (fun T:Nat=> [(10,.p (.int .i64 T))]) (fun T=> [Zi x,fS (.p (.list true [])) (.p (.list true [])),MQ ⟨true,g,c⟩,fS (.sl 4 0 (MR l g g.length T).length (MR l g g.length T).length) (.p (.list true [])),.elems 4 ((MR l g g.length T).map fun c=>Wd c.route)]) (fun T=>T<=x.types.length) (fun T=>x.types.length-T) 0 Zb ((Weak.nilC (o:=3) (j:=0) 4 (by rfl) (by rfl) Zb).trans (Weak.mk ?_)) ?_
   ·simp (disch:=omega) only [Zi,fS,MQ,YB,MR,Zn,ZG,Xa,Z1,go_sem,seval]
   ·intro T hT;obtain ⟨R,hR⟩: ∃R,R=MR l g g.length T:=⟨_,rfl⟩;have hRl:=Ms (l:=l) (g:=g) (n:=g.length) T;rw [<- hR] at hRl ⊢
    have hRs:MR l g g.length (T+1)=R++Ty l g T g.length:=by rw [hR];rfl
    have hTn:T*g.length<=6*4:=CX Za Za;simp (disch:=omega) only [Zi,fS,MQ,YB,go_sem,seval];refine cD ?_ ?_<;>intro h2<;>simp (disch:=omega) only [Sh.out h2,go_sem,seval,↓reduceIte]
    ·obtain ⟨W,hW⟩: ∃W:Nat->List Col,W=fun i=>R++Ty l g T i:=⟨_,rfl⟩
     have hW0:W 0=R:=by grind [Ty]
     have hWn:MR l g g.length (T+1)=W g.length:=by rw [hRs,hW]
     have hWl: ∀i,(W i).length<=R.length+i:=fun i=>by
      grind [Mr]
     have hWs: ∀i,W (i+1)=W i++(if 0<=nth g i/\(nth l (nth g i).toNat).typ=T/\(nth l (nth g i).toNat).set%(pw i:Nat)=0 then [nth l (nth g i).toNat] else []):=fun i=>by grind [Ty]
     clear hW hRs;refine Zk [1,2,4,7,9,10] (fun i:Nat=> [(11,.p (.int .i64 i))]) (fun i=> [Zi x,fS (.p (.list true [])) (.p (.list true [])),MQ ⟨true,g,c⟩,fS (.sl 4 0 (W i).length (W i).length) (.p (.list true [])),.elems 4 ((W i).map fun c=>Wd c.route)]) (fun i=>i<=g.length) (fun i=>g.length-i) 0 Zb (Weak.mk ?_) ?_
     ·simp (disch:=omega) only [Zi,fS,MQ,YB,hW0,go_sem,seval]
     ·intro i hi
      have hQl:(W i).length<=28:=by grind
      have hQs:=hWs i;simp (disch:=omega) only [Zi,fS,MQ,YB,go_sem,seval];refine ZK ?_ ?_<;>intro h3
      ·have hi2:i<g.length:=Za
       have hri:=hrg.2 i Za;refine Xq (Zc ?_);refine Ql ?_ ?_<;>intro h5
       ·have hj:(nth g i).toNat<l.length:=Za
        obtain ⟨⟨t0,t1⟩,⟨c0,c1⟩,S,hS,hS2⟩:=hC.col _ (ZL hj);refine Ql ?_ ?_<;>intro h7
        ·have hpp:0<pw i/\pw i<=pw 4:=⟨GK i,KD Za⟩;refine Zo (Ls i Za) (Zc ?_);rw [hS];refine ZK ?_ ?_<;>intro h8
         ·rw [if_pos ⟨h5,h7,by grind⟩] at hQs;refine ZB 12 mixed Zd Zd ?_;refine Zc ?_;exact ⟨i+1,Za,Za,Weak.mk (by simp (disch:=omega) only [hQs,XD,Zr,Zn,ZJ,ZC,ZG,Xt,go_sem,seval])⟩
         ·rw [if_neg (fun h=>h8 (by grind)),Wy] at hQs;exact ⟨i+1,Za,Za,Weak.mk (by simp (disch:=omega) only [hQs,go_sem,seval])⟩
        ·rw [if_neg (fun h=>h7 h.2.1),Wy] at hQs;exact ⟨i+1,Za,Za,Weak.mk (by simp (disch:=omega) only [hQs,go_sem,seval])⟩
       ·rw [if_neg (fun h=>h5 h.1),Wy] at hQs;exact ⟨i+1,Za,Za,Weak.mk (by simp (disch:=omega) only [hQs,go_sem,seval])⟩
      ·have hig:i=g.length:=Za
       subst hig;exact ⟨T+1,Za,Za,Weak.mk (by simp (disch:=omega) only [hWn,go_sem,seval])⟩
    ·have hTt:T=x.types.length:=Za
     subst hTt;refine ZZ [18] [2,4,7,9] (fun i:Nat=> [(12,.p (.int .i64 i))]) (fun i=> [Zi x,fS (.p (.list true [])) (.p (.list true [])),MQ ⟨true,g,c⟩,fS (.sl 4 0 R.length R.length) (.sl 5 0 (fT x g i).length (fT x g i).length),.elems 4 (R.map fun c=>Wd c.route),.elems 1 ((fT x g i).map eI)]) (fun i=>i<=g.length) (fun i=>g.length-i) 0 Zb ((Weak.nilC (o:=3) (j:=1) 1 (by rfl) (by rfl) Zb).trans (Weak.mk ?_)) ?_
     ·simp (disch:=omega) only [Zi,fS,MQ,YB,fT,Zn,ZG,Xa,Z1,go_sem,seval]
     ·intro i hi;obtain ⟨U,hU⟩: ∃U,U=fT x g i:=⟨_,rfl⟩;have hUl:=MK (x:=x) (g:=g) i
      have hUs:fT x g (i+1)=U++(if nth g i<0/\(nth x.orders i).off=false then [(i:Int)] else []):=by rw [hU];rfl
      rw [<- hU] at hUl ⊢;simp (disch:=omega) only [Zi,fS,MQ,YB,go_sem,seval];refine cD ?_ ?_<;>intro h3<;>simp (disch:=omega) only [Sh.out h3,go_sem,seval,↓reduceIte]
      ·have hi2:i<g.length:=Za
       refine Ql ?_ ?_<;>intro h5
       ·cases ho:(nth x.orders i).off with
        | true =>
         rw [if_neg (by rw [ho];simp),Wy] at hUs;refine B3 ?_;exact ⟨i+1,Za,Za,Weak.mk (by simp (disch:=omega) only [hUs,go_sem,seval])⟩
        | false =>
         rw [if_pos ⟨h5,ho⟩] at hUs;refine G7 ?_;exact ⟨i+1,Za,Za,Weak.mk (by simp (disch:=omega) only [hUs,XD,Zr,Zn,ZJ,ZC,ZG,Xt,go_sem,seval])⟩
       ·rw [if_neg (fun h=>h5 h.1),Wy] at hUs;exact ⟨i+1,Za,Za,Weak.mk (by simp (disch:=omega) only [hUs,go_sem,seval])⟩
      ·have hig:i=g.length:=Za
       subst hig;refine Zq (Weak.fz (o:=4) (by rfl)) ?_;refine Zq (Weak.fz (o:=5) (by rfl)) ?_;refine Zg [] _ _ _ _ ?_;simp (disch:=omega) only [Zr,Zn,Xa,Z1,eq_self,go_sem,seval];refine BD [3] [1,2] [2] 4 mixed Zd Zd Zd Zd Zb (Zc ?_);refine ⟨fun q hq p' hp=> ?_,?_⟩
       ·simp only [Z4,We,Wz] at hq;rcases hq with rfl | rfl
        ·obtain rfl:7=p':=Vp hp;exact Uc (by decide)
        ·obtain rfl:114=p':=Vp hp;exact Uc (by decide)
       ·refine NW 3 _ _ Zd (by refine Zc ?_;exact ⟨rfl,rfl⟩) ?_;refine ⟨fun k hk=>by simp at hk;subst hk;rfl,L6 ?_⟩;refine Zc ?_;exact ⟨.tup [.p (Ut ⟨false,R.map (·.route),false,U⟩),.p (.int .i64 c),.p (.int .i64 0)],[],Weak.mk (by simp (disch:=omega) only [List.map_map,Function.comp_def,go_sem,seval]),_,_,_,⟨_,hcv,fun h=>absurd rfl h,fun _=>⟨rfl,by rw [hR,hU]⟩⟩,rfl,rfl⟩
theorem Ga {α:Type} {p q:α->Bool} : ∀ {l:List α},(∀a∈l,p a=q a)->l.find? p=l.find? q
 | [],_=>rfl
 | a::l,h=>by
  rw [List.find?_cons,List.find?_cons,h a Zb,Ga fun a ha=>h a (XL _ ha)]
def RA (l:List Col) (g:List Int):Nat->Nat->List Col
 | 0,_=> []
 | d+1,k=>(if 0<=nth g k/\Bf (nth l (nth g k).toNat).set.toNat=(k:Int) then [nth l (nth g k).toNat] else [])++RA l g d (k+1)
def UA (x:Inst) (g:List Int):Nat->Nat->List Int
 | 0,_=> []
 | d+1,k=>(if nth g k<0/\(nth x.orders k).off=false then [(k:Int)] else [])++UA x g d (k+1)
theorem wO {x:Inst} {l ys:List Col} (hc:Ctx x l ys) {D:Nat} (hD:D=20) {s:St} {k:Nat} (hv:StV x.orders.length s) (hk:s.ix=k) (hkn:k<x.orders.length) (ho:(nth x.orders k).off=false) (hcv:s.cov.toNat.testBit k=false) {c:Col} (hm:c∈Yt ys k) :
  MA x.orders.length (mI x) x (fstF x.orders.length ys) (skF x x.orders.length) s c=Ah x ys D s c:=by
 have hn:=hc.n4;have e1:=Ee (n:=x.orders.length) hk (m:=mI x) (by grind [Gp]) (by grind [Cu]);have e2:=Hh (m:=mI x) hk hkn hn (Af hc hkn hm).2.2.2
 grind [MA,Ah,Lx]
theorem Ft {x:Inst} {l ys:List Col} (hc:Ctx x l ys) {D:Nat} (hD:D=20): ∀(d k:Nat) (s:St) (a:List Int) (f:Nat),k+d=x.orders.length->d<f->Nd x l a s k ->
  Yr x.orders.length (mI x) x (fstF x.orders.length ys) (skF x x.orders.length) f (Vu x.orders.length (mI x) s)=(RA l (gr x l ys D d k s a) d k,UA x (gr x l ys D d k s a) d k)
 | 0,k,s,a,0,_,hf,_=>Za
 | 0,k,s,a,f+1,hd,_,h=>by
  rw [Yr,if_pos,RA,UA];simp only [Vu];have:=Dp (n:=x.orders.length) (m:=mI x) (cov:=s.cov) (x.orders.length-s.ix.toNat) s.ix.toNat;have:=h.ix;omega
 | d+1,k,s,a,0,_,hf,_=>Za
 | d+1,k,s,a,f+1,hd,hf,h=>by
  have hk:k<x.orders.length:=Za
  have hn:=hc.n4;rw [gr]
  split
  ·rename_i ho;have hsk:=ho.imp (fun e=>show sHas (mI x) k=false by grind [Gp]) (fun e=>show sHas s.cov k=true by rw [Cu h.v Za,h.cov k hk];grind);rw [Ec h.ix hk hsk,Ft hc hD d (k+1) (Hk s) a (f+1) Za Za (h.skip' hk)];have hg:=(DN hc (D:=D) d (k+1) (Hk s) a Za (h.skip' hk)).2 k hk (.inl Za);rw [RA,UA,hg,if_neg,if_neg,ZD,ZD]
   ·grind
   ·rintro ⟨g1,g2⟩;obtain ⟨t,t1,t2⟩:=h.old k hk (Zw _) g1;have hr:=h.rng k hk;obtain ⟨_,s0,s1,_⟩:=hc.set (ZL (l:=l) (i:=(nth a k).toNat) Za);have:=((RZ s0 s1 hn hk).1 g2).2 t Za t2;omega
  ·rename_i ho
   have hoff:(nth x.orders k).off=false:=by
    grind
   have hak:nth a k<0:=Int.not_le.1 fun g=>ho (.inr g)
   have hcv:s.cov.toNat.testBit k=false:=by rw [h.cov k hk];grind
   rw [Ee h.ix (by grind [Gp]) (by rw [Cu h.v Za,hcv]),Yr,if_neg (by rw [h.ix];omega)]
   have e2:nth (fstF x.orders.length ys) s.ix.toNat=Yt ys k:=by rw [h.ix,XY,Oc,if_pos hk]
   rw [e2,Ga (q:=Ah x ys D s) fun c hm=>wO hc hD h.v h.ix hk hoff hcv hm]
   cases hfd:(Yt ys k).find? (Ah x ys D s) with
   | some c =>
    have hsel:=QV hfd;have hm:=UL hfd;simp only [Ah,ZE] at hsel;obtain ⟨p1,p2,p3⟩:=Kp hc h hk hm hsel.1;have hch:=h.child hc hk p1 p3;obtain ⟨c1,c2⟩:=Cs h.len p3;rw [p2] at hch c1 c2;have hg:=(DN hc (D:=D) d (k+1) (A1 s c) _ Za hch).2 k hk (.inl Za);rw [Xl (by rw [h.len];exact hk),if_pos c1] at hg;simp only;rw [Hh h.ix hk hn (Af hc hk hm).2.2.2,Ft hc hD d (k+1) (A1 s c) _ f Za Za hch,RA,UA,hg,if_pos ⟨Za,by rw [XY,p2];exact (Af hc hk hm).2.2.1⟩,if_neg Za,XY,p2]
    rfl
   | none =>
    have hg:=(DN hc (D:=D) d (k+1) (Hk s) a Za (h.skip' hk)).2 k hk (.inl Za);simp only;have e3:DY x.orders.length (mI x) s=Vu x.orders.length (mI x) (Hk s):=rfl;rw [e3,Ft hc hD d (k+1) (Hk s) a f Za Za (h.skip' hk),RA,UA,hg,if_neg Za,if_pos ⟨hak,hoff⟩,h.ix]
    rfl
theorem I6 {l:List Col} {g:List Int} {c:Col} : ∀(d k:Nat),c∈RA l g d k↔ ∃i,k<=i/\i<k+d/\0<=nth g i/\Bf (nth l (nth g i).toNat).set.toNat=(i:Int)/\c=nth l (nth g i).toNat
 | 0,k=>by simp [RA];omega
 | d+1,k=>by
  rw [RA,Xj,I6 d (k+1)]
  constructor
  ·rintro (h | ⟨i,h1,h2,h3⟩)
   ·split at h
    ·grind
    ·simp at h
   grind
  grind
theorem fX {l:List Col} {g:List Int} : ∀(d k:Nat),(RA l g d k).Pairwise fun a b=>Bf a.set.toNat<Bf b.set.toNat
 | 0,k=> .nil
 | d+1,k=>by
  rw [RA,Fg];refine ⟨?_,fX d (k+1),fun a ha b hb=> ?_⟩
  ·split<;>simp
  ·split at ha
   ·rename_i hh;obtain ⟨i,h1,h2,h3,h4,rfl⟩:=(I6 _ _).1 hb
    grind
   ·simp at ha
theorem R6 {x:Inst} {g:List Int} : ∀(d k:Nat),UA x g (d+1) k=UA x g d k++(if nth g (k+d)<0/\(nth x.orders (k+d)).off=false then [((k+d:Nat):Int)] else [])
 | 0,k=>by simp [UA]
 | d+1,k=>by
  rw [UA,R6 d (k+1),UA,QQ,show k+1+d=k+(d+1) by omega]
theorem fZ {x:Inst} {g:List Int} : ∀n,UA x g n 0=fT x g n
 | 0=>rfl
 | n+1=>by rw [R6,fZ n,fT,Xt]
theorem Zef : ∀S:Fin 16,0<S.val-> ∀i:Fin 4,S.val.testBit i.val=true->((S.val:Int)%(pw i.val:Nat)=0↔Bf S.val=(i.val:Int)):=by decide+kernel
theorem A9 {l:List Col} {g:List Int} {T:Nat} {c:Col} : ∀k,c∈Ty l g T k↔ ∃i,i<k/\0<=nth g i/\(nth l (nth g i).toNat).typ=T/\(nth l (nth g i).toNat).set%(pw i:Nat)=0/\c=nth l (nth g i).toNat
 | 0=>by simp [Ty]
 | k+1=>by
  rw [Ty,Xj,A9 k]
  constructor
  ·grind
  grind
theorem Mt {l:List Col} {g:List Int} {n:Nat} {c:Col} : ∀T,c∈MR l g n T↔ ∃t,t<T/\c∈Ty l g t n
 | 0=>by simp [MR]
 | T+1=>by
  rw [MR,Xj,Mt T]
  grind
theorem zX {x:Inst} (hx:InstOk x) {k:Nat} (hk:k<x.orders.length) (ho:(nth x.orders k).off=false):(0<=(nth x.orders k).penalty↔0<=skpF x k)/\(0<=skpF x k->skpF x k=skR x k):=by
 have ha:=(hx.orders.2 k hk).arg;simp only [argOk,rng,ZE,Zs] at ha
 have e:unsF x k=if (nth x.orders k).penalty= -1 then (zSco,23) else (⟨(nth x.orders k).penalty,if (nth x.orders k).now= -1 then 0 else 1,0,0⟩,0):=by
  simp_all [unsF,if_neg]
 by_cases hp:(nth x.orders k).penalty= -1
 ·simp_all [skpF]
 ·have hm:(if (nth x.orders k).now= -1 then (0:Int) else 1)=0\/(if (nth x.orders k).now= -1 then (0:Int) else 1)=1:=Za
  have e2:skpF x k=skR x k/\0<=skR x k:=by
   rw [skpF,skR,e,if_neg hp];generalize (if (nth x.orders k).now= -1 then (0:Int) else 1)=m at hm
   have:Xm ⟨(nth x.orders k).penalty,m,0,0⟩=((((nth x.orders k).penalty*16+m)*16+0)*65536+0,0):=by
    rw [Xm,if_neg (by grind),if_neg (by grind)]
   grind
  omega
theorem PX {x:Inst} {l ys:List Col} (hx:InstOk x) (hn:x.orders.length<=4) (hC:Cheap l ys) (hr: ∀c∈l,rightB x c=true) (hs: ∀c∈l,c.set<9223372036854775808):Ctx x l ys :=
 have hok:=Sp hx hn hC hr hs
 ⟨hn,hok.typ.1,hC,hr,hs,hok,fun _ hk ho=>zX hx hk ho⟩
theorem TV {l:List Col} {n:Nat} {T:Int} : ∀m,m<=n->usdI l (List.replicate n (-1)) T m=0
 | 0,_=>rfl
 | m+1,h=>by
  rw [usdI,TV m Za,KO,Fl Za,Qt Za];rfl
theorem Mb (x:Inst) (l:List Col):Nd x l (List.replicate x.orders.length (-1)) zSt 0:=by
 have hz: ∀i,i<x.orders.length->nth (List.replicate x.orders.length (-1:Int)) i= -1:=fun i hi=>Fl hi;refine ⟨Zb,rfl,Zaa _,fun i hi=> ?_,fun i hi=>by grind,fun T hT=> ?_,fun i hi h=>by grind,fun i hi _ h=>by grind,fun i hi h=>by grind⟩
 ·simp_all [zSt]
 ·rw [TV _ (Zw _)]
  have:T=0\/T=1\/T=2\/T=3\/T=4\/T=5:=Za
  rcases this with rfl | rfl | rfl | rfl | rfl | rfl<;>rfl
theorem Nd.RngA {x:Inst} {l:List Col} {a:List Int} {s:St} {k:Nat} (h:Nd x l a s k):RngA x l a:=⟨h.len,h.rng⟩
theorem NL {x:Inst} {l ys:List Col} (hc:Ctx x l ys) {D:Nat} : ∀(d k:Nat) (s:St) (a:List Int),k+d=x.orders.length->Nd x l a s k-> ∃s',Nd x l (gr x l ys D d k s a) s' x.orders.length
 | 0,k,s,a,hd,h=>⟨s,by grind [gr]⟩
 | d+1,k,s,a,hd,h=>by
  have hk:k<x.orders.length:=Za
  rw [gr]
  split
  ·exact NL hc d (k+1) _ _ Za (h.skip' hk)
  ·split
   ·rename_i c hf;have hsel:=QV hf;simp only [Ah,ZE] at hsel;obtain ⟨p1,p2,p3⟩:=Kp hc h hk (UL hf) hsel.1;have hch:=h.child hc hk p1 p3;rw [p2] at hch;exact NL hc d (k+1) _ _ Za hch
   ·exact NL hc d (k+1) _ _ Za (h.skip' hk)
theorem Sb {x:Inst} {l ys:List Col} (hc:Ctx x l ys) {D:Nat} (hD:10<D) :
  (Lx x ys D zSt<0->(EH x l).found=false)/\(0<=Lx x ys D zSt->EH x l=⟨true,gr x l ys D x.orders.length 0 zSt (List.replicate x.orders.length (-1)),Lx x ys D zSt⟩):=by
 have hz:=Mb x l;have hb:=AH hc hD x.orders.length 0 zSt _ _ 0 Za hz hz KE.refl;obtain ⟨s',hg⟩:=NL hc (D:=D) x.orders.length 0 zSt _ Za hz
 constructor
 ·intro h
  have:QI x l x.orders.length (List.replicate x.orders.length (-1)) 0= []:=by
   cases e:QI x l x.orders.length (List.replicate x.orders.length (-1)) 0 with
   | nil=>rfl
   | cons q L=>grind
  rw [EH,this];rfl
 ·intro h;have hin:=SO hc hD x.orders.length 0 zSt _ 0 Za hz h;rw [Ke] at hin;refine I0 (.inl rfl) (fun q hq=> ?_) hin;obtain ⟨_,h2,h3⟩:=hb q hq;rw [Ke] at h2 h3;exact ⟨h2,fun e=>Zab hg.RngA (AZ _ hz.RngA q hq) (h3 e)⟩
theorem Tz {l:List Col} {g:List Int} {T n:Nat} (hdv: ∀i,i<n->0<=nth g i->((nth l (nth g i).toNat).set%(pw i:Nat)=0↔Bf (nth l (nth g i).toNat).set.toNat=(i:Int))): ∀k,k<=n->(Ty l g T k).Pairwise fun a b=>qY a b<0
 | 0,_=> .nil
 | k+1,hk=>by
  rw [Ty,Fg];refine ⟨Tz hdv k Za,by split<;>simp,fun a ha b hb=> ?_⟩
  split at hb
  ·rename_i hh
   obtain rfl:b=nth l (nth g k).toNat:=by grind
   obtain ⟨i,h1,h2,h3,h4,rfl⟩:=(A9 _).1 ha;rw [Qk,h3,hh.2.1]
   right
   refine ⟨rfl,?_⟩
   show Bf _<Bf _
   grind
  ·simp at hb
theorem TA {l:List Col} {g:List Int} {n:Nat} (hdv: ∀i,i<n->0<=nth g i->((nth l (nth g i).toNat).set%(pw i:Nat)=0↔Bf (nth l (nth g i).toNat).set.toNat=(i:Int))): ∀T,(MR l g n T).Pairwise fun a b=>qY a b<0
 | 0=> .nil
 | T+1=>by
  rw [MR,Fg];refine ⟨TA hdv T,Tz hdv n (Zw _),fun a ha b hb=> ?_⟩;obtain ⟨t,h1,h2⟩:=(Mt _).1 ha;obtain ⟨i,_,_,h3,_,rfl⟩:=(A9 _).1 h2;obtain ⟨j,_,_,h5,_,rfl⟩:=(A9 _).1 hb
  simp_all [Qk]
theorem dZ {x:Inst} {l ys:List Col} (hc:Ctx x l ys) {g:List Int} {s:St} (hg:Nd x l g s x.orders.length) {zs:List Col} (hp:zs.Perm (RA l g x.orders.length 0)) (ha:zs.Pairwise fun a b=> ¬qY b a<0):zs=MR l g x.orders.length x.types.length:=by
 have hn:=hc.n4;have hin: ∀i,i<x.orders.length->0<=nth g i->nth l (nth g i).toNat∈l:=fun i hi h0=>ZL (by have:=hg.rng i hi;omega)
 have hdv: ∀i,i<x.orders.length->0<=nth g i->((nth l (nth g i).toNat).set%(pw i:Nat)=0↔Bf (nth l (nth g i).toNat).set.toNat=(i:Int)):=fun i hi h0=>by
  obtain ⟨e,s0,s1,_⟩:=hc.set (hin i hi h0);have h16:(nth l (nth g i).toNat).set.toNat<16:=UM s1 (YA (n:=2) Za hn);have:=Zef ⟨_,h16⟩ s0 ⟨i,Za⟩ (hg.own i hi h0)
  grind
 have hne:zs.Pairwise fun a b=>lo a≠lo b:=by
  have h1:(RA l g x.orders.length 0).Pairwise fun a b=>lo a≠lo b:=(fX _ _).imp fun {a b} h e=>by
   have e':Bf a.set.toNat=Bf b.set.toNat:=e;omega
  exact (hp.pairwise_iff fun h e=>h e.symm).2 h1
 have hz:zs.Pairwise fun a b=>qY a b<0:=(hne.and ha).imp fun {a b} h=>by
  have h1:=h.1;have h2:=h.2;rw [Qk] at h2 ⊢;omega
 refine G4 (r:=fun a b=>qY a b<0) (fun a=>by rw [Qk];omega) (fun a b=>by rw [Qk,Qk];omega) hz (TA hdv _) fun c=> ?_;rw [hp.mem_iff,I6,Mt]
 constructor
 ·rintro ⟨i,_,h1,h2,h3,rfl⟩;have ht:=(hc.typ (hin i Za h2)).1;exact ⟨(nth l (nth g i).toNat).typ.toNat,Za,(A9 _).2 ⟨i,Za,h2,Za,(hdv i Za h2).2 h3,rfl⟩⟩
 ·rintro ⟨t,_,h⟩;obtain ⟨i,h1,h2,h3,h4,rfl⟩:=(A9 _).1 h
  grind
theorem FW {x:Inst} {ys:List Col} {D:Nat} (hD:D=20):HE x ys=Lx x ys D zSt:=by subst hD;rfl
theorem Zkp {x:Inst} {l:List Col} {a e e':Int} {b:Chc} (hx:InstOk x) (hn:x.orders.length<=4) (hs: ∀c∈l,c.set<9223372036854775808) (h:Zog x l a e) (h':fU x l b e'):a=b.price/\e=e':=by
 rcases h with ⟨g1,rfl,rfl⟩ | ⟨g1,⟨c,gc,g2⟩,rfl,rfl⟩ | ⟨g1,g2,ys,g3,rfl,rfl⟩<;>rcases h' with ⟨k1,rfl,rfl⟩ | ⟨k1,⟨c',kc,k2⟩,rfl,rfl⟩ | ⟨k1,k2,k3⟩
 ·exact ⟨rfl,rfl⟩
 ·omega
 ·omega
 ·omega
 ·exact ⟨rfl,rfl⟩
 ·grind
 ·omega
 ·grind
 ·obtain ⟨D,hD⟩: ∃D:Nat,D=20:=⟨20,rfl⟩;rw [FW hD];obtain ⟨q1,q2⟩:=Sb (PX hx hn g3 g2 hs) (D:=D) Za;rcases k3 with ⟨f,rfl,rfl⟩ | ⟨f,rfl,rfl⟩
  ·have:Lx x ys D zSt<0:=Int.not_le.1 fun h0=>by grind
   rw [if_pos this,if_pos this];exact ⟨rfl,rfl⟩
  grind
theorem Nl {x:Inst} {l:List Col} {p q:Pln} {c e c' e':Int} (hx:InstOk x) (hn:x.orders.length<=4) (hs: ∀c∈l,c.set<9223372036854775808) (h:I5 x l p c e) (h':MS x l q c' e'):c=c'/\e=e'/\p.routes=q.routes/\p.unserved=q.unserved/\p.routes.length<=24/\p.unserved.length<=24/\ ∀r∈p.routes,∃c∈l,r=c.route:=by
 obtain ⟨b,hb,h1,h2⟩:=h';have z:zPlC.routes.length<=24/\zPlC.unserved.length<=24/\ ∀r∈zPlC.routes,∃c∈l,r=c.route:=⟨by simp [zPlC],by simp [zPlC],fun r hr=>by simp [zPlC] at hr⟩;rcases h with ⟨g1,rfl,rfl,rfl⟩ | ⟨g1,⟨c,gc,g2⟩,rfl,rfl,rfl⟩ | ⟨g1,g2,ys,g3,g4,g5⟩<;>rcases hb with ⟨k1,rfl,rfl⟩ | ⟨k1,⟨c',kc,k2⟩,rfl,rfl⟩ | ⟨k1,k2,k3⟩
 ·grind
 ·omega
 ·omega
 ·omega
 ·grind
 ·grind
 ·omega
 ·grind
 ·obtain ⟨D,hD⟩: ∃D:Nat,D=20:=⟨20,rfl⟩;have hc:=PX hx hn g3 g2 hs;obtain ⟨q1,q2⟩:=Sb hc (D:=D) Za;rw [FW hD] at g5;rcases g5 with ⟨g6,rfl,rfl,rfl⟩ | ⟨g6,rfl,rfl,zs,hp,ha,rfl⟩
  ·grind
  ·rcases k3 with ⟨f,rfl,rfl⟩ | ⟨f,rfl,rfl⟩
   ·grind
   ·obtain ⟨rfl,rfl⟩:=h2 rfl;have hz:=Mb x l;have hpk:=Ft hc hD x.orders.length 0 zSt _ 20 Za Za hz;obtain ⟨s',hg⟩:=NL hc (D:=D) x.orders.length 0 zSt _ Za hz;rw [q2 g6];simp only [mI] at hpk;rw [hpk] at hp ⊢;simp only at hp ⊢;have hzs:=dZ hc hg hp ha;rw [hg.len,fZ,hzs];have l1:=Ms (l:=l) (g:=gr x l ys D x.orders.length 0 zSt (List.replicate x.orders.length (-1))) (n:=x.orders.length) x.types.length;have l2:=MK (x:=x) (g:=gr x l ys D x.orders.length 0 zSt (List.replicate x.orders.length (-1))) x.orders.length
    have l3:x.types.length*x.orders.length<=6*4:=CX hc.t6 hn;refine ⟨trivial,trivial,rfl,rfl,by grind,Za,fun r hr=> ?_⟩;obtain ⟨c,hcm,rfl⟩:=Xn.1 hr;rw [<- hzs,hp.mem_iff,I6] at hcm;obtain ⟨i,_,i1,i2,_,rfl⟩:=hcm;exact ⟨_,ZL (by have:=hg.rng i Za;omega),rfl⟩
def hasC (l:List Col) (j t:Nat):Bool:=(nth l j).set.toNat.testBit t
def anyC (l:List Col) (j k:Nat):Bool:=(List.range k).any (hasC l j)
theorem WX {l:List Col} {j k:Nat} :anyC l j (k+1)=(anyC l j k||hasC l j k):=by
 grind [anyC]
theorem M1 {l:List Col} {j k:Nat} :anyC l j k=true↔ ∃t,t<k/\hasC l j t=true:=by simp [anyC]
structure Prt (x:Inst) (l:List Col) (js:List Nat):Prop where
 lt: ∀j∈js,j<l.length
 set: ∀j∈js,∀t,hasC l j t=true->t<x.orders.length/\(nth x.orders t).off=false
 dis: ∀i∈js,∀j∈js,∀t,hasC l i t=true->hasC l j t=true->i=j
 nod:js.Nodup
 cnt: ∀j∈js,((js.filter fun i=>decide ((nth l i).typ=(nth l j).typ)).length:Int)<=(nth x.types (nth l j).typ.toNat).count
 srv: ∀k,k<x.orders.length->(nth x.orders k).off=false->(∃j∈js,hasC l j k=true)\/0<=(nth x.orders k).penalty
def EP (x:Inst) (l:List Col) (js:List Nat) (k:Nat):Int:=match js.find? (fun j=>hasC l j k) with
 | some j=>if anyC l j k=true then 0 else (nth l j).price
 | none=>if (nth x.orders k).off=true then 0 else skR x k
def LI (x:Inst) (l:List Col) (js:List Nat):Nat->Int
 | 0=>0
 | d+1=>EP x l js (x.orders.length-(d+1))+LI x l js d
structure PNd (x:Inst) (l:List Col) (js:List Nat) (a:List Int) (k:Nat):Prop where
 len:a.length=x.orders.length
 pos: ∀i,i<x.orders.length-> ∀j∈js,hasC l j i=true->nth a i=if anyC l j k=true then (j:Int) else-1
 neg: ∀i,i<x.orders.length->(∀j∈js,hasC l j i=false)->nth a i= -1
 used: ∀T,usdI l a T x.orders.length=(js.filter fun j=>decide ((nth l j).typ=T)&&anyC l j k).length
theorem PNd.same {x:Inst} {l:List Col} {js:List Nat} {a:List Int} {k:Nat} (h:PNd x l js a k) (hs: ∀j∈js,anyC l j (k+1)=anyC l j k):PNd x l js a (k+1) :=
 ⟨h.len,fun i hi j hj hb=>by rw [hs j hj];exact h.pos i hi j hj hb,h.neg,fun T=>by
  rw [h.used T]
  grind [QR]⟩
theorem BK {α:Type} [DecidableEq α] {p q:α->Bool} {a:α} : ∀ {l:List α},l.Nodup->a∈l->p a=false->q a=true->(∀b∈l,b≠a->p b=q b)->(l.filter q).length=(l.filter p).length+1
 | [],_,h,_,_,_=>by simp at h
 | b::l,hn,h,hp,hq,he=>by
  rw [List.nodup_cons] at hn
  by_cases e:b=a
  ·grind [QR]
  ·have ih:=BK hn.2 (by
    grind) hp hq fun c hc=>he c (XL _ hc)
   grind
theorem GI {x:Inst} {l:List Col} {js:List Nat} (hp:Prt x l js): ∀(d:Nat) (a:List Int) (p:Int),d<=x.orders.length->PNd x l js a (x.orders.length-d)-> ∃q∈QI x l d a p,q.2=p+LI x l js d
 | 0,a,p,_,_=>⟨(a,p),by simp [QI],by simp [LI]⟩
 | d+1,a,p,hd,h=>by
  obtain ⟨k,hk⟩: ∃k,k=x.orders.length-(d+1):=⟨_,rfl⟩
  have hkn:k<x.orders.length:=Za
  have hk1:x.orders.length-d=k+1:=Za
  rw [<- hk] at h;rw [QI,LI,<- hk];have goOn:(∀j∈js,anyC l j (k+1)=anyC l j k)-> ∀p',∃q∈QI x l d a p',q.2=p'+LI x l js d:=fun hs p'=>GI hp d a p' Za (by rw [hk1];exact h.same hs)
  cases hf:js.find? (fun j=>hasC l j k) with
  | none =>
   have hno: ∀j∈js,hasC l j k=false:=fun j hj=>by
    grind
   have hs: ∀j∈js,anyC l j (k+1)=anyC l j k:=fun j hj=>by simp_all [WX]
   have hc:EP x l js k=if (nth x.orders k).off=true then 0 else skR x k:=by rw [EP,hf]
   have hneg:=h.neg k hkn hno
   by_cases ho:(nth x.orders k).off=true
   ·simp_all
   ·have hcond: ¬((nth x.orders k).off=true\/0<=nth a k):=fun g=>g.elim ho fun g=>Za
    rw [if_neg hcond,hc,if_neg ho]
    have ho:(nth x.orders k).off=false:=by grind
    have hpen:0<=(nth x.orders k).penalty:=by
     rcases hp.srv k hkn ho with ⟨j,hj,hb⟩ | h
     ·grind
     ·exact h
    obtain ⟨q,hq,e⟩:=goOn hs (p+skR x k)
    grind
  | some j =>
   have hj:=UL hf
   have hb:hasC l j k=true:=by grind
   have hc:EP x l js k=if anyC l j k=true then 0 else (nth l j).price:=by rw [EP,hf]
   have hpos:=h.pos k hkn j hj hb
   have hother: ∀i∈js,i≠j->hasC l i k=false:=fun i hi hne=>by
    cases hq:hasC l i k with
    | false=>rfl
    | true=>exact absurd (hp.dis i hi j hj k hq hb) hne
   have hoff:=(hp.set j hj k hb).2
   cases ha:anyC l j k with
   | true =>
    rw [if_pos (.inr (by grind)),hc,if_pos ha,Ke];refine goOn (fun i hi=> ?_) p
    by_cases e:i=j
    ·grind [WX]
    simp_all [WX]
   | false =>
    rw [ha,if_neg Zb] at hpos
    have hcond: ¬((nth x.orders k).off=true\/0<=nth a k):=fun g=>g.elim (fun g=>by grind) fun g=>Za
    have hc2:EP x l js k=(nth l j).price:=by grind
    rw [if_neg hcond,hc2]
    have hno: ∀t,t<k->hasC l j t=false:=fun t ht=>by
     grind [M1]
    have hneg: ∀i,i<x.orders.length->(nth l j).set.toNat.testBit i=true->nth a i<0/\k<=i:=fun i hi hbi=>by
     have:=h.pos i hi j hj hbi;rw [ha,if_neg Zb] at this
     grind [hasC]
    have hcnt:=hp.cnt j hj
    have hadd: ∀T,(js.filter fun i=>decide ((nth l i).typ=T)&&anyC l i (k+1)).length=(js.filter fun i=>decide ((nth l i).typ=T)&&anyC l i k).length+(if (nth l j).typ=T then 1 else 0):=fun T=>by
     by_cases e:(nth l j).typ=T
     ·rw [if_pos e];refine BK hp.nod hj (by grind) (by simp_all [WX]) fun i hi hne=> ?_
      simp_all [WX]
     ·rw [if_neg e,VN]
      congr 1
      refine QR fun i hi=> ?_
      by_cases e2:i=j
      ·grind
      simp_all [WX]
    have hle:(js.filter fun i=>decide ((nth l i).typ=(nth l j).typ)&&anyC l i (k+1)).length<=(js.filter fun i=>decide ((nth l i).typ=(nth l j).typ)).length:=by
     rw [<- CK,<- CK]
     simp_all [List.countP_mono_left]
    have hcan:JA x l a j k=true:=by
     simp only [JA,ZE,Zs,Q1,h.len];refine ⟨hb,?_,hneg⟩;have h1:=h.used (nth l j).typ;have h2:=hadd (nth l j).typ
     grind
    have hfr: ∀i,i<x.orders.length->(nth l j).set.toNat.testBit i=false->nth a i≠(j:Int):=fun i hi hbi e=>by
     by_cases hex: ∃i'∈js,hasC l i' i=true
     ·obtain ⟨i',hi',hbb⟩:=hex;have:=h.pos i hi i' hi' hbb
      grind
     ·have:=h.neg i hi fun i' hi'=>by
       grind
      omega
    have hch:PNd x l js (VC (nth l j).set.toNat a j) (k+1):=by
     refine ⟨by rw [VX];exact h.len,fun i hi i' hi' hbb=> ?_,fun i hi hn=> ?_,fun T=> ?_⟩
     ·rw [Xl (by rw [h.len];exact hi)]
      by_cases e:i'=j
      ·subst e;have:(nth l i').set.toNat.testBit i=true:=hbb;rw [if_pos this,if_pos (by rw [WX,hb,Bool.or_true])]
      ·have:(nth l j).set.toNat.testBit i=false:=by
        cases hq:(nth l j).set.toNat.testBit i with
        | false=>rfl
        | true=>exact absurd (hp.dis i' hi' j hj i hbb hq) e
       rw [this,if_neg Zb,WX,hother i' hi' e,Bool.or_false];exact h.pos i hi i' hi' hbb
     ·rw [Xl (by rw [h.len];exact hi)];have:(nth l j).set.toNat.testBit i=false:=hn j hj;rw [this,if_neg Zb];exact h.neg i hi hn
     ·rw [Em h.len hkn hb hneg hfr T _ (Zw _),h.used T,hadd T];simp [hkn]
    obtain ⟨q,hq,e⟩:=GI hp d _ (p+(nth l j).price) Za (by rw [hk1];exact hch);exact ⟨q,Xj.2 (.inl (XS.2 ⟨j,Zz.2 (hp.lt j hj),by grind⟩)),by rw [e];omega⟩
theorem Hd {ok:List Vis->Bool} {col:List Vis->Col} {better:Col->Col->Bool} (hb: ∀a b,(better a b=true->a.price<=b.price)/\(better a b=false->b.price<=a.price)): ∀(L:List (List Vis)) (b:Col×Bool),(b.2=true->(L.foldl (XI ok col better) b).2=true/\(L.foldl (XI ok col better) b).1.price<=b.1.price) /\
  ∀m∈L,ok m=true->(L.foldl (XI ok col better) b).2=true/\(L.foldl (XI ok col better) b).1.price<=(col m).price
 | [],b=>⟨fun h=>⟨h,Int.le_refl _⟩,fun m hm=>by simp at hm⟩
 | l::L,b=>by
  rw [XO];obtain ⟨g1,g2⟩:=Hd hb L (XI ok col better b l)
  have hu:(b.2=true->(XI ok col better b l).2=true/\(XI ok col better b l).1.price<=b.1.price)/\(ok l=true->(XI ok col better b l).2=true/\(XI ok col better b l).1.price<=(col l).price):=by
   unfold XI
   split
   ·rename_i hc;refine ⟨fun h=>⟨rfl,?_⟩,fun _=>⟨rfl,Int.le_refl _⟩⟩;rcases hc.2 with h2 | h2
    ·rw [h2] at h;cases h
    ·exact (hb _ _).1 h2
   ·rename_i hc;refine ⟨fun h=>⟨h,Int.le_refl _⟩,fun h=> ?_⟩
    have h2:b.2=true:=by
     cases h3:b.2 with
     | true=>rfl
     | false=>exact absurd ⟨h,.inl h3⟩ hc
    have h4:better (col l) b.1=false:=by
     cases h3:better (col l) b.1 with
     | false=>rfl
     | true=>exact absurd ⟨h,.inr h3⟩ hc
    exact ⟨h2,(hb _ _).2 h4⟩
  refine ⟨fun h=> ?_,fun m hm hk=> ?_⟩
  ·obtain ⟨h1,h2⟩:=hu.1 h;obtain ⟨h3,h4⟩:=g1 h1;exact ⟨h3,AW h4 h2⟩
  grind
theorem Ao {f:Nat->Int} : ∀ {js:List Nat},(∀i∈js,f i=0)->(js.map f).sum=0
 | [],_=>rfl
 | a::js,h=>by rw [Zr,Uf,h a Zb,Ao fun i hi=>h i (XL _ hi)];rfl
theorem B7 {f:Nat->Int} {j:Nat} : ∀ {js:List Nat},js.Nodup->j∈js->(∀i∈js,i≠j->f i=0)->(js.map f).sum=f j
 | [],_,h,_=>by simp at h
 | a::js,hn,h,h0=>by
  rw [List.nodup_cons] at hn;rw [Zr,Uf]
  by_cases e:a=j
  ·subst e
   have:(js.map f).sum=0:=by
    exact Ao fun i hi=>h0 i (XL _ hi) fun e=>hn.1 (e ▸ hi)
   omega
  ·rw [h0 a Zb e,B7 hn.2 (by
    rcases Z4.1 h with h | h
    ·exact absurd h.symm e
    ·exact h) fun i hi=>h0 i (XL _ hi)]
   omega
theorem Du {f g:Nat->Int} : ∀ {ks:List Nat},(ks.map fun k=>f k+g k).sum=(ks.map f).sum+(ks.map g).sum
 | []=>rfl
 | k::ks=>by
  rw [Zr,Zr,Zr,Uf,Uf,Uf,Du (ks:=ks)];omega
theorem OZ {f:Nat->Nat->Int} {ks:List Nat} : ∀ {js:List Nat},(ks.map fun k=>(js.map fun j=>f j k).sum).sum=(js.map fun j=>(ks.map fun k=>f j k).sum).sum
 | []=>Ao (js:=ks) (f:=fun _=>(([]:List Nat).map fun _=>(0:Int)).sum) fun _ _=>rfl
 | j::js=>by
  simp only [Zr,Uf];rw [Du,OZ]
def CA (x:Inst) (l:List Col) (js:List Nat) (k:Nat):Bool:= !(nth x.orders k).off&&js.all fun j=> !hasC l j k
theorem tB {x:Inst} {l:List Col} {js:List Nat} (hp:Prt x l js) (k:Nat):EP x l js k=(js.map fun j=>if hasC l j k=true/\anyC l j k=false then (nth l j).price else 0).sum+(if CA x l js k=true then skR x k else 0):=by
 cases hf:js.find? (fun j=>hasC l j k) with
 | none =>
  have hno: ∀j∈js,hasC l j k=false:=fun j hj=>by
   grind
  rw [EP,hf,Ao fun j hj=>if_neg fun h=>by grind]
  have hall:(js.all fun j=> !hasC l j k)=true:=Zx.2 fun j hj=>by grind
  simp only [CA,hall,QY]
  grind
 | some j =>
  have hj:=UL hf
  have hb:hasC l j k=true:=by grind
  have hall:(js.all fun j=> !hasC l j k)=false:=by
   grind
  rw [EP,hf,B7 hp.nod hj fun i hi hne=>if_neg fun h=>hne (hp.dis i hi j hj k h.1 hb)];simp only [CA,hall,Bool.and_false,hb,true_and]
  grind
theorem NX {l:List Col} {j:Nat} : ∀m,((List.range m).map fun k=>if hasC l j k=true/\anyC l j k=false then (nth l j).price else 0).sum=if anyC l j m=true then (nth l j).price else 0
 | 0=>by simp [anyC]
 | m+1=>by
  rw [X6,XD,List.sum_append,NX m,WX]
  cases h1:anyC l j m<;>cases h2:hasC l j m<;>simp [h1,h2]
theorem Nt {x:Inst} {l:List Col} {js:List Nat} : ∀d,d<=x.orders.length->((List.range (x.orders.length-d)).map (EP x l js)).sum+LI x l js d=((List.range x.orders.length).map (EP x l js)).sum
 | 0,_=>by simp [LI]
 | d+1,h=>by
  have ih:=Nt (x:=x) (l:=l) (js:=js) d Za;rw [<- ih,LI,show x.orders.length-d=(x.orders.length-(d+1))+1 by omega,X6,XD,List.sum_append];simp;omega
theorem tC {x:Inst} {l:List Col} {js:List Nat} (hp:Prt x l js) (hne: ∀j∈js,∃t,hasC l j t=true):LI x l js x.orders.length=(js.map fun j=>(nth l j).price).sum+((List.range x.orders.length).map fun k=>if CA x l js k=true then skR x k else 0).sum:=by
 have h:=Nt (x:=x) (l:=l) (js:=js) x.orders.length (Zw _);rw [Kf] at h;simp only [List.range_zero,Zn,List.sum_nil,Ke] at h;rw [h,show EP x l js=fun k=>(js.map fun j=>if hasC l j k=true/\anyC l j k=false then (nth l j).price else 0).sum+(if CA x l js k=true then skR x k else 0) from funext fun k=>tB hp k,Du,OZ]
 congr 2
 refine Y0 fun j hj=> ?_;obtain ⟨t,ht⟩:=hne j hj;rw [NX,if_pos (M1.2 ⟨t,(hp.set j hj t ht).1,ht⟩)]
theorem oH {x:Inst} {l:List Col} {js:List Nat} :PNd x l js (List.replicate x.orders.length (-1)) 0:=by
 have hz: ∀i,i<x.orders.length->nth (List.replicate x.orders.length (-1:Int)) i= -1:=fun i hi=>by grind [Zh]
 refine ⟨Zb,fun i hi j _ _=>by grind [anyC],fun i hi _=>hz i hi,fun T=> ?_⟩
 have h1: ∀m,m<=x.orders.length->usdI l (List.replicate x.orders.length (-1)) T m=0:=fun m=>by
  induction m with
  | zero=>intro _;rfl
  | succ m ih =>
   grind [usdI,KO]
 rw [h1 _ (Zw _),List.filter_eq_nil_iff.2 (by simp [anyC])]
 rfl
def vX (x:Inst) (l:List Col) (js:List Nat):Int:=(js.map fun j=>(nth l j).price).sum+((List.range x.orders.length).map fun k=>if CA x l js k=true then skR x k else 0).sum
theorem vZ {x:Inst} {l ys:List Col} (hc:Ctx x l ys) {js:List Nat} (hp:Prt x l js) (hne: ∀j∈js,∃t,hasC l j t=true) {D:Nat} (hD:10<D):0<=Lx x ys D zSt/\Lx x ys D zSt<=vX x l js:=by
 have hz:=Mb x l;obtain ⟨q,hq,e⟩:=GI hp x.orders.length (List.replicate x.orders.length (-1)) 0 (Zw _) (by simp_all [oH]);obtain ⟨h1,h2,_⟩:=AH hc hD x.orders.length 0 zSt _ _ 0 Za hz hz KE.refl q hq
 grind [tC,vX]
theorem vY {x:Inst} {l:List Col} {p:Pln} {c e:Int} (hx:InstOk x) (hn:x.orders.length<=4) (hs: ∀c∈l,c.set<9223372036854775808) (h:I5 x l p c e) (hl:l.length<=8192) (hr: ∀c∈l,rightB x c=true) {js:List Nat} (hp:Prt x l js) (hne: ∀j∈js,∃t,hasC l j t=true):e=0/\c<=vX x l js:=by
 rcases h with ⟨g1,_⟩ | ⟨g1,⟨c,gc,g2⟩,_⟩ | ⟨g1,g2,ys,g3,g4,g5⟩
 ·omega
 ·grind
 ·obtain ⟨D,hD⟩: ∃D:Nat,D=20:=⟨20,rfl⟩;have hc:=PX hx hn g3 g2 hs;obtain ⟨q1,q2⟩:=vZ hc hp hne (D:=D) Za;rw [FW hD] at g5;omega
theorem lN {x:Inst} {S:Nat} {m:List Vis} (h:Gr x S m): ∀(f k:Nat),m.length=k+f->m∈Bs (fun l=>nextU x S l x.orders.length) f (m.take k)
 | 0,k,hl=>by
  grind [Bs]
 | f+1,k,hl=>by
  have hk:k<m.length:=Za
  have ha:=h.at k hk;rw [Bs,if_neg (fun e=>by grind),XS];refine ⟨nth m k,ha,?_⟩
  have e:m.take k++ [nth m k]=m.take (k+1):=by rw [XZ hk,Zh hk]
  rw [e];exact lN h f (k+1) Za
theorem Oo {x:Inst} {l:List Vis} (h:RightV x l):Xo l≠0:=fun e=>by
 obtain ⟨v,hv⟩: ∃v,v∈l:=by
  cases l with
  | nil=>exact absurd rfl h.ne
  | cons v l=>simp
 have hi:=h.inr v hv;have hb:=(h.bit v.order.toNat).2 ⟨v,hv,Za⟩
 grind
theorem sN (a b:Col):(Wv a b=true->a.price<=b.price)/\(Wv a b=false->b.price<=a.price):=by
 unfold Wv
 grind
theorem aT {x:Inst} (hx:InstOk x) {k:Int} {m:List Vis} (ht:0<=(nth x.types k.toNat).opn) (hok:GB x k m=true) (z:Col×Bool) :
  WC x.orders x.apart x.before ((Xo m:Nat):Int)=0/\(EJ x k (Xo m) z).2=true/\(EJ x k (Xo m) z).1.price<=(Ye x (Jr k m)).1:=by
 have hf:=Xz hx
 have hn:x.orders.length<=60:=by have:=hf.len;omega
 have hr:RightV x m:=YM (Ux hok);have ha:=hr.alw hf;have hS:=(hr.lt hf).2;refine ⟨(QN hn hS hf.val).2 ha,?_⟩;rw [PN hx (Oo hr) hS ha ht z,Cq];have hg:=hr.gr hf m.length (Zw _);rw [X5] at hg;have hin:m∈Bs (C3 x (Xo m)) (W2 x (Xo m)) []:=lN hg (W2 x (Xo m)) 0 (by rw [hr.len hf,W2];omega)
 have hR:DA x k (Xo m) m=true:=by
  unfold DA;rw [hok,Ux hok,hr.ord hf];simp
 exact (Hd sN _ z).2 m hin hR
theorem MM {g:FuncId} {args:List V} {R:Pln->Int->Int->Prop} {H:List AM.Obj} {K:V->List AM.Obj->Prop} (h:ACalls Tryz.prog g args [] fun y H'=> ∃p c e,R p c e/\y= .tup [.p (Ut p),.p (.int .i64 c),.p (.int .i64 e)]/\H'= []) (k: ∀p c e,R p c e->K (.tup [.p (Ut p),.p (.int .i64 c),.p (.int .i64 e)]) H) (ha:Xv 0 args=true:=by rfl):ACalls Tryz.prog g args H K :=
 (h.behind ha H).mono fun x H' hq=>by
  obtain ⟨y,H1,⟨p,c,e,hr,rfl,rfl⟩,rfl,rfl⟩:=hq
  grind [shV,shVs]
end Go.Proofs.YtenjikkmmibffaaGreatDoor.K
