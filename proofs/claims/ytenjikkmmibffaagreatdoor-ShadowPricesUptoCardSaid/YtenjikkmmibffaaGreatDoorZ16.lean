/- Declarations that the closing texts need, part 16: joined by tools/slim.py. -/
import Derived.Test.YtenjikkmmibffaaGreatDoorZ15
import Derived.Shelf.SlSortCmp.NoneTotal
set_option linter.unusedVariables false
set_option linter.unusedSimpArgs false
namespace Go.AM
open Go.RowKit Go.Shelf Go.Lib Go.Sort Go.Proofs
theorem iH {W w':World} {H':List AM.Obj} {ι':List (Option Nat)} (g:Good AW [] [] W H' ι' w'): ∃q os',w'=grow (W.drewN q) os':=by
 refine ⟨w'.drawn-W.drawn,w'.heap.extract W.heap.size w'.heap.size,?_⟩
 have h1:w'.heap=W.heap++w'.heap.extract W.heap.size w'.heap.size:=by
  apply Array.ext_getElem?;intro i
  by_cases hi:i<W.heap.size
  ·rw [Dm hi];exact g.keep i hi Zb
  ·rw [Array.getElem?_append_right Za];have:=g.size;rw [Array.getElem?_extract]
   split
   ·congr 1;omega
   ·rw [Array.getElem?_eq_none Za]
 have h2:W.drawn<=w'.drawn:=g.tape.2.resolve_right fun h=>h;have h3:=g.tape.1;have h4:=g.os;have h5:=g.output
 cases w'
 simp only [grow,World.drewN] at *
 congr 1
 omega
def Pz (c:Array Value) (k i:Nat):List Value:=(List.range k).map fun j=>c.getD (i*k+j) undef
theorem F8 (c k i):(Pz c k i).length=k:=by simp [Pz]
theorem CJ {c k i j} (h:j<k):(Pz c k i)[j]! =c.getD (i*k+j) undef:=by
 rw [List.getElem!_eq_getElem?_getD,Pz,Xi,List.getElem?_range h];rfl
theorem ACalls.sortFunc {P : Program} {ρ : Ren} (L : SlLaysF0.n6 P ρ) (hg : Zi P (ρ.f 6)) (k : Nat) (aE : ∀ w, (isAgg (ρ.t 24)).run P w = .ok true w) (zE : ∀ w, (Go.sizeOf (ρ.t 24)).run P w = .ok k w)
    {β : Type} [Inhabited β] (f : β -> PV) (hf : ∀ x, ∃ cs, f x = .agg cs /\ cs.length = k /\ cs.all (·.one) = true) (cf : β -> β -> Int) (hO : SWO (ltOf cf)) (g : FuncId)
    (hcmp : ∀ x y, ACalls P g [.p (f x), .p (f y)] [] fun r H' => r = .p (.int .i64 (cf x y)) /\ H' = []) (xs : List β) (hlen : xs.length < 4611686018427387904) {H : List AM.Obj} {o : Nat} (hHo : H[o]? = some (.elems k (xs.map f))) :
    ACalls P (ρ.f 6) [.sl o 0 xs.length xs.length, .fn (.func g) [] []] H fun y H' => y = .tup [] /\ ∃ ys : List β, ys.Perm xs /\ ys.Pairwise (fun a b => ¬ cf b a < 0) /\ H' = H.set o (.elems k (ys.map f)) := by
  refine ⟨hg, fun F ι w vs hr hv => ?_⟩;obtain ⟨hv1, hv2⟩ := hv;have h0 := hv2 0 _ rfl;have h1 := hv2 1 _ rfl
  have hvs : vs = #[vs.getD 0 undef, vs.getD 1 undef] := by
    apply Array.ext
    · simpa using hv1
    · intro i h2 h3
      have : i = 0 \/ i = 1 := by simp at hv1; omega
      rcases this with rfl | rfl <;> simp [Array.getD, h2]
  rw [hvs];generalize vs.getD 0 undef = v0 at h0 ⊢;generalize vs.getD 1 undef = v1 at h1 ⊢;clear hvs hv1 hv2
  cases h1 with | fn _ _ _ a e hs ht _ _ =>
  have ea : a = #[] := Ew (by simpa using hs);have ee : e = #[] := Ew (by simpa using ht);subst ea; subst ee;generalize hL : xs.length = n at h0 hlen
  by_cases hz : n = 0
  · subst hz
    obtain rfl : xs = [] := List.length_eq_zero_iff.1 hL
    have e1 : H.set o (.elems k (([] : List β).map f)) = H := by
      apply JN;intro i;rw [QW]
      split
      · rename_i hi; subst hi; rw [hHo]; simp [(ZQ.1 hHo).1]
      · rfl
    obtain ⟨ad, cap, rfl⟩ : ∃ ad cap, v0 = .slice ad 0 cap := by
      cases h0 with
      | slNil => exact ⟨_, _, rfl⟩
      | sl => exact ⟨_, _, rfl⟩
      | slD _ _ _ _ _ hd => rw [hHo] at hd; cases hd
      | slS _ _ _ _ _ S2 xs2 hd hne => rw [hHo] at hd; simp at hd; obtain ⟨_, rfl⟩ := hd; simp at hne
      | slC _ _ _ _ _ _ hd => rw [hHo] at hd; cases hd
    refine (AnyF.slices_SortFunc_none L ad cap _ w).mono ?_;rintro e w' ⟨rfl, rfl⟩;exact ⟨.tup [], _, ι, _, rfl, ⟨rfl, [], .refl _, .nil, e1.symm⟩, Good.refl hr, .tup [] #[] Zb Zb⟩
  have hn : 0 < n := Za
  cases h0 with
  | slNil => omega
  | slD _ _ _ _ _ hd => rw [hHo] at hd; cases hd
  | slS _ _ _ _ _ S ys hd hlt => rw [hHo] at hd; simp at hd; obtain ⟨_, rfl⟩ := hd; simp at hlt; omega
  | slC _ _ _ _ _ _ hd => rw [hHo] at hd; cases hd
  | sl _ _ _ _ b S cap t ys c hι hH ht2 hw hcap hl hle hm =>
  rw [hHo] at hH;simp at hH;obtain ⟨rfl, rfl⟩ := hH;rcases hr.elm o k (xs.map f) hHo with ⟨e1, _⟩ | ⟨b2, c2, t2, cap2, e1, e2, e3, e4, e5, e6, e7⟩
  · rw [hι] at e1; cases e1
  rw [hι] at e1;simp at e1; subst e1;rw [hw] at e2;simp at e2;obtain ⟨rfl, rfl⟩ := e2;have hbs : b < w.heap.size := (hr.avo o b hι).2;have hbF : ¬ F b := (hr.avo o b hι).1
  -- an index, made one that there is
  let ix : Nat -> Nat := fun i => if i < n then i else 0
  have hix : ∀ i, ix i < n := fun i => by simp only [ix]; split <;> omega
  have hixe : ∀ i, i < n -> ix i = i := fun i hi => by simp only [ix]; rw [if_pos hi]
  let enc : Nat -> List Value := fun i => Pz c k (ix i)
  have hk : ∀ x, (enc x).length = k := fun x => F8 _ _ _
  -- one cell of an element
  have cell : ∀ i, i < n -> ∃ cs, f (nth xs i) = .agg cs /\ cs.length = k /\ ∀ (j : Nat) (y : PV), cs[j]? = some y -> y.one = true /\ RP (Own F ι) w y (c.getD (i * k + j) undef) := fun i hi => by
    obtain ⟨cs, q1, q2, q3⟩ := hf (nth xs i);refine ⟨cs, q1, q2, fun j y hj => ⟨Zz.1 q3 y (XA hj), ?_⟩⟩;refine e7 i (f (nth xs i)) j y ?_ (by rw [q1]; exact hj);rw [Xi, JV Za, Zh Za]; rfl
  have one : ∀ x, ∀ v ∈ enc x, v.oneCell' = true := fun x v hv => by
    obtain ⟨j, hj, rfl⟩ := ZT.1 hv
    have hjk : j < k := by rw [hk] at hj; exact hj
    obtain ⟨cs, q1, q2, q3⟩ := cell (ix x) (hix x);have hg := q3 j (cs[j]'(Za)) Zb
    have e9 : (enc x)[j] = c.getD (ix x * k + j) undef := by
      have := CJ (c := c) (i := ix x) hjk;rw [List.getElem!_eq_getElem?_getD, JV (by rw [F8]; exact hjk)] at this;exact this
    rw [e9];exact hg.2.oneCell hg.1
  let d : Array Nat := Array.range n
  have hd : d.size = n := by simp [d]
  let cf' : Nat -> Nat -> Int := fun i j => cf (nth xs (ix i)) (nth xs (ix j))
  have hO' : SWO (ltOf cf') := ⟨fun x => hO.irrefl _, fun x y z h1 h2 => hO.trans _ _ _ h1 h2, fun x y z h1 h2 => hO.ntrans _ _ _ h1 h2⟩
  have hsz : n * k <= c.size := by
    rw [e3]; exact Yq k (by simpa [hL] using e4)
  have hcell : ∀ j, j < c.size -> w.cell? ⟨b, j, none⟩ = some (c.getD j undef) := fun j hj => by
    simp [World.cell?, hw, hj]
  have hHolds : HoldsK enc k w b (0 * k) d := fun j hj => by
    have hj2 : j < n * k := by simpa [hd] using hj
    have k0 : 0 < k := by rcases Nat.eq_zero_or_pos k with h | h; · subst h; simp at hj2
                          · exact h
    rw [get_flatK enc k d j (by rw [hd]; exact hj2)];have hdj : j / k < n := Nat.div_lt_of_lt_mul (by rw [Ax]; exact hj2)
    have hde : d[j / k]! = j / k := by simp [d, hdj]
    rw [hde]
    have e9 : (enc (j / k))[j % k]! = c.getD j undef := by
      show (Pz c k (ix (j / k)))[j % k]! = _
      rw [hixe _ hdj, CJ (Nat.mod_lt _ k0), Nat.div_add_mod']
    rw [e9, Nat.zero_mul, Xj];exact ⟨hcell j Za, by simp [World.frozen?, hw]⟩
  have hcmp' : CmpLays P g #[] enc k cf' b (0 * k) d.size w := fun m os dk hdk x y => by
    generalize hW : sortWorldK enc k w b (0 * k) m dk os = W
    have hKeep : Keeps (Own F ι) w AW W := fun b' hb' hs' => by
      have hne : b' ≠ b := fun e => hb' (.inr (e ▸ XA hι));refine ⟨fun h => h, ?_, ?_⟩
      · rw [<- hW]; simp [sortWorldK, grow, putRowK, putRow, mapBlock, ahead]; omega
      · rw [<- hW]
        simp only [sortWorldK, grow, putRowK, putRow, mapBlock, ahead];rw [Dm (by simpa using hs'), EA, if_neg (fun e => hne e.symm)]
        rfl
    have heW : Env AW [] W := (hr.env.of (w' := W) (ι' := ι) (by rw [<- hW]; simp [sortWorldK, grow, putRowK, putRow, mapBlock, ahead]) (fun b' hb' hni => by
      have hne : b' ≠ b := fun e => hni (e ▸ XA hι);rw [<- hW];simp only [sortWorldK, grow, putRowK, putRow, mapBlock, ahead];rw [Dm (by simpa using hb'), EA, if_neg (fun e => hne e.symm)]
      rfl) (fun _ _ h => h)).noth
    have arg : ∀ i, RV AW [] [] W (.p (f (nth xs (ix i)))) (.agg (enc i).toArray) := fun i => by
      obtain ⟨cs, q1, q2, q3⟩ := cell (ix i) (hix i);refine .p _ _ ?_;rw [q1]
      refine (RP.agg cs (enc i).toArray (by simp [hk, q2]) fun j y hj => ?_ : RP AW W _ _).weaker fun b hb => by
        rcases hb with hb | hb
        · exact hb
        · simp at hb
      have hjk : j < k := by rw [<- q2]; exact (ZQ.1 hj).1
      have e9 : (enc i).toArray.getD j undef = c.getD (ix i * k + j) undef := by
        have := CJ (c := c) (i := ix i) hjk;rw [List.getElem!_eq_getElem?_getD, JV (by rw [F8]; exact hjk)] at this;simp only [XE, Ck];rw [JV (by rw [hk]; exact hjk), JO];rw [JO] at this;simpa only [XE] using this
      rw [e9];exact (q3 j y hj).2.ext hKeep
    refine ((hcmp (nth xs (ix x)) (nth xs (ix y))).2 AW [] W _ (Gb heW) ⟨rfl, fun j q hj => ?_⟩).mono ?_
    · cases j with
      | zero => simp at hj; subst hj; exact arg x
      | succ j => cases j with
        | zero => simp at hj; subst hj; exact arg y
        | succ j => simp at hj
    · rintro e' w' ⟨x', H', ι', v, rfl, ⟨rfl, rfl⟩, gd, rv⟩
      cases rv with | p _ _ rp =>
      rw [rp.int_inv];exact ⟨rfl, iH gd⟩
  have eg := (hcmp default default).1;have main := AnyQ.slices_SortFunc L k aE zE enc hk one cf' hO' g #[] b (0 * k) cap d w (fun args w => eg args w) hcmp' hHolds hbs (by rw [hd]; exact hlen);rw [hd] at main;refine main.mono ?_;rintro e' w' ⟨rfl, d', m, os, hp, hso, rfl⟩;obtain ⟨p1, _, p3⟩ := hp;rw [hd] at p1
  have hperm : d'.toList.Perm (List.range n) := by
    have e8 : (d'.extract 0 n).toList = d'.toList := by rw [<- p1]; simp
    have e9 : (d.extract 0 n).toList = List.range n := by
      have : d.extract 0 n = d := by rw [<- hd]; simp
      rw [this]; simp [d]
    rw [e8, e9] at p3; exact p3
  have hlt : ∀ i ∈ d'.toList, i < n := fun i hi => by simpa using hperm.mem_iff.1 hi
  have hlt2 : ∀ i, i < n -> d'.toList[i]?.isSome = true := fun i hi => by simp [p1, hi]
  have hget : ∀ i (hi : i < n), d'[i]! = d'.toList[i]'(by simp [p1, hi]) := fun i hi => by
    rw [getElem!_pos d' i Za]; simp
  let ys : List β := d'.toList.map (nth xs)
  have hyl : ys.length = n := by simp [ys, p1]
  have hys : ∀ i (hi : i < n), ys[i]'(Za) = nth xs d'[i]! := fun i hi => by
    simp only [ys, List.getElem_map]; rw [hget i hi]
  have hdl : ∀ i, i < n -> d'[i]! < n := fun i hi => by rw [hget i hi]; exact hlt _ (Ap _)
  have yperm : ys.Perm xs := by
    have h9 : (List.range n).map (nth xs) = xs := by
      refine QY (by simp [hL]) fun i h1 h2 => ?_;simp only [List.getElem_map, List.getElem_range];rw [Zh h2]
    have := hperm.map (nth xs);rw [h9] at this; exact this
  have ysort : ys.Pairwise fun a b => ¬ cf b a < 0 := by
    rw [KB];intro i j hi hj hij;rw [hys i Za, hys j Za];have h9 := hso i j (JR _) hij Za;simp only [ltOf, cf', XZ] at h9;rwa [hixe _ (hdl j Za), hixe _ (hdl i Za)] at h9
  let c' : Array Value := putCells id (0 * k) (flatK enc k d') c
  have hcs : c'.size = c.size := by simp [c', putCells]
  have hat : (sortWorldK enc k w b (0 * k) m d' os).heap[b]? = some (.cells c' t (0, 0)) := by
    simp only [sortWorldK, grow, putRowK, putRow, mapBlock, ahead];rw [Dm (by simpa using hbs), EA, if_pos rfl]
    show Option.map _ w.heap[b]? = _
    rw [hw]; rfl
  have hoth : ∀ q, q < w.heap.size -> q ≠ b -> (sortWorldK enc k w b (0 * k) m d' os).heap[q]? = w.heap[q]? := fun q hq hne => by
    simp only [sortWorldK, grow, putRowK, putRow, mapBlock, ahead];rw [Dm (by simpa using hq), EA, if_neg (fun e => hne e.symm)]
    rfl
  have hc' : ∀ i j, i < n -> j < k -> c'.getD (i * k + j) undef = c.getD (d'[i]! * k + j) undef := fun i j hi hj => by
    have hb1 : i * k + j < n * k := by
      have := Yq k (show i + 1 <= n from hi);rw [XN, VZ] at this; omega
    have e8 : (flatK enc k d')[i * k + j]! = c.getD (d'[i]! * k + j) undef := by
      rw [get_flatK enc k d' _ (by rw [p1]; exact hb1)]
      have q1 : (i * k + j) / k = i := by rw [Ax, Nat.mul_add_div Za, Qu hj]; omega
      have q2 : (i * k + j) % k = j := by rw [Ax, Nat.mul_add_mod, Cq hj]
      rw [q1, q2]
      show (Pz c k (ix d'[i]!))[j]! = _
      rw [CJ hj, hixe _ (hdl i hi)]
    have e9 : c'[i * k + j]? = some ((flatK enc k d')[i * k + j]!) := by
      simp only [c', putCells, Array.getElem?_mapIdx];rw [Array.getElem?_eq_getElem Za];simp only [Ar, Nat.zero_mul, JR, true_and, Xj, size_flatK, p1, hb1, if_true, Nat.sub_zero, id]
    rw [XE, e9, JO, e8]
  have good := YH (w' := sortWorldK enc k w b (0 * k) m d' os) (c := c') (t := t) (xs' := ys.map f) (cap := cap2) (b' := b) hr (o := o) (S := k) (xs := xs.map f) hHo rfl (Tp.of rfl (by simp [sortWorldK, grow, putRowK, putRow, mapBlock, ahead])) rfl
    (fun c0 t0 h => by rw [hw] at h; simp at h; obtain ⟨rfl, rfl⟩ := h; exact ⟨rfl, hcs⟩) (by simp [sortWorldK, grow, putRowK, putRow, mapBlock, ahead]) hat hoth (.inl ⟨hι, .inl ⟨by simp [hyl, hL], fun c0 t0 h => by rw [hw] at h; simp at h; obtain ⟨rfl, rfl⟩ := h; exact ⟨rfl, hcs⟩⟩⟩)
    (by rw [hcs]; exact e3) (by simp only [Z0, hyl]; simpa [hL] using e4) e5
    (fun i x hi => by
      rw [Xi, ZS] at hi;obtain ⟨y, _, rfl⟩ := hi;obtain ⟨cs, q1, q2, _⟩ := hf y
      rw [q1]; exact q2)
    (fun i x j y hi hj => by
      rw [Xi, ZS] at hi;obtain ⟨z, hz, rfl⟩ := hi
      have hin : i < n := by have := (ZQ.1 hz).1; omega
      have e8 : z = nth xs d'[i]! := by
        obtain ⟨h9, h10⟩ := ZQ.1 hz;rw [<- h10]; exact hys i hin
      obtain ⟨cs, q1, q2, q3⟩ := cell _ (hdl i hin);rw [e8, q1] at hj
      have hjk : j < k := by rw [<- q2]; exact (ZQ.1 hj).1
      rw [hc' i j hin hjk]
      exact (q3 j y hj).2)
  have ZP : ι.set o (some b) = ι := by
    refine JN fun i => ?_;rw [QW]
    split
    · rename_i e; subst e
      have := (ZQ.1 hι).1;rw [if_pos this, hι]
    · rfl
  rw [ZP] at good;exact ⟨.tup [], _, ι, .tuple #[], rfl, ⟨rfl, ys, yperm, ysort, rfl⟩, good, .tup [] #[] rfl (fun j c hj => by simp at hj)⟩
end Go.AM
namespace Go.Proofs.YtenjikkmmibffaaGreatDoor.K
open Go Go.AM Go.Proofs
set_option maxRecDepth 8000
set_option maxHeartbeats 8000000
deriving instance DecidableEq for Itm
theorem KA {v w:Itm} :v=w↔v.kind=w.kind/\v.a=w.a:=by cases v;cases w;simp
def Kj (a b:Itm):Int:=if YX a.kind b.kind=0 then YX a.a b.a else YX a.kind b.kind
theorem Mu (a b:Itm):PC 66 [.p (Yc a),.p (Yc b)] (.int .i64 (Kj a b)):=by
 refine Zd Tryz.func66 rfl Zif ?_;simp (disch:=omega) only [Tryz.f66,go_sem,seval];refine Xn (Zc ?_);refine Zo (DS a.kind b.kind) (Zc ?_);refine Zo (DS a.a b.a) (Zc ?_);refine Zo (rT [YX a.kind b.kind,YX a.a b.a] false Zb) (Zc ?_);rw [EM,Kj]
theorem ZeC (a b:Itm):PC 71 [.p (Yc a),.p (Yc b)] (.bool (decide (Kj a b<0))):=by
 refine Zd Tryz.func71 rfl Zih ?_;simp (disch:=omega) only [Tryz.f71,go_sem,seval]
 repeat' (first | (refine Vq (fun hq=> ?_) (fun hq=> ?_)<;>(try simp only [Zs,XZ,Z4] at hq)<;>simp (disch:=omega) only [Sh.out hq,go_sem,seval]) | (refine V8 (fun hq=> ?_) (fun hq=> ?_)<;>(try simp only [Zs,XZ,Z4] at hq)<;>simp (disch:=omega) only [Sh.out hq,go_sem,seval]) | (refine UK (fun hq=> ?_) (fun hq=> ?_)<;>(try simp only [Zs,XZ,Z4] at hq)<;>simp (disch:=omega) only [Sh.out hq,go_sem,seval]))
 ·have:Kj a b<0:=by simp [Kj,YX,hq]
  simp [this]
 ·rename_i h1
  have:Kj a b=YX a.a b.a:=by simp [Kj,YX,hq]
  rw [this]
  by_cases h2:a.a<b.a
  ·simp [YX,h2]
  ·by_cases h3:b.a<a.a<;>simp [YX,h2,h3]
 ·rename_i h1
  have h2:b.kind<a.kind:=Za
  have: ¬Kj a b<0:=by simp [Kj,YX,h1,h2]
  simp [this]
def Ll (x:Inst) (o:Int):Bool:=decide (o<0)||decide ((x.orders.length:Int)<=o)||(nth x.orders o.toNat).off
theorem Lk (x:Inst) (o:Int) (hl:x.orders.length<=1048576):PC 64 [.p (Zv x),.p (.int .i64 o)] (.bool (Ll x o)):=by
 refine Zd Tryz.func64 rfl Zid ?_;simp (disch:=omega) only [Tryz.f64,go_sem,seval];refine gF ?_ ?_<;>intro h<;>simp (disch:=omega) only [Sh.out h,go_sem,seval,↓reduceIte]
 ·simp [Ll,h]
 ·refine gF ?_ ?_<;>intro h2<;>simp (disch:=omega) only [Sh.out h2,go_sem,seval,↓reduceIte]
  ·simp [Ll,h2]
  grind [Ll]
def iW (x:Inst) (i:Nat):List Itm:=if (nth x.orders i).off=true then [] else
 (if (nth x.orders i).pick.place≠ -1 then [⟨1,i⟩] else [])++(if (nth x.orders i).drp.place≠ -1 then [⟨2,i⟩] else [])++(if (nth x.orders i).skills≠0 then [⟨4,i⟩] else [])++(if (nth x.orders i).penalty= -1 then [⟨10,i⟩] else [])
def Dj (x:Inst) (k:Nat):List Itm:=(List.range k).flatMap (iW x)
theorem Hv (x k):Dj x (k+1)=Dj x k++iW x k:=by simp [Dj,Ys]
theorem qT (x i):(iW x i).length<=4:=by
 unfold iW
 split
 ·simp
 ·simp only [ZH]
  grind
theorem B9 (x): ∀k,(Dj x k).length<=4*k
 | 0=>by simp [Dj]
 | k+1=>by
  have h1:=B9 x k;have h2:=qT x k;rw [Hv,ZH];omega
def hO (x:Inst) (m:List Itm) (i:Nat):List AM.Obj:= [Zj x,.cells [.sl 2 0 m.length m.length],.elems 2 (m.map Yc),.cells [.p (.int .i64 (i:Nat))]]
theorem Eo (x:Inst) (m:List Itm) (i:Nat) (has:Bool) (kind:Int) (hm:m.length<=1048576):ACalls Tryz.prog 95 [.p (.bool has),.p (.int .i64 kind),.ptr 1 0,.ptr 3 0] (hO x m i) fun y H'=>y= .tup []/\H'=hO x (if has=true then m++ [⟨kind,i⟩] else m) i:=by
 refine Zf [] Tryz.func95 rfl ZiB ?_
 cases has with
 | true =>
  simp (disch:=omega) only [Tryz.f95,hO,Zj,go_sem,seval];exact ⟨.tup [],hO x (m++ [⟨kind,i⟩]) i,Weak.mk (by simp (disch:=omega) only [hO,Zj,go_sem,seval]),rfl,by simp [hO,Zj,Yc]⟩
 | false =>
  simp (disch:=omega) only [Tryz.f95,hO,Zj,go_sem,seval];exact ⟨.tup [],hO x m i,Weak.mk (by simp (disch:=omega) only [hO,Zj,go_sem,seval]),rfl,by rfl⟩
theorem Lj (x:Inst) (hl:x.orders.length<=1000):ACalls Tryz.prog 63 [.p (Zv x)] [] fun y H'=> ∃m:List Itm,m=Dj x x.orders.length/\y= .sl 0 0 m.length m.length/\H'= [.elems 2 (m.map Yc)]:=by
 refine ZV [2] Tryz.func63 rfl Zic ?_;simp (disch:=omega) only [Tryz.f63,go_sem,seval];refine Zp (Weak.nilC (o:=1) (j:=0) 2 rfl rfl Zb) ?_;refine Zg [] _ _ _ _ ?_;simp (disch:=omega) only [Z8,ZZ,ZK,Zy,go_sem,seval];refine Zl [3,8,9] (fun q:Nat×List Itm=> [(10,.p (.int .i64 q.1))]) (fun q=> [Zj x,.cells [.sl 2 0 q.2.length q.2.length],.elems 2 (q.2.map Yc)]) (fun q=>q.1<=x.orders.length/\q.2=Dj x q.1) (fun q=>x.orders.length-q.1) (0,[]) ⟨Zb,by simp [Dj]⟩ (Weak.mk ?_) ?_
 ·simp (disch:=omega) only [Zj,go_sem,seval]
 ·rintro ⟨i,m⟩ ⟨hi,hm⟩;simp only at hi hm
  have hml:m.length<=4*i:=by grind [B9]
  have hsc:=Hv x i;refine Yd ?_;refine cD ?_ ?_<;>intro h<;>simp (disch:=omega) only [Sh.out h,go_sem,seval,↓reduceIte]
  ·have hi2:i<x.orders.length:=Za
   refine ZO ?_ ?_<;>intro h2
   ·exact ⟨(i+1,m),⟨Za,by simp_all [iW]⟩,Za,wk⟩
   ·have c1:=Eo x m i (decide ((nth x.orders i).pick.place≠ -1)) 1 Za
    have ifl: ∀ {c:Prop} [Decidable c] (m:List Itm) (v:Itm),(if decide c=true then m++ [v] else m)=m++(if c then [v] else []):=fun {c} _ m v=>by grind
    have ifn: ∀ {c:Prop} [Decidable c] (v:Itm),(if c then [v] else []).length<=1:=fun {c} _ v=>by grind
    rw [ifl] at c1;refine c1.useP (L:= [_]) (by rfl) ?_ (by rfl) (by rfl);have n1:=ifn (c:=(nth x.orders i).pick.place≠ -1) ⟨1,i⟩;have n2:=ifn (c:=(nth x.orders i).drp.place≠ -1) ⟨2,i⟩;have n3:=ifn (c:=(nth x.orders i).skills≠0) ⟨4,i⟩;have n4:=ifn (c:=(nth x.orders i).penalty= -1) ⟨10,i⟩
    have hit:iW x i=(if (nth x.orders i).pick.place≠ -1 then [⟨1,i⟩] else [])++(if (nth x.orders i).drp.place≠ -1 then [⟨2,i⟩] else [])++(if (nth x.orders i).skills≠0 then [⟨4,i⟩] else [])++(if (nth x.orders i).penalty= -1 then [⟨10,i⟩] else []):=by simp_all [iW]
    generalize hA:(if (nth x.orders i).pick.place≠ -1 then [(⟨1,i⟩:Itm)] else [])=A at hit n1 c1 ⊢;have c2:=Eo x (m++A) i (decide ((nth x.orders i).drp.place≠ -1)) 2 (by simp;omega);rw [ifl] at c2;generalize (if (nth x.orders i).drp.place≠ -1 then [(⟨2,i⟩:Itm)] else [])=B at hit n2 c2;have c3:=Eo x (m++A++B) i (decide ((nth x.orders i).skills≠0)) 4 (by simp;omega);rw [ifl] at c3;generalize (if (nth x.orders i).skills≠0 then [(⟨4,i⟩:Itm)] else [])=C at hit n3 c3;have c4:=Eo x (m++A++B++C) i (decide ((nth x.orders i).penalty= -1)) 10 (by simp;omega)
    rw [ifl] at c4;generalize (if (nth x.orders i).penalty= -1 then [(⟨10,i⟩:Itm)] else [])=D at hit n4 c4;generalize hm1:m++A=m1 at c2 c3 c4 ⊢;generalize hm2:m1++B=m2 at c2 c3 c4 ⊢;generalize hm3:m2++C=m3 at c3 c4 ⊢;generalize hm4:m3++D=m4 at c4;simp (disch:=omega) only [hO,Zj,go_sem,seval];refine c2.useP (L:= [_]) (by rfl) ?_ (by rfl) (by rfl);simp (disch:=omega) only [hO,Zj,go_sem,seval];refine c3.useP (L:= [_]) (by rfl) ?_ (by rfl) (by rfl);simp (disch:=omega) only [hO,Zj,go_sem,seval];refine c4.useP (L:= [_]) (by rfl) ?_ (by rfl) (by rfl);simp (disch:=omega) only [hO,Zj,go_sem,seval];refine ⟨(i+1,m4),⟨Za,?_⟩,Za,wk⟩
    grind
  ·have hin:i=x.orders.length:=Za
   subst hin;exact ⟨m,hm,2,by simp (disch:=omega) only [go_sem,seval]⟩
def iX (k:Nat):List Itm:=(List.range k).flatMap fun (i:Nat)=> [⟨3,i⟩,⟨7,i⟩,⟨8,i⟩,⟨9,i⟩]
def GX (x:Inst) (i:Nat):List Itm:=if (!Ll x (nth x.apart i).1&& !Ll x (nth x.apart i).2)=true then [⟨5,i⟩] else []
def iU (x:Inst) (k:Nat):List Itm:=(List.range k).flatMap (GX x)
def I5 (x:Inst) (i:Nat):List Itm:=if (!Ll x (nth x.before i).2)=true then [⟨6,i⟩] else []
def iV (x:Inst) (k:Nat):List Itm:=(List.range k).flatMap (I5 x)
def Lo (x:Inst):List Itm:=Dj x x.orders.length++iX x.types.length++iU x x.apart.length++iV x x.before.length
theorem MV (k):iX (k+1)=iX k++ [⟨3,k⟩,⟨7,k⟩,⟨8,k⟩,⟨9,k⟩]:=by simp [iX,Ys]
theorem B8 (x k):iU x (k+1)=iU x k++GX x k:=by simp [iU,Ys]
theorem FK (x k):iV x (k+1)=iV x k++I5 x k:=by simp [iV,Ys]
theorem I7 : ∀k,(iX k).length=4*k
 | 0=>by simp [iX]
 | k+1=>by rw [MV,ZH,I7 k];simp;omega
theorem I4 (x): ∀k,(iU x k).length<=k
 | 0=>by simp [iU]
 | k+1=>by
  have h1:=I4 x k
  have h2:(GX x k).length<=1:=by unfold GX;split<;>simp
  rw [B8,ZH];omega
theorem I6 (x): ∀k,(iV x k).length<=k
 | 0=>by simp [iV]
 | k+1=>by
  have h1:=I6 x k
  have h2:(I5 x k).length<=1:=by unfold I5;split<;>simp
  rw [FK,ZH];omega
theorem JC {a b:Itm} :Kj a b<0↔a.kind<b.kind\/(a.kind=b.kind/\a.a<b.a):=by
 grind [Kj,He,pN]
theorem fH : Go.Sort.SWO (ltOf Kj) where
 irrefl x:=by grind [ltOf,JC]
 trans x y z h1 h2:=by simp only [ltOf,Zs,JC] at *;omega
 ntrans x y z h1 h2:=by grind [ltOf,JC]
theorem NR (xs:List Itm) (hne:xs≠ []) (hl:xs.length<=1048576) {H:List AM.Obj} {o:Nat} (hH:H[o]? =some (.elems 2 (xs.map Yc))) :
  ACalls Tryz.prog 65 [.sl o 0 xs.length xs.length,.fn (.func 66) [] []] H fun y H'=>y= .tup []/\ ∃ys:List Itm,ys.Perm xs/\ys.Pairwise (fun a b=> ¬Kj b a<0)/\H'=H.set o (.elems 2 (ys.map Yc)) :=
 ACalls.sortFunc bJ Zie 2 Tryz.isAgg32 Tryz.sizeOf32 Yc (fun x=>⟨_,rfl,rfl,rfl⟩) Kj fH 66 Mu xs Za hH
theorem KW {P Q:Prop} (h:Q) (e:Q->P:=by intro h;simp (disch:=omega) only [Z8,ZZ,go_sem,seval];exact h):P:=e h
theorem TO (x:Inst) (ho:x.orders.length<=1000) (ht:0<x.types.length/\x.types.length<=1000) (ha:x.apart.length<=1000) (hb:x.before.length<=1000):ACalls Tryz.prog 35 [.p (Zv x)] [] fun y H'=> ∃m:List Itm,(m.Perm (Lo x)/\m.Pairwise (fun a b=> ¬Kj b a<0))/\y= .sl 0 0 m.length m.length/\H'= [.elems 2 (m.map Yc)]:=by
 refine ZV [] Tryz.func35 rfl ZhR ?_;simp (disch:=omega) only [Tryz.f35,go_sem,seval];obtain ⟨os,hos⟩: ∃os,os=Dj x x.orders.length:=⟨_,rfl⟩;have hosl:=B9 x x.orders.length;rw [<- hos] at hosl;refine ACalls.useF (S:=2) (n:=os.length) (xs:=os.map Yc) ((Lj x ho).mono fun y H' ⟨m,hm,h1,h2⟩=>by grind) (Zc ?_);obtain ⟨ks,hks⟩: ∃ks:List Int,ks= [3,7,8,9]:=⟨_,rfl⟩
 have hkl:ks.length=4:=by rw [hks];rfl
 have hke:(ks.map eI).length=ks.length:=Zb
 refine Zl [1,15] (fun q:Nat×List Itm=> [(3,.sl 1 0 q.2.length q.2.length),(16,.p (.int .i64 q.1))]) (fun q=> [Zj x,.elems 2 (q.2.map Yc)]) (fun q=>q.1<=x.types.length/\q.2=os++iX q.1) (fun q=>x.types.length-q.1) (0,os) ⟨Zb,by simp [iX]⟩ (Weak.mk ?_) ?_
 ·simp (disch:=omega) only [Zj,go_sem,seval]
 ·rintro ⟨i,m⟩ ⟨hi,hm⟩;simp only at hi hm
  have hml:m.length=os.length+4*i:=by grind [I7]
  refine Yd ?_;refine cD ?_ ?_<;>intro h<;>simp (disch:=omega) only [Sh.out h,go_sem,seval,↓reduceIte]
  ·have hi2:i<x.types.length:=Za
   refine Zl [1,4,15,16,20] (fun q:Nat×List Itm=> [(3,.sl 1 0 q.2.length q.2.length),(19,.sl 2 0 ks.length ks.length),(21,.p (.int .i64 q.1))]) (fun q=> [Zj x,.elems 2 (q.2.map Yc),.elems 1 (ks.map eI)]) (fun q=>q.1<=4/\q.2=m++(ks.take q.1).map fun c=>(⟨c,i⟩:Itm)) (fun q=>4-q.1) (0,m) ⟨Zb,Zb⟩ (Weak.mk ?_) ?_
   ·rw [hks];simp (disch:=omega) only [Zj,Zq,Zm,ZB,ZE,go_sem,seval]
   ·rintro ⟨k,m2⟩ ⟨hk,hm2⟩;simp only at hk hm2
    have hm2l:m2.length=m.length+k:=by grind
    refine Yd ?_;refine cD ?_ ?_<;>intro h2<;>simp (disch:=omega) only [Sh.out h2,UO,go_sem,seval]
    ·have hk2:k<ks.length:=Za
     have htk:ks.take (k+1)=ks.take k++ [nth ks k]:=by rw [X9 hk2,Zh hk2]
     simp (disch:=omega) only [hk2,go_sem,seval];exact ⟨(k+1,m2++ [⟨nth ks k,i⟩]),⟨Za,by grind⟩,Za,wk⟩
    ·have hk4:k=4:=Za
     subst hk4;refine ⟨(i+1,m2),⟨Za,?_⟩,Za,wk⟩
     simp_all [MV]
  ·have hin:i=x.types.length:=Za
   subst hin;clear hi h;refine Zl [1,34,35] (fun q:Nat×List Itm=> [(3,.sl 1 0 q.2.length q.2.length),(36,.p (.int .i64 q.1))]) (fun q=> [Zj x,.elems 2 (q.2.map Yc)]) (fun q=>q.1<=x.apart.length/\q.2=m++iU x q.1) (fun q=>x.apart.length-q.1) (0,m) ⟨Zb,by simp [iU]⟩ (Weak.mk ?_) ?_
   ·simp (disch:=omega) only [Zj,go_sem,seval]
   ·rintro ⟨i,m2⟩ ⟨hi,hm2⟩;simp only at hi hm2
    have hm2l:m2.length<=m.length+i:=by grind [I4]
    refine Yd ?_;refine cD ?_ ?_<;>intro h<;>simp (disch:=omega) only [Sh.out h,go_sem,seval,↓reduceIte]
    ·have hi2:i<x.apart.length:=Za
     refine (Lk x (nth x.apart i).1 Za).use (Zc ?_);refine QP ?_ ?_<;>intro h2
     ·refine (Lk x (nth x.apart i).2 Za).use (Zc ?_);refine ZO ?_ ?_<;>intro h3
      ·exact ⟨(i+1,m2++ [⟨5,i⟩]),⟨Za,by simp_all [B8,GX]⟩,Za,wk⟩
      ·exact ⟨(i+1,m2),⟨Za,by grind [B8,GX]⟩,Za,wk⟩
     ·exact ⟨(i+1,m2),⟨Za,by grind [B8,GX]⟩,Za,wk⟩
    ·have hin:i=x.apart.length:=Za
     subst hin;clear hi h;refine Zl [1,60,61] (fun q:Nat×List Itm=> [(3,.sl 1 0 q.2.length q.2.length),(62,.p (.int .i64 q.1))]) (fun q=> [Zj x,.elems 2 (q.2.map Yc)]) (fun q=>q.1<=x.before.length/\q.2=m2++iV x q.1) (fun q=>x.before.length-q.1) (0,m2) ⟨Zb,by simp [iV]⟩ (Weak.mk ?_) ?_
     ·simp (disch:=omega) only [Zj,go_sem,seval]
     ·rintro ⟨i,m3⟩ ⟨hi,hm3⟩;simp only at hi hm3
      have hm3l:m3.length<=m2.length+i:=by grind [I6]
      refine Yd ?_;refine cD ?_ ?_<;>intro h<;>simp (disch:=omega) only [Sh.out h,go_sem,seval,↓reduceIte]
      ·have hi2:i<x.before.length:=Za
       refine (Lk x (nth x.before i).2 Za).use (Zc ?_);refine ZO ?_ ?_<;>intro h2
       ·exact ⟨(i+1,m3++ [⟨6,i⟩]),⟨Za,by simp_all [FK,I5]⟩,Za,wk⟩
       ·exact ⟨(i+1,m3),⟨Za,by grind [FK,I5]⟩,Za,wk⟩
      ·have hin:i=x.before.length:=Za
       subst hin
       have hpre:m3=Lo x:=by rw [hm3,hm2,hm,hos];rfl
       have hne:m3≠ []:=fun e=>by grind
       refine (NR m3 hne Za (H:=_) (o:=1) rfl).mono ?_;rintro y H' ⟨rfl,ys,h1,h2,rfl⟩;have hyl:ys.length=m3.length:=h1.length_eq;refine KW ?_;rw [<- hyl];exact ⟨ys,⟨by grind,h2⟩,1,by simp (disch:=omega) only [go_sem,seval]⟩
def UL (x:Inst) (i:Int):Bool:=decide (0<=i)&&decide (i<(x.orders.length:Int))&& !(nth x.orders i.toNat).off
theorem Nh {x o} :Ll x o= !UL x o:=by
 grind [Ll,UL]
def Cz (o:Ord) (kind:Int):Bool:=if kind=1 then decide (0<=o.pick.place) else if kind=2 then decide (0<=o.drp.place) else if kind=4 then decide (o.skills≠0) else decide (o.penalty= -1)
def X5 (x:Inst) (v:Itm):Bool :=
 if v.kind=1\/v.kind=2\/v.kind=4\/v.kind=10 then UL x v.a&&Cz (nth x.orders v.a.toNat) v.kind
 else if v.kind=3\/v.kind=7\/v.kind=8\/v.kind=9 then decide (0<=v.a)&&decide (v.a<(x.types.length:Int))
 else if v.kind=5 then decide (0<=v.a)&&decide (v.a<(x.apart.length:Int))&&UL x (nth x.apart v.a.toNat).1&&UL x (nth x.apart v.a.toNat).2
 else if v.kind=6 then decide (0<=v.a)&&decide (v.a<(x.before.length:Int))&&UL x (nth x.before v.a.toNat).2
 else false
theorem R2 {x i} {v:Itm} :v∈iW x i↔(nth x.orders i).off=false/\v.a=(i:Int)/\((v.kind=1/\(nth x.orders i).pick.place≠ -1)\/(v.kind=2/\(nth x.orders i).drp.place≠ -1)\/(v.kind=4/\(nth x.orders i).skills≠0)\/(v.kind=10/\(nth x.orders i).penalty= -1)):=by
 have one: ∀(c:Prop) [Decidable c] (w:Itm),v∈(if c then [w] else [])↔c/\v.kind=w.kind/\v.a=w.a:=fun c _ w=>by
  grind [KA]
 unfold iW
 split
 ·grind
 ·rename_i h;simp only [Xg,one]
  grind
theorem R3 {n} {v:Itm} :v∈iX n↔(v.kind=3\/v.kind=7\/v.kind=8\/v.kind=9)/\0<=v.a/\v.a<(n:Int):=by
 simp only [iX,XQ,ZL,Z3,Y3,Wn,KA]
 constructor
 ·omega
 ·rintro ⟨h,h1,h2⟩;refine ⟨v.a.toNat,Za,?_⟩;omega
theorem R0 {x n} {v:Itm} :v∈iU x n↔v.kind=5/\0<=v.a/\v.a<(n:Int)/\UL x (nth x.apart v.a.toNat).1=true/\UL x (nth x.apart v.a.toNat).2=true:=by
 simp only [iU,XQ,ZL,GX,Nh,Bool.not_not,ZF]
 constructor
 ·grind
 ·rintro ⟨h,h1,h2,h3⟩;refine ⟨v.a.toNat,Za,?_⟩;rw [if_pos h3];simp only [Z3,Y3,Wn,KA];omega
theorem R1 {x n} {v:Itm} :v∈iV x n↔v.kind=6/\0<=v.a/\v.a<(n:Int)/\UL x (nth x.before v.a.toNat).2=true:=by
 simp only [iV,XQ,ZL,I5,Nh,Bool.not_not]
 constructor
 ·grind
 ·rintro ⟨h,h1,h2,h3⟩;refine ⟨v.a.toNat,Za,?_⟩;rw [if_pos h3];simp only [Z3,Y3,Wn,KA];omega
theorem M8 {x:Inst} (hp:Plc x) {v:Itm} :v∈Dj x x.orders.length↔(v.kind=1\/v.kind=2\/v.kind=4\/v.kind=10)/\UL x v.a=true/\Cz (nth x.orders v.a.toNat) v.kind=true:=by
 simp only [Dj,XQ,ZL,R2]
 constructor
 ·rintro ⟨i,hi,h0,ha,h⟩
  have e:v.a.toNat=i:=Za
  have hpl:=hp _ (Zt hi);rw [e];refine ⟨?_,by simp_all [UL],?_⟩
  ·omega
  grind [Cz]
 ·rintro ⟨hk,ha,ho⟩;simp only [UL,ZF,Zs,XT] at ha
  grind [Cz]
theorem M9 {x:Inst} (hp:Plc x) {v:Itm} :v∈Lo x↔X5 x v=true:=by
 simp only [Lo,Xg,M8 hp,R3,R0,R1,X5]
 grind
theorem TN (x i):(iW x i).Nodup:=by
 unfold iW
 split
 ·simp
 ·split<;>split<;>split<;>split<;>simp
theorem JG {f:Nat->List Itm} {n:Nat} (h: ∀i,(f i).Nodup) (ha: ∀i,∀v∈f i,v.a=(i:Int)):((List.range n).flatMap f).Nodup:=by
 grind [List.nodup_range]
theorem F5 {x:Inst} (hp:Plc x):(Lo x).Nodup:=by
 have n1:(Dj x x.orders.length).Nodup:=JG (TN x) fun i v hv=>(R2.1 hv).2.1
 have n2:(iX x.types.length).Nodup:=JG (fun i=>Zb) fun i v hv=>by
  grind
 have n3:(iU x x.apart.length).Nodup:=JG (fun i=>by grind [GX]) fun i v hv=>by
  grind [GX]
 have n4:(iV x x.before.length).Nodup:=JG (fun i=>by grind [I5]) fun i v hv=>by
  grind [I5]
 rw [Lo,Cp,Cp,Cp]
 grind [M8,R3,R0,R1]
def sL (x:Inst) (k:Nat) (a:Nat):List Itm:=if X5 x ⟨k+1,a⟩=true then [⟨k+1,a⟩] else []
def ZcF (x:Inst) (k n:Nat):List Itm:=(List.range n).flatMap (sL x k)
def jJ (x:Inst):Nat:=max (max (max x.orders.length x.types.length) x.apart.length) x.before.length
def Kl (x:Inst) (n:Nat):List Itm:=(List.range n).flatMap fun k=>ZcF x k (jJ x)
theorem Na {x k a} {v:Itm} :v∈sL x k a↔X5 x v=true/\v.kind=(k:Int)+1/\v.a=(a:Int):=by
 unfold sL
 constructor
 ·grind
 ·rintro ⟨h1,h2,h3⟩;have:v=⟨(k:Int)+1,a⟩:=KA.2 ⟨h2,h3⟩
  grind
theorem Jl {x:Inst} {v:Itm} :v∈Kl x 10↔X5 x v=true:=by
 simp only [Kl,ZcF,XQ,ZL,Na]
 constructor
 ·grind
 ·intro h
  have hk:1<=v.kind/\v.kind<=10/\0<=v.a/\v.a<(jJ x:Int):=by
   unfold X5 at h;unfold jJ
   split at h
   ·simp only [UL,ZF,Zs] at h;omega
   grind
  exact ⟨(v.kind-1).toNat,Za,v.a.toNat,Za,h,Za,Za⟩
theorem DZ (x:Inst) (n:Nat):(Kl x n).Pairwise fun a b=>Kj a b<0:=by
 rw [Kl,List.pairwise_flatMap]
 grind [List.Pairwise.imp,List.pairwise_lt_range,ZcF,sL,Na,JC]
theorem D1 {α:Type} {R:α->α->Prop} (asym: ∀a b,R a b-> ¬R b a): ∀ {l m:List α},l.Pairwise R->m.Pairwise R->(∀v,v∈l↔v∈m)->l=m
 | [],[],_,_,_=>rfl
 | [],b::m,_,_,h=>absurd ((h b).2 Zb) Zb
 | a::l,[],_,_,h=>absurd ((h a).1 Zb) Zb
 | a::l,b::m,hl,hm,h=>by
  rw [List.pairwise_cons] at hl hm
  have e:a=b:=by
   rcases Z3.1 ((h a).1 Zb) with e | e
   ·exact e
   ·rcases Z3.1 ((h b).2 Zb) with e2 | e2
    ·exact e2.symm
    ·exact absurd (hl.1 b e2) (asym _ _ (hm.1 a e))
  subst e;have irr: ¬R a a:=fun h=>asym a a h h;rw [D1 asym hl.2 hm.2 fun v=>⟨fun hv=> ?_,fun hv=> ?_⟩]
  ·rcases Z3.1 ((h v).1 (by simp [hv])) with e | e
   ·subst e;exact absurd (hl.1 _ hv) irr
   ·exact e
  ·rcases Z3.1 ((h v).2 (by simp [hv])) with e | e
   ·subst e;exact absurd (hm.1 _ hv) irr
   ·exact e
theorem iY {x:Inst} (hp:Plc x) {m:List Itm} (h1:m.Perm (Lo x)) (h2:m.Pairwise fun a b=> ¬Kj b a<0):m=Kl x 10:=by
 refine D1 (R:=fun a b=>Kj a b<0) (fun a b h k=> ?_) ?_ (DZ x 10) fun v=> ?_
 ·grind [JC]
 ·have h3:m.Nodup:=h1.nodup_iff.2 (F5 hp);have h4:=List.Pairwise.and h2 h3;refine h4.imp ?_;rintro a b ⟨h5,h6⟩;rw [JC] at h5 ⊢
  grind [KA]
 grind [M9,Jl]
theorem qU (x:Inst) (hp:Plc x) (ho:x.orders.length<=1000) (ht:0<x.types.length/\x.types.length<=1000) (ha:x.apart.length<=1000) (hb:x.before.length<=1000):PC 35 [.p (Zv x)] (.list false ((Kl x 10).map Yc)):=by
 refine ACalls.frozen (S:=2) (n:=(Kl x 10).length) Zb ?_;refine (TO x ho ht ha hb).mono ?_
 grind [iY]
def LJ (l:List Itm) (v:Itm):Int:=match l.findIdx? (fun w=>decide (v=w)) with | some i=>(i:Int) | none=> -1
theorem PO {l:List Itm} {v:Itm} {k:Nat} (hk:k<l.length) (h:v=nth l k) (hno: ∀j,j<k-> ¬v=nth l j):LJ l v=(k:Int):=by
 have:l.findIdx? (fun w=>decide (v=w))=some k:=by
  grind [Ut,Zh]
 simp [LJ,this]
theorem mK {l:List Itm} {v:Itm} (hno: ∀j,j<l.length-> ¬v=nth l j):LJ l v= -1:=by
 have:l.findIdx? (fun w=>decide (v=w))=none:=by
  rw [List.findIdx?_eq_none_iff];intro x hx;obtain ⟨j,hj,rfl⟩:=ZT.1 hx
  grind [Zh]
 simp [LJ,this]
theorem V6 {l:List Itm} {v:Itm} :0<=LJ l v↔v∈l:=by
 grind [LJ]
theorem TL (l:List Itm) (c:Bool) (v:Itm) (hl:l.length<=1048576):PC 79 [.p (.list c (l.map Yc)),.p (Yc v)] (.int .i64 (LJ l v)):=by
 refine Zd Tryz.func79 rfl Ziq ?_;simp (disch:=omega) only [Tryz.f79,go_sem,seval];refine Zl [0,3,7] (fun k:Nat=> [(8,.p (.int .i64 k))]) (fun _=> [.cells [.p (.int .i64 v.kind),.p (.int .i64 v.a)]]) (fun k=>k<=l.length/\ ∀j,j<k-> ¬v=nth l j) (fun k=>l.length-k) 0 Zb (Weak.mk ?_) ?_
 ·simp (disch:=omega) only [go_sem,seval,↓reduceIte]
 ·rintro k ⟨hk,hno⟩;refine Zc ?_;refine cD ?_ ?_<;>intro h<;>simp (disch:=omega) only [Sh.out h,go_sem,seval,↓reduceIte]
  ·have hk2:k<l.length:=Za
   refine Xn (Zc ?_);refine cD ?_ ?_<;>intro h2<;>simp (disch:=omega) only [Sh.out h2,go_sem,seval,↓reduceIte]
   ·grind [KA,PO]
   ·have: ¬v=nth l k:=by grind
    exact ⟨k+1,⟨Za,Zr.2 ⟨hno,this⟩⟩,Za,wk⟩
  grind [mK]
theorem UN (l:List Itm) (c:Bool) (v:Itm) (hl:l.length<=1048576):PC 46 [.p (.list c (l.map Yc)),.p (Yc v)] (.bool (decide (v∈l))):=by
 refine Zd Tryz.func46 rfl ZhY ?_;simp (disch:=omega) only [Tryz.f46,go_sem,seval];refine (TL l c v hl).use (Zc ?_);simp only [V6]
theorem GP (l:List Typ) (c:Bool) (hl:l.length<=1048576):ACalls Tryz.prog 58 [.p (.list c (l.map X1))] [] fun y H'=>y= .sl 0 0 l.length l.length/\H'= [.elems 14 (l.map X1)]:=by
 refine Zf [1] Tryz.func58 rfl Zh8 ?_;simp (disch:=omega) only [Tryz.f58,go_sem,seval];refine YM (Fe (e:=71) (cl:=c) (xs:=l.map X1) Tryz.underlying26 (by rfl) Zb fun b hb=> ?_);refine Zg [] _ _ _ _ (Zc ?_);refine cD ?_ ?_<;>intro h<;>simp (disch:=omega) only [Sh.out h,go_sem,seval]
 ·have:l= []:=by simp_all
  subst this;exact ⟨_,_,Weak.nil 0 14 rfl Zb,rfl,rfl⟩
 ·refine Zg [] _ _ _ _ (Zc ?_);exact we
theorem GO (l:List Ord) (c:Bool) (hl:l.length<=1048576):ACalls Tryz.prog 59 [.p (.list c (l.map Yg))] [] fun y H'=>y= .sl 0 0 l.length l.length/\H'= [.elems 16 (l.map Yg)]:=by
 refine Zf [1] Tryz.func59 rfl Zh9 ?_;simp (disch:=omega) only [Tryz.f59,go_sem,seval];refine YM (Fe (e:=75) (cl:=c) (xs:=l.map Yg) Tryz.underlying27 (by rfl) Zb fun b hb=> ?_);refine Zg [] _ _ _ _ (Zc ?_);refine cD ?_ ?_<;>intro h<;>simp (disch:=omega) only [Sh.out h,go_sem,seval]
 ·have:l= []:=by simp_all
  subst this;exact ⟨_,_,Weak.nil 0 16 rfl Zb,rfl,rfl⟩
 ·refine Zg [] _ _ _ _ (Zc ?_);exact we
def Y0 (l:List (Int×Int)) (w:List Itm) (kind:Int) (k:Nat):List (Int×Int):=(List.range k).flatMap fun (i:Nat)=>if (⟨kind,i⟩:Itm)∈w then [] else [nth l i]
theorem JM (l w kind k):Y0 l w kind (k+1)=Y0 l w kind k++if (⟨kind,k⟩:Itm)∈w then [] else [nth l k]:=by simp [Y0,Ys]
theorem Dk (l w kind): ∀k,(Y0 l w kind k).length<=k
 | 0=>by simp [Y0]
 | k+1=>by
  have:=Dk l w kind k;rw [JM,ZH]
  split<;>simp<;>omega
theorem HM (l:List (Int×Int)) (w:List Itm) (kind:Int) (c d:Bool) (hl:l.length<=1048576) (hw:w.length<=1048576):PC 62 [.p (.list c (l.map eP)),.p (.list d (w.map Yc)),.p (.int .i64 kind)] (.list false ((Y0 l w kind l.length).map eP)):=by
 refine ACalls.frozen (S:=2) (n:=(Y0 l w kind l.length).length) Zb ?_
 suffices hh:ACalls Tryz.prog 62 [.p (.list c (l.map eP)),.p (.list d (w.map Yc)),.p (.int .i64 kind)] [] fun y H'=> ∃m:List (Int×Int),m=Y0 l w kind l.length/\y= .sl 0 0 m.length m.length/\H'= [.elems 2 (m.map eP)] by
  grind
 refine ZV [2] Tryz.func62 rfl Zib ?_;simp (disch:=omega) only [Tryz.f62,go_sem,seval];refine Zp (Weak.ofNil 7 2 (by simp (disch:=omega) only [go_sem,seval]) Zb (Weak.refl _ _ _)) ?_;refine Zg [] _ _ _ _ (Zc ?_);refine Zl [1,2,10,11] (fun q:Nat×List (Int×Int)=> [(7,.sl 0 0 q.2.length q.2.length),(12,.p (.int .i64 q.1))]) (fun q=> [.elems 2 (q.2.map eP)]) (fun q=>q.1<=l.length/\q.2=Y0 l w kind q.1) (fun q=>l.length-q.1) (0,[]) ⟨Zb,by simp [Y0]⟩ (Weak.mk ?_) ?_
 ·simp (disch:=omega) only [go_sem,seval]
 ·rintro ⟨k,m⟩ ⟨hk,hm⟩;simp only at hk hm;have hml:=Dk l w kind k;rw [<- hm] at hml;have hs:=JM l w kind k;refine Zc ?_;refine cD ?_ ?_<;>intro h<;>simp (disch:=omega) only [Sh.out h,go_sem,seval,↓reduceIte]
  ·have hk2:k<l.length:=Za
   refine (UN w d ⟨kind,k⟩ hw).use (Zc ?_);refine ZO ?_ ?_<;>intro h2
   ·have h3: ¬(⟨kind,k⟩:Itm)∈w:=Za
    exact ⟨(k+1,m++ [nth l k]),⟨Za,by grind⟩,Za,wk⟩
   ·have h3:(⟨kind,k⟩:Itm)∈w:=by grind
    exact ⟨(k+1,m),⟨Za,by grind⟩,Za,wk⟩
  ·have hkl:k=l.length:=Za
   subst hkl;exact ⟨m,hm,0,by simp (disch:=omega) only [go_sem,seval]⟩
def GZ (o:Ord) (kind:Int):Ord :=
 if kind=1 then { o with pick:= { o.pick with cls:=4096 } }
 else if kind=2 then { o with drp:= { o.drp with cls:=4096 } }
 else if kind=4 then { o with skills:=0 }
 else if kind=10 then { o with penalty:=0 }
 else o
theorem AL {α β:Type} {f:α->β} {l:List α} {i:Nat} {a:α} :(l.map f).set i (f a)=(l.set i a).map f:=Zb
theorem rO (os:List Ord) (i:Nat) (hi:i<os.length):ACalls Tryz.prog 93 [.ep 0 i 2 os.length] [.elems 16 (os.map Yg)] fun y H'=>y= .tup []/\H'= [.elems 16 ((os.set i (GZ (nth os i) 1)).map Yg)]:=by
 refine Zf [] Tryz.func93 rfl vH ?_;simp (disch:=omega) only [Tryz.f93,go_sem,seval];exact ⟨_,_,Weak.refl _ _ _,rfl,by rw [<- AL];rfl⟩
theorem rN (os:List Ord) (i:Nat) (hi:i<os.length):ACalls Tryz.prog 93 [.ep 0 i 6 os.length] [.elems 16 (os.map Yg)] fun y H'=>y= .tup []/\H'= [.elems 16 ((os.set i (GZ (nth os i) 2)).map Yg)]:=by
 refine Zf [] Tryz.func93 rfl vH ?_;simp (disch:=omega) only [Tryz.f93,go_sem,seval];exact ⟨_,_,Weak.refl _ _ _,rfl,by rw [<- AL];rfl⟩
theorem jS {α:Type} [Inhabited α] {l:List α} {i:Nat} (h:i<l.length):l.set i (nth l i)=l:=by
 grind [Zh,List.set_getElem_self]
theorem AG (os:List Ord) (i:Nat) (k:Int) (hi:i<os.length):ACalls Tryz.prog 60 [.ep 0 i 0 os.length,.p (.int .i64 k)] [.elems 16 (os.map Yg)] fun y H'=>y= .tup []/\H'= [.elems 16 ((os.set i (GZ (nth os i) k)).map Yg)]:=by
 refine Zf [] Tryz.func60 rfl Zia ?_;simp (disch:=omega) only [Tryz.f60,go_sem,seval];refine cD ?_ ?_<;>intro h1<;>simp (disch:=omega) only [Sh.out h1,go_sem,seval,↓reduceIte]
 ·subst h1;refine (rO os i hi).useH (Zc ?_);exact ⟨_,_,Weak.refl _ _ _,rfl,rfl⟩
 ·refine cD ?_ ?_<;>intro h2<;>simp (disch:=omega) only [Sh.out h2,go_sem,seval,↓reduceIte]
  ·subst h2;refine (rN os i hi).useH (Zc ?_);exact ⟨_,_,Weak.refl _ _ _,rfl,rfl⟩
  ·refine cD ?_ ?_<;>intro h3<;>simp (disch:=omega) only [Sh.out h3,go_sem,seval,↓reduceIte]
   ·subst h3;exact ⟨_,_,Weak.refl _ _ _,rfl,by rw [<- AL];rfl⟩
   ·refine cD ?_ ?_<;>intro h4<;>simp (disch:=omega) only [Sh.out h4,go_sem,seval,↓reduceIte]
    ·subst h4;exact ⟨_,_,Weak.refl _ _ _,rfl,by rw [<- AL];rfl⟩
    ·have:GZ (nth os i) k=nth os i:=by simp_all [GZ]
     rw [this,jS hi];exact ⟨_,_,Weak.refl _ _ _,rfl,rfl⟩
theorem H5 {α:Type} {cs:List α} {j:Nat} {v:α} (h:j<cs.length):List.take 1 (List.drop j (cs.set j v))= [v]:=by
 grind [VX]
theorem mL {α:Type} {cs:List α} {j:Nat} {v:α} (h:cs[j]? =some v):List.take 1 (List.drop j cs)= [v]:=by
 grind [VX]
theorem LI {α:Type} : ∀ {cs:List α} {j:Nat},Q7 cs j []=cs
 | [],_=>rfl
 | _::_,0=>rfl
 | _::_,_+1=>by simp [Q7,LI]
theorem ES {α:Type} : ∀ {cs:List α} {j:Nat} {v:α},Q7 cs j [v]=cs.set j v
 | [],_,_=>rfl
 | x::l,0,v=>by simp [Q7,LI]
 | x::l,j+1,v=>by simp [Q7,ES (cs:=l)]
theorem EW {H:List AM.Obj} {n:Nat} {x x':V} (hx:DN H n x x'): ∀ {cs:List V} {j:Nat},(∀v∈cs,refB n v=true)->Og H n (cs.set j x) (cs.set j x')
 | [],_,_=>by simp [Og]
 | y::l,0,h=>⟨hx,GD l fun j c hc=>h c (Yp _ (XA hc))⟩
 | y::l,j+1,h=>⟨.inr (.inl ⟨rfl,h y Zb⟩),EW hx fun v hv=>h v (Yp _ hv)⟩
theorem bU (cs:List V) (b:Nat) (l:List Int) (c:Bool) (hb:b+14<=cs.length) (hp: ∀n,∀v∈cs,refB n v=true) (h4:cs[b+4]? =some (.p (.list c (l.map eI)))) (hl:l.length<=1048576):ACalls Tryz.prog 61 [.ptr 0 b,.p (.int .i64 3)] [.cells cs] fun y H'=>y= .tup []/\H'= [.cells (cs.set (b+4) (.p (.list false ((List.replicate l.length (1000:Int)).map eI))))]:=by
 refine Zf [] Tryz.func61 rfl vD ?_;have h5:=mL h4
 have h6:b+4+1<=cs.length:=Za
 simp (disch:=omega) only [Tryz.f61,h5,h6,go_sem,seval];refine ACalls.useF (S:=1) (n:=l.length) (xs:=l.map eI) (GN l c hl) ?_;simp (disch:=omega) only [h6,ES,H5,Qx,go_sem,seval];refine Zl [0,20] (fun q:Nat×List Int=> [(21,.p (.int .i64 q.1))]) (fun q=> [.cells (cs.set (b+4) (.sl 1 0 l.length l.length)),.elems 1 (q.2.map eI)]) (fun q=>q.1<=l.length/\q.2=List.replicate q.1 (1000:Int)++l.drop q.1) (fun q=>l.length-q.1) (0,l) Zb (Weak.mk ?_) ?_
 ·refine Zc ?_;exact EW (by simp (disch:=omega) only [go_sem,seval]) (hp 2)
 ·rintro ⟨k,m⟩ ⟨hk,hm⟩;simp only at hk hm
  have hml:m.length=l.length:=by grind
  rw [<- hml] at hk ⊢
  have hme:(m.map eI).length=m.length:=Zb
  refine Zc ?_;refine cD ?_ ?_<;>intro h<;>simp (disch:=omega) only [Sh.out h,go_sem,seval,↓reduceIte]
  ·have hk2:k<m.length:=Za
   simp (disch:=omega) only [h6,ES,H5,Qx,go_sem,seval];refine ⟨(k+1,m.set k 1000),⟨Za,?_⟩,Za,Weak.mk ?_⟩
   ·rw [hm]
    have hkl:k<l.length:=Za
    simp only;rw [EB _ _ Zb,VX hkl,EE,KF];simp only [Cl,Ay,ZZ,ZK,Zy]
   ·simp (disch:=omega) only [jG,ZZ,List.headD_cons,go_sem,seval];refine ⟨EW ?_ (hp 2),?_⟩
    ·simp (disch:=omega) only [go_sem,seval]
    grind [AL,eI]
  ·have hkl:k=m.length:=Za
   subst hkl
   have hm2:m=List.replicate m.length (1000:Int):=by grind
   rw [<- hm2];refine ⟨_,_,?_,rfl,rfl⟩;refine Weak.mk (Zc ?_);refine EW ?_ (hp 1);simp (disch:=omega) only [go_sem,seval]
theorem Gz (cs:List V) (b:Nat) (k:Int) (j:Nat) (v:Int) (hk:(k=7/\j=8/\v=4096)\/(k=8/\j=9/\v=4096)\/(k=9/\j=1/\v=10)) (hb:b+14<=cs.length) (hp: ∀n,∀v∈cs,refB n v=true):ACalls Tryz.prog 61 [.ptr 0 b,.p (.int .i64 k)] [.cells cs] fun y H'=>y= .tup []/\H'= [.cells (cs.set (b+j) (.p (.int .i64 v)))]:=by
 refine Zf [] Tryz.func61 rfl vD ?_
 have h6:b+j+1<=cs.length:=Za
 rcases hk with ⟨rfl,rfl,rfl⟩ | ⟨rfl,rfl,rfl⟩ | ⟨rfl,rfl,rfl⟩ <;>
 ·simp (disch:=omega) only [Tryz.f61,h6,ES,go_sem,seval,↓reduceIte];exact ⟨_,_,Weak.refl _ _ _,rfl,rfl⟩
def LP (t:Typ) (kind:Int):Typ :=
 if kind=3 then { t with cap_c:=false,cap:=List.replicate t.cap.length 1000 }
 else if kind=7 then { t with cls:=4096 }
 else if kind=8 then { t with drive:=4096 }
 else if kind=9 then { t with count:=10 }
 else t
theorem Hp {S:Nat} {x' v:PV} {j:Nat} : ∀ {xs:List PV} {i:Nat} (h:i<xs.length),(∀x∈xs,x.cells.length=S)->j<S->x'.cells=(xs[i]).cells.set j v->VR (xs.set i x')=(VR xs).set (i*S+j) v
 | [],_,h,_,_,_=>absurd h Zb
 | x::xs,0,_,hS,hj,he=>by
  simp_all [VR]
 | x::xs,i+1,h,hS,hj,he=>by
  have hx:=hS x Zb;have:=Hp (xs:=xs) (i:=i) (by simpa using h) (fun y hy=>hS y (by simp [hy])) hj (by simpa using he)
  simp only [VR,Z8,U7] at *
  rw [this,EB _ _ (by rw [hx,XN];omega),hx]
  congr 2
  rw [XN];omega
theorem QH (ts:List Typ) (i:Nat) (k:Int) (hk:k=3\/k=7\/k=8\/k=9) (hi:i<ts.length) (hc:(nth ts i).cap.length<=1048576) {H:List AM.Obj} {o:Nat} (hH:H[o]? =some (.elems 14 (ts.map X1))):ACalls Tryz.prog 61 [.ep o i 0 ts.length,.p (.int .i64 k)] H fun y H'=>y= .tup []/\H'=H.set o (.elems 14 ((ts.set i (LP (nth ts i) k)).map X1)):=by
 have hS: ∀(us:List Typ),∀x∈us.map X1,x.cells.length=14:=fun us x hx=>by
  obtain ⟨t,_,rfl⟩:=XM.1 hx
  rfl
 have hlen:(ts.map X1).length=ts.length:=Zb
 have hg:=Zh hi
 have main: ∀(j:Nat) (v:PV),j<14->(X1 (LP (nth ts i) k)).cells=(X1 (nth ts i)).cells.set j v->(∀cs:List V,i*14+14<=cs.length->(∀n,∀v∈cs,refB n v=true)->cs[i*14+4]? =some (.p (.list (nth ts i).cap_c ((nth ts i).cap.map eI)))->ACalls Tryz.prog 61 [.ptr 0 (i*14),.p (.int .i64 k)] [.cells cs] fun y H'=>y= .tup []/\H'= [.cells (cs.set (i*14+j) (.p v))]) ->
   ACalls Tryz.prog 61 [.ep o i 0 ts.length,.p (.int .i64 k)] H fun y H'=>y= .tup []/\H'=H.set o (.elems 14 ((ts.set i (LP (nth ts i) k)).map X1)):=fun j v hj he h=>by
  rw [<- hlen];refine ACalls.atF (S:=14) (ps:= [.int .i64 k]) hH (hS _) (hS _) (fun sp=> ?_) Zb;have hfl:=Ae (hS ts);have h4:(VR (ts.map X1))[i*14+4]? =some (.list (nth ts i).cap_c ((nth ts i).cap.map eI)):=De (S:=14) (hS ts) i (X1 (nth ts i)) 4 _ (by grind) rfl;have h4l:=(ZQ.1 h4).1;refine (h _ (by grind) (fun n v hv=> ?_) ?_).mono ?_
  ·rcases Xg.1 hv with hv | hv
   ·obtain ⟨y,_,rfl⟩:=XM.1 hv
    rfl
   ·rw [List.eq_of_mem_replicate hv];rfl
  ·grind
  ·rintro y H' ⟨h1,rfl⟩;refine ⟨h1,List.replicate sp .junk,Zb,?_⟩;have hf:=Hp (S:=14) (x':=X1 (LP (nth ts i) k)) (v:=v) (j:=j) (xs:=ts.map X1) (i:=i) Za (hS ts) hj (by grind);rw [AL] at hf
   grind [UQ]
 rcases hk with rfl | rfl | rfl | rfl
 ·exact main 4 _ Za rfl fun cs h1 h2 h3=>bU cs _ _ _ h1 h2 h3 hc
 ·exact main 8 _ Za rfl fun cs h1 h2 _=>Gz cs _ 7 8 4096 Zb h1 h2
 ·exact main 9 _ Za rfl fun cs h1 h2 _=>Gz cs _ 8 9 4096 Zb h1 h2
 ·exact main 1 _ Za rfl fun cs h1 h2 _=>Gz cs _ 9 1 10 Zb h1 h2
structure ISz (x:Inst):Prop where
 plc:Plc x
 ord:x.orders.length<=1000
 typ0:0<x.types.length
 typ:x.types.length<=1000
 ap:x.apart.length<=1000
 be:x.before.length<=1000
theorem Ga {x:Inst} (h:ISz x):(Kl x 10).length<=1048576:=by
 have e:(Kl x 10).Perm (Lo x):=by
  refine (List.perm_ext_iff_of_nodup ?_ (F5 h.plc)).2 fun v=>by rw [Jl,M9 h.plc]
  exact (DZ x 10).imp fun {a b} hh e=>by grind [JC]
 rw [e.length_eq];have h1:=B9 x x.orders.length;have h2:=I7 (k:=x.types.length);have h3:=I4 x x.apart.length;have h4:=I6 x x.before.length;have:=h.ord;have:=h.typ;have:=h.ap;have:=h.be
 grind [Lo]
theorem O8 (x:Inst) (h:ISz x):PC 35 [.p (Zv x)] (.list false ((Kl x 10).map Yc)):=qU x h.plc h.ord ⟨h.typ0,h.typ⟩ h.ap h.be
theorem qR (x:Inst) (h:ISz x) (v:Itm):PC 22 [.p (Zv x),.p (Yc v)] (.bool (X5 x v)):=by
 refine Zd Tryz.func22 rfl ZhF ?_;simp (disch:=omega) only [Tryz.f22,go_sem,seval];refine Xn (Zc ?_);refine Zo (O8 x h) (Zc ?_);refine Zo (UN (Kl x 10) false v (Ga h)) (Zc ?_);simp [Jl]
theorem J3 (o:Ord) (k:Int) (hk:k=1\/k=2\/k=4\/k=10):PC 49 [.p (Yg o),.p (.int .i64 k)] (.bool (Cz o k)):=by
 refine Zd Tryz.func49 rfl Zh1 ?_;rcases hk with rfl | rfl | rfl | rfl
 ·simp (disch:=omega) only [Tryz.f49,Cz,go_sem,seval,↓reduceIte]
 ·simp (disch:=omega) only [Tryz.f49,Cz,go_sem,seval,↓reduceIte]
 ·simp (disch:=omega) only [Tryz.f49,Cz,go_sem,seval,↓reduceIte]
 ·simp (disch:=omega) only [Tryz.f49,Cz,go_sem,seval,↓reduceIte]
theorem Qf (x:Inst) (i:Int) (hl:x.orders.length<=1048576):PC 48 [.p (Zv x),.p (.int .i64 i)] (.bool (UL x i)):=by
 refine Zd Tryz.func48 rfl Zh0 ?_;simp (disch:=omega) only [Tryz.f48,go_sem,seval];refine gT ?_ ?_<;>intro h<;>simp (disch:=omega) only [Sh.out h,go_sem,seval,↓reduceIte]
 ·refine gT ?_ ?_<;>intro h2<;>simp (disch:=omega) only [Sh.out h2,go_sem,seval,↓reduceIte]
  ·simp [UL,h,h2]
  ·simp [UL,h2]
 ·simp [UL,h]
theorem lH (x:Inst) (h:ISz x) (v:Itm):PC 25 [.p (Zv x),.p (Yc v)] (.bool (X5 x v)):=by
 have s1:=h.ord;have s2:=h.typ;have s3:=h.ap;have s4:=h.be;refine Zd Tryz.func25 rfl ZhI ?_;obtain ⟨k,a⟩:=v
 have gO: ∀k:Int,(k=1\/k=2\/k=4\/k=10)->X5 x ⟨k,a⟩=(UL x a&&Cz (nth x.orders a.toNat) k):=fun k h=>by simp_all [X5]
 by_cases h1:k=1\/k=2\/k=4\/k=10
 ·rw [gO k h1];rcases h1 with rfl | rfl | rfl | rfl
  ·simp (disch:=omega) only [Tryz.f25,go_sem,seval];refine Xn (Zc ?_);refine Zo (Qf x a Za) (Zc ?_);refine gT ?_ ?_<;>intro h<;>simp (disch:=omega) only [Sh.out h,go_sem,seval,↓reduceIte]
   ·have h2:0<=a/\a<(x.orders.length:Int):=by simp_all [UL]
    refine Zc ?_;refine Zo (J3 (nth x.orders a.toNat) 1 Za) (Zc ?_);simp [h]
  ·simp (disch:=omega) only [Tryz.f25,go_sem,seval];refine Xn (Zc ?_);refine Zo (Qf x a Za) (Zc ?_);refine gT ?_ ?_<;>intro h<;>simp (disch:=omega) only [Sh.out h,go_sem,seval,↓reduceIte]
   ·have h2:0<=a/\a<(x.orders.length:Int):=by simp_all [UL]
    refine Zc ?_;refine Zo (J3 (nth x.orders a.toNat) 2 Za) (Zc ?_);simp [h]
  ·simp (disch:=omega) only [Tryz.f25,go_sem,seval];refine Xn (Zc ?_);refine Zo (Qf x a Za) (Zc ?_);refine gT ?_ ?_<;>intro h<;>simp (disch:=omega) only [Sh.out h,go_sem,seval,↓reduceIte]
   ·have h2:0<=a/\a<(x.orders.length:Int):=by simp_all [UL]
    refine Zc ?_;refine Zo (J3 (nth x.orders a.toNat) 4 Za) (Zc ?_);simp [h]
  ·simp (disch:=omega) only [Tryz.f25,go_sem,seval];refine Xn (Zc ?_);refine Zo (Qf x a Za) (Zc ?_);refine gT ?_ ?_<;>intro h<;>simp (disch:=omega) only [Sh.out h,go_sem,seval,↓reduceIte]
   ·have h2:0<=a/\a<(x.orders.length:Int):=by simp_all [UL]
    refine Zc ?_;refine Zo (J3 (nth x.orders a.toNat) 10 Za) (Zc ?_);simp [h]
 ·by_cases h2:k=3\/k=7\/k=8\/k=9
  ·rcases h2 with rfl | rfl | rfl | rfl
   ·simp (disch:=omega) only [Tryz.f25,go_sem,seval];refine gT ?_ ?_<;>intro hq<;>simp (disch:=omega) only [Sh.out hq,go_sem,seval,↓reduceIte]
    ·simp [X5,hq]
    ·simp [X5,hq]
   ·simp (disch:=omega) only [Tryz.f25,go_sem,seval];refine gT ?_ ?_<;>intro hq<;>simp (disch:=omega) only [Sh.out hq,go_sem,seval,↓reduceIte]
    ·simp [X5,hq]
    ·simp [X5,hq]
   ·simp (disch:=omega) only [Tryz.f25,go_sem,seval];refine gT ?_ ?_<;>intro hq<;>simp (disch:=omega) only [Sh.out hq,go_sem,seval,↓reduceIte]
    ·simp [X5,hq]
    ·simp [X5,hq]
   ·simp (disch:=omega) only [Tryz.f25,go_sem,seval];refine gT ?_ ?_<;>intro hq<;>simp (disch:=omega) only [Sh.out hq,go_sem,seval,↓reduceIte]
    ·simp [X5,hq]
    ·simp [X5,hq]
  ·by_cases h3:k=5
   ·subst h3;simp (disch:=omega) only [Tryz.f25,go_sem,seval];refine Xn (Zc ?_);refine gT ?_ ?_<;>intro hq<;>simp (disch:=omega) only [Sh.out hq,go_sem,seval,↓reduceIte]
    ·refine gT ?_ ?_<;>intro hq2<;>simp (disch:=omega) only [Sh.out hq2,go_sem,seval,↓reduceIte]
     ·refine Zo (Qf x (nth x.apart a.toNat).1 Za) (Zc ?_);refine gT ?_ ?_<;>intro hq3<;>simp (disch:=omega) only [Sh.out hq3,go_sem,seval,↓reduceIte]
      ·refine Zo (Qf x (nth x.apart a.toNat).2 Za) (Zc ?_)
       grind [X5]
      ·simp [X5,hq3]
     ·simp [X5,hq2]
    ·simp [X5,hq]
   ·by_cases h4:k=6
    ·subst h4;simp (disch:=omega) only [Tryz.f25,go_sem,seval];refine Xn (Zc ?_);refine gT ?_ ?_<;>intro hq<;>simp (disch:=omega) only [Sh.out hq,go_sem,seval,↓reduceIte]
     ·refine gT ?_ ?_<;>intro hq2<;>simp (disch:=omega) only [Sh.out hq2,go_sem,seval,↓reduceIte]
      ·refine Zo (Qf x (nth x.before a.toNat).2 Za) (Zc ?_)
       grind [X5]
      ·simp [X5,hq2]
     ·simp [X5,hq]
    ·have e1: ¬k=1:=Za
     have e2: ¬k=2:=Za
     have e3: ¬k=3:=Za
     have e4: ¬k=4:=Za
     have e7: ¬k=7:=Za
     have e8: ¬k=8:=Za
     have e9: ¬k=9:=Za
     have e10: ¬k=10:=Za
     simp (disch:=omega) only [Tryz.f25,X5,e1,e2,e3,e4,h3,h4,e7,e8,e9,e10,go_sem,seval,↓reduceIte]
theorem XR (l:List Itm) (c:Bool) (v:Itm) (hl:l.length<=1048576):PC 26 [.p (.list c (l.map Yc)),.p (Yc v)] (.int .i64 (LJ l v)):=by
 refine Zd Tryz.func26 rfl ZhJ ?_;simp (disch:=omega) only [Tryz.f26,go_sem,seval];refine Zl [0,3] (fun k:Nat=> [(5,.p (.int .i64 k))]) (fun _=> [.cells [.p (.int .i64 v.kind),.p (.int .i64 v.a)]]) (fun k=>k<=l.length/\ ∀j,j<k-> ¬v=nth l j) (fun k=>l.length-k) 0 Zb (Weak.mk ?_) ?_
 ·simp (disch:=omega) only [go_sem,seval,↓reduceIte]
 ·rintro k ⟨hk,hno⟩;refine Zc ?_;refine cD ?_ ?_<;>intro h<;>simp (disch:=omega) only [Sh.out h,go_sem,seval,↓reduceIte]
  ·have hk2:k<l.length:=Za
   refine Xn (Zc ?_);refine cD ?_ ?_<;>intro h2<;>simp (disch:=omega) only [Sh.out h2,go_sem,seval,↓reduceIte]
   ·grind [KA,PO]
   ·have: ¬v=nth l k:=by grind
    exact ⟨k+1,⟨Za,Zr.2 ⟨hno,this⟩⟩,Za,wk⟩
  grind [mK]
theorem SA {l:List Itm} {v:Itm} :LJ l v<0↔ ¬v∈l:=by rw [<- V6];omega
theorem Ge (l:List (Int×Int)) (w:List Itm) (kind:Int) (c d:Bool) (hl:l.length<=1048576) (hw:w.length<=1048576):PC 27 [.p (.list c (l.map eP)),.p (.list d (w.map Yc)),.p (.int .i64 kind)] (.list false ((Y0 l w kind l.length).map eP)):=by
 refine ACalls.frozen (S:=2) (n:=(Y0 l w kind l.length).length) Zb ?_
 suffices hh:ACalls Tryz.prog 27 [.p (.list c (l.map eP)),.p (.list d (w.map Yc)),.p (.int .i64 kind)] [] fun y H'=> ∃m:List (Int×Int),m=Y0 l w kind l.length/\y= .sl 0 0 m.length m.length/\H'= [.elems 2 (m.map eP)] by
  grind
 refine ZV [2] Tryz.func27 rfl ZhK ?_;simp (disch:=omega) only [Tryz.f27,go_sem,seval];refine Zp (Weak.ofNil 7 2 (by simp (disch:=omega) only [go_sem,seval]) Zb (Weak.refl _ _ _)) ?_;refine Zg [] _ _ _ _ (Zc ?_);refine Zl [0,1,2] (fun q:Nat×List (Int×Int)=> [(7,.sl 0 0 q.2.length q.2.length),(8,.p (.int .i64 q.1))]) (fun q=> [.elems 2 (q.2.map eP)]) (fun q=>q.1<=l.length/\q.2=Y0 l w kind q.1) (fun q=>l.length-q.1) (0,[]) ⟨Zb,by simp [Y0]⟩ (Weak.mk ?_) ?_
 ·simp (disch:=omega) only [go_sem,seval,↓reduceIte]
 ·rintro ⟨k,m⟩ ⟨hk,hm⟩;simp only at hk hm;have hml:=Dk l w kind k;rw [<- hm] at hml;have hs:=JM l w kind k;refine Zc ?_;refine cD ?_ ?_<;>intro h<;>simp (disch:=omega) only [Sh.out h,go_sem,seval,↓reduceIte]
  ·have hk2:k<l.length:=Za
   refine (XR w d ⟨kind,k⟩ hw).use (Zc ?_);refine cD ?_ ?_<;>intro h2<;>simp (disch:=omega) only [Sh.out h2,go_sem,seval,↓reduceIte]
   ·have h3: ¬(⟨kind,k⟩:Itm)∈w:=SA.1 h2;exact ⟨(k+1,m++ [nth l k]),⟨Za,by grind⟩,Za,wk⟩
   ·have h3:(⟨kind,k⟩:Itm)∈w:=by simp_all [SA]
    exact ⟨(k+1,m),⟨Za,by grind⟩,Za,wk⟩
  ·have hkl:k=l.length:=Za
   subst hkl;exact ⟨m,hm,0,by simp (disch:=omega) only [go_sem,seval]⟩
def VP (o:Ord) (at':Int) (l:List Itm):Ord:= { o with
 pick:= { o.pick with cls:=if (⟨1,at'⟩:Itm)∈l then 4096 else o.pick.cls }
 drp:= { o.drp with cls:=if (⟨2,at'⟩:Itm)∈l then 4096 else o.drp.cls }
 skills:=if (⟨4,at'⟩:Itm)∈l then 0 else o.skills
 penalty:=if (⟨10,at'⟩:Itm)∈l then 0 else o.penalty }
def W4 (t:Typ) (at':Int) (l:List Itm):Typ:= { t with
 cap_c:=if (⟨3,at'⟩:Itm)∈l then false else t.cap_c
 cap:=if (⟨3,at'⟩:Itm)∈l then List.replicate t.cap.length 1000 else t.cap
 cls:=if (⟨7,at'⟩:Itm)∈l then 4096 else t.cls
 drive:=if (⟨8,at'⟩:Itm)∈l then 4096 else t.drive
 count:=if (⟨9,at'⟩:Itm)∈l then 10 else t.count }
theorem kD (o a):VP o a []=o:=by simp [VP]
theorem mN (o a):W4 o a []=o:=by simp [W4]
theorem HJ (o a l) (v:Itm):VP o a (l++ [v])=if v.a=a then GZ (VP o a l) v.kind else VP o a l:=by
 obtain ⟨k,b⟩:=v
 by_cases h:b=a
 ·grind [VP,GZ]
 grind [VP]
theorem H7 (o a l) (v:Itm):W4 o a (l++ [v])=if v.a=a then LP (W4 o a l) v.kind else W4 o a l:=by
 obtain ⟨k,b⟩:=v
 by_cases h:b=a
 ·subst h
  grind [W4,LP]
 grind [W4]
def Xk (os:List Ord) (w:List Itm):List Ord:=(List.range os.length).map fun (i:Nat)=>VP (nth os i) i w
def Xm (ts:List Typ) (w:List Itm):List Typ:=(List.range ts.length).map fun (i:Nat)=>W4 (nth ts i) i w
theorem WO (os w):(Xk os w).length=os.length:=by simp [Xk]
theorem Vl (os w):(Xm os w).length=os.length:=by simp [Xm]
theorem A6 {α:Type} [Inhabited α] {f:Nat->α} {n i:Nat} (h:i<n):nth ((List.range n).map f) i=f i:=by
 grind [Zh]
theorem Z5 {os w i} (h:i<os.length):nth (Xk os w) i=VP (nth os i) i w:=A6 h
theorem Wg {os w i} (h:i<os.length):nth (Xm os w) i=W4 (nth os i) i w:=A6 h
theorem A4 {α:Type} [Inhabited α] (l:List α):(List.range l.length).map (fun i=>nth l i)=l:=by
 apply QY
 ·simp
 grind [Zh]
theorem aD (os):Xk os []=os:=by simp_all [Xk,kD,A4]
theorem bS (os):Xm os []=os:=by simp_all [Xm,mN,A4]
theorem Pl {o:Ord} {k:Int} (h:k=3\/k=7\/k=8\/k=9\/k=5\/k=6):GZ o k=o:=by
 unfold GZ
 grind
theorem PQ {o:Typ} {k:Int} (h:k=1\/k=2\/k=4\/k=10\/k=5\/k=6):LP o k=o:=by
 unfold LP
 grind
theorem AH {os:List Ord} {w:List Itm} {v:Itm} {i:Nat} (hi:i<os.length) (hv:v.a=(i:Int)):(Xk os w).set i (GZ (nth (Xk os w) i) v.kind)=Xk os (w++ [v]):=by
 rw [Z5 hi];apply QY
 ·simp [Xk]
 grind [Xk,HJ]
theorem AS {os:List Typ} {w:List Itm} {v:Itm} {i:Nat} (hi:i<os.length) (hv:v.a=(i:Int)):(Xm os w).set i (LP (nth (Xm os w) i) v.kind)=Xm os (w++ [v]):=by
 rw [Wg hi];apply QY
 ·simp [Xm]
 grind [Xm,H7]
theorem Ui {os:List Ord} {w:List Itm} {v:Itm} (h:v.kind=3\/v.kind=7\/v.kind=8\/v.kind=9\/v.kind=5\/v.kind=6):Xk os (w++ [v])=Xk os w:=by
 simp_all [Xk,HJ,Pl]
theorem Uo {os:List Typ} {w:List Itm} {v:Itm} (h:v.kind=1\/v.kind=2\/v.kind=4\/v.kind=10\/v.kind=5\/v.kind=6):Xm os (w++ [v])=Xm os w:=by
 simp_all [Xm,H7,PQ]
def Zn (x:Inst) (l:List Itm):Inst:=⟨x.net,false,Xm x.types l,false,Xk x.orders l,false,Y0 x.apart l 5 x.apart.length,false,Y0 x.before l 6 x.before.length⟩
def Wz (x:Inst) (l:List Itm) (i:Nat):Int:=if X5 x (nth l i)=true then (if nth l i∈l.take i then 6 else 0) else 7
def Vn (x:Inst) (l:List Itm):Int:=(((List.range l.length).map (Wz x l)).find? fun e=>decide (e≠0)).getD 0
theorem Ab {x:Inst} {l:List Itm} {k:Nat} (hk:k<l.length) (h0: ∀j,j<k->Wz x l j=0) (h:Wz x l k≠0):Vn x l=Wz x l k:=by
 have:((List.range l.length).map (Wz x l)).find? (fun e=>decide (e≠0))=some (Wz x l k):=by
  grind [Ex]
 grind [Vn]
theorem IR {x:Inst} {l:List Itm} (h: ∀j,j<l.length->Wz x l j=0):Vn x l=0:=by
 have:((List.range l.length).map (Wz x l)).find? (fun e=>decide (e≠0))=none:=by
  grind
 grind [Vn]
theorem VV {x l i} :Wz x l i=0↔X5 x (nth l i)=true/\nth l i ∉ l.take i:=by
 grind [Wz]
theorem Tx {x:Inst} {l:List Itm} :Vn x l=0↔ ∀j,j<l.length->Wz x l j=0:=by
 refine ⟨fun h j hj=> ?_,IR⟩
 induction j using Nat.strongRecOn with
 | ind j ih =>
  grind [Ab]
theorem Fs {x:Inst} {l:List Itm} :Vn x l=0↔(∀v∈l,X5 x v=true)/\l.Nodup:=by
 rw [Tx]
 constructor
 ·intro h;refine ⟨fun v hv=> ?_,?_⟩
  ·obtain ⟨j,hj,rfl⟩:=ZT.1 hv
   grind [VV,Zh]
  grind [KB,VV,Zh,ZT]
 grind [VV,ZT,KB,Zh]
def Km (x:Inst) (l:List Itm):Inst:=if Vn x l=0 then Zn x l else zeroI
theorem qL {n word sm l i} :Ry n word sm l i= []↔T5 n (nth l i)=true/\(l.take i).any (sm (nth l i))=false:=by
 grind [Ry]
theorem gM {n word sm l} :Jg n word sm l l.length= []↔l.length<=16/\(∀p∈l,T5 n p=true)/\l.Pairwise (fun p q=>sm q p=false):=by
 rw [Jg,VY,List.flatMap_eq_nil_iff];refine and_congr (by grind [GV]) ?_;simp only [ZL,qL]
 constructor
 ·intro h;refine ⟨fun p hp=> ?_,?_⟩
  ·obtain ⟨i,hi,rfl⟩:=ZT.1 hp
   grind [Zh]
  ·rw [KB]
   grind [Zh,ZT]
 ·rintro ⟨h1,h2⟩ i hi;refine ⟨h1 _ (Zt hi),?_⟩;rw [Va];intro p hp;obtain ⟨j,hj,rfl⟩:=ZT.1 hp
  grind [KB,Zh]
theorem IL {n:Int} {ap be:List (Int×Int)} :chk n ap be= []↔(ap.length<=16/\(∀p∈ap,T5 n p=true)/\ap.Pairwise (fun p q=>decide (q=p\/(q.1=p.2/\q.2=p.1))=false))/\(be.length<=16/\(∀p∈be,T5 n p=true)/\be.Pairwise (fun p q=>decide (q=p)=false)):=by
 grind [chk,VY,gM]
theorem Hw (l w kind): ∀k,k<=l.length->(Y0 l w kind k).Sublist (l.take k)
 | 0,_=>by simp [Y0]
 | k+1,h=>by
  rw [JM,X9 Za];refine (Hw l w kind k Za).append ?_
  split
  ·simp
  ·rw [Zh Za];exact List.Sublist.refl _
theorem Bl (l w kind):(Y0 l w kind l.length).Sublist l:=by
 have:=Hw l w kind l.length (ZD _)
 grind
theorem CK {n lo hi:Int} :rng n lo hi=true↔lo<=n/\n<=hi:=by simp [rng]
theorem Db {l:List Int} {d:Int} :Vt l d=true↔(1<=l.length/\l.length<=3)/\(l.length:Int)=d/\ ∀n∈l,0<=n/\n<=1000:=by
 simp only [Vt,ZF,Zs,Zz,CK]
 grind
theorem LO (t a l):(W4 t a l).cap.length=t.cap.length:=by grind [W4]
theorem PP {t a l d} (h:Vt t.cap d=true):Vt (W4 t a l).cap d=true:=by
 grind [Db,W4]
theorem JD (ts l):dimsOf (Xm ts l)=dimsOf ts:=by
 grind [dimsOf,Vl,Wg,LO]
theorem SF {n:Net} {ts:List Typ} {l:List Itm} {i:Nat} (hi:i<ts.length) (h:Un n ts i):Un n (Xm ts l) i:=by
 unfold Un at h ⊢;rw [Wg hi,JD]
 grind [PP,Wg,W4,CK]
theorem HZ {s:Stp} (h:stpOk s=true) (hp:0<=s.place):stpOk { s with cls:=4096 } =true:=by
 grind [bP]
theorem FF {x:Inst} {k a:Int} (hk:k=1\/k=2\/k=4\/k=10):X5 x ⟨k,a⟩=true↔UL x a=true/\Cz (nth x.orders a.toNat) k=true:=by
 simp_all [X5]
theorem nM {np:Nat} {d ty:Int} {os:List Ord} {l:List Itm} {i:Nat} (hi:i<os.length) (h:OrdOk np d ty os i) (h1:(⟨1,i⟩:Itm)∈l->0<=(nth os i).pick.place) (h2:(⟨2,i⟩:Itm)∈l->0<=(nth os i).drp.place):OrdOk np d ty (Xk os l) i:=by
 constructor
 ·rw [Z5 hi];exact h.name
 ·intro j hj;rw [Z5 hi,Z5 Za];exact h.twin j hj
 ·rw [Z5 hi];exact h.load
 ·rw [Z5 hi];exact h.pick
 ·rw [Z5 hi];exact h.drp
 ·rw [Z5 hi];exact h.one
 ·rw [Z5 hi];simp only [VP];split
  ·rename_i hm;exact HZ h.pstp (h1 hm)
  ·exact h.pstp
 ·rw [Z5 hi];simp only [VP];split
  ·rename_i hm;exact HZ h.dstp (h2 hm)
  ·exact h.dstp
 ·rw [Z5 hi];have:=h.skills;grind [VP]
 ·rw [Z5 hi];have:=h.arg;simp only [argOk,ZF,Zs,CK] at this ⊢;refine ⟨⟨?_,this.1.2⟩,this.2⟩
  grind [VP]
theorem V4 {x:Inst} {l:List Itm} (h:InstOk x) (hI: ∀v∈l,X5 x v=true):InstOk (Zn x l):=by
 have ht:=h.types;have ho:=h.orders;obtain ⟨⟨a1,a2,a3⟩,b1,b2,b3⟩:=IL.1 h.rules;refine ⟨h.net,⟨?_,fun i hi=> ?_⟩,⟨?_,fun i hi=> ?_⟩,?_⟩
 ·show rng (Xm x.types l).length 1 6=true
  rw [Vl];exact ht.1
 ·have hi2:i<x.types.length:=by grind [Zn,Vl]
  exact SF hi2 (ht.2 i hi2)
 ·show (Xk x.orders l).length<=10
  rw [WO];exact ho.1
 ·have hi2:i<x.orders.length:=by grind [Zn,WO]
  show OrdOk x.net.places.length (dimsOf (Xm x.types l)) (Xm x.types l).length (Xk x.orders l) i
  rw [JD,Vl];refine nM hi2 (ho.2 i hi2) (fun hm=> ?_) (fun hm=> ?_)
  ·grind [FF,Cz]
  grind [FF,Cz]
 ·show chk ((Xk x.orders l).length:Int) (Y0 x.apart l 5 x.apart.length) (Y0 x.before l 6 x.before.length)= []
  grind [WO,IL,Bl]
theorem JK {x:Inst} (h:InstOk x):ISz x:=by
 have hf:=XH h;have ht:=CK.1 h.types.1;obtain ⟨⟨a1,_,_⟩,b1,_,_⟩:=IL.1 h.rules;have:=h.orders.1;exact ⟨hf.plc,Za,Za,Za,Za,Za⟩
theorem FJ {x:Inst} (h:InstOk x): ∀t∈x.types,t.cap.length<=1048576:=fun t hm=>by
 obtain ⟨i,hi,rfl⟩:=ZT.1 hm;have:=h.types.2 i hi;have h5:=(Db.1 this.1.1.1.1.2).1
 grind [Zh]
theorem DI {P Q:Prop} (h:Q) (e:Q->P:=by intro h;simp (disch:=omega) only [Zj,zeroI,Zm,go_sem,seval];exact h):P:=e h
theorem Si (x:Inst) (hs:ISz x) (hcap: ∀t∈x.types,t.cap.length<=1048576) (l:List Itm) (c:Bool) (hl:l.length<=1048576):PT 34 [.p (Zv x),.p (.list c (l.map Yc))] [.p (Zv (Km x l)),.p (.int .i64 (Vn x l))]:=by
 have s1:=hs.ord;have s2:=hs.typ;have s3:=hs.ap;have s4:=hs.be;have hrl:=Ga hs;refine Zf [27] Tryz.func34 rfl ZhQ ?_;simp (disch:=omega) only [Tryz.f34,go_sem,seval];refine (O8 x hs).use (Zc ?_);have zI:Zv zeroI= .agg [.list true [],.list true [],.list true [],.list true [],.list true [],.list true []]:=rfl;refine Z2 [10] [1,2,4,6,13,14] (fun k:Nat=> [(15,.p (.int .i64 k))]) (fun _=> [Zj x,Zj zeroI]) (fun k=>k<=l.length/\ ∀j,j<k->Wz x l j=0) (fun k=>l.length-k) 0 Zb (Weak.mk ?_) ?_
 ·simp (disch:=omega) only [Zj,zeroI,Zm,go_sem,seval]
 ·rintro k ⟨hk,hno⟩;refine DI ?_;refine cD ?_ ?_<;>intro h<;>simp (disch:=omega) only [Sh.out h,go_sem,seval,↓reduceIte]
  ·have hk2:k<l.length:=Za
   refine (UN (Kl x 10) false (nth l k) hrl).use (Zc ?_);refine cD ?_ ?_<;>intro h2<;>simp (disch:=omega) only [Sh.out h2,go_sem,seval,↓reduceIte]
   ·have h3:X5 x (nth l k)=false:=by grind [Jl]
    have e0:Wz x l k=7:=by rw [Wz,h3];rfl
    have e:Vn x l=7:=by grind [Ab]
    have r:Km x l=zeroI:=by rw [Km,e];rfl
    simp only [e,r,zeroI,Zm];exact we
   ·have h3:X5 x (nth l k)=true:=by simp_all [Jl]
    refine Xn (Zc ?_);refine Zo (UN (l.take k) _ (nth l k) (by simp;omega)) (Zc ?_);refine ZO ?_ ?_<;>intro h4
    ·have e0:Wz x l k=6:=by simp_all [Wz]
     have e:Vn x l=6:=by grind [Ab]
     have r:Km x l=zeroI:=by rw [Km,e];rfl
     simp only [e,r,zeroI,Zm];exact we
    ·exact ⟨k+1,⟨Za,Zr.2 ⟨hno,VV.2 ⟨h3,h4⟩⟩⟩,Za,wk⟩
  ·have hkl:k=l.length:=Za
   subst hkl;have e:Vn x l=0:=IR hno
   have r:Km x l=Zn x l:=by rw [Km,if_pos e]
   rw [e,r];clear hk h;refine Ta [1,2,4] (fun _:Unit=> []) (fun _=> [.cells [.p (.list x.net.places_c (x.net.places.map eS)),.p (.list x.net.arcs_c (x.net.arcs.map VO)),.sl 2 0 x.types.length x.types.length,.sl 3 0 x.orders.length x.orders.length,.p (.list x.apart_c (x.apart.map eP)),.p (.list x.before_c (x.before.map eP))],Zj zeroI,.elems 14 (x.types.map X1),.elems 16 (x.orders.map Yg)]) (fun _=>True) ?_ ?_
   ·refine Ff (.cons 0 (.cons 1 (.cons 2 (.cons 3 (.cons 4 (.cons 5 (.cons 6 (.cons 7 (.cons 8 (.cons 9 .nil .nil) .nil) .nil) .nil) (.cons 6 (.cons 5 (.cons 7 (.cons 8 (.cons 9 .nil .nil) .nil) .nil) .nil) .nil)) .nil) .nil) (.cons 3 (.cons 2 (.cons 4 (.cons 5 (.cons 6 (.cons 7 (.cons 8 (.cons 9 .nil .nil) .nil) .nil) .nil) (.cons 6 (.cons 5 (.cons 7 (.cons 8 (.cons 9 .nil .nil) .nil) .nil) .nil) .nil)) .nil) (.cons 4 (.cons 2 (.cons 5 (.cons 6 (.cons 7 (.cons 8 (.cons 9 .nil .nil) .nil) .nil) .nil) (.cons 6 (.cons 5 (.cons 7 (.cons 8 (.cons 9 .nil .nil) .nil) .nil) .nil) .nil)) .nil) .nil)) .nil)) (.cons 3 (.cons 1 (.cons 2 (.cons 4 (.cons 5 (.cons 6 (.cons 7 (.cons 8 (.cons 9 .nil .nil) .nil) .nil) .nil) (.cons 6 (.cons 5 (.cons 7 (.cons 8 (.cons 9 .nil .nil) .nil) .nil) .nil) .nil)) .nil) (.cons 4 (.cons 2 (.cons 5 (.cons 6 (.cons 7 (.cons 8 (.cons 9 .nil .nil) .nil) .nil) .nil) (.cons 6 (.cons 5 (.cons 7 (.cons 8 (.cons 9 .nil .nil) .nil) .nil) .nil) .nil)) .nil) .nil)) (.cons 4 (.cons 1 (.cons 2 (.cons 5 (.cons 6 (.cons 7 (.cons 8 (.cons 9 .nil .nil) .nil) .nil) .nil) (.cons 6 (.cons 5 (.cons 7 (.cons 8 (.cons 9 .nil .nil) .nil) .nil) .nil) .nil)) .nil) .nil) .nil)) .nil)) (.cons 3 (.cons 0 (.cons 1 (.cons 2 (.cons 4 (.cons 5 (.cons 6 (.cons 7 (.cons 8 (.cons 9 .nil .nil) .nil) .nil) .nil) (.cons 6 (.cons 5 (.cons 7 (.cons 8 (.cons 9 .nil .nil) .nil) .nil) .nil) .nil)) .nil) (.cons 4 (.cons 2 (.cons 5 (.cons 6 (.cons 7 (.cons 8 (.cons 9 .nil .nil) .nil) .nil) .nil) (.cons 6 (.cons 5 (.cons 7 (.cons 8 (.cons 9 .nil .nil) .nil) .nil) .nil) .nil)) .nil) .nil)) (.cons 4 (.cons 1 (.cons 2 (.cons 5 (.cons 6 (.cons 7 (.cons 8 (.cons 9 .nil .nil) .nil) .nil) .nil) (.cons 6 (.cons 5 (.cons 7 (.cons 8 (.cons 9 .nil .nil) .nil) .nil) .nil) .nil)) .nil) .nil) .nil)) (.cons 4 (.cons 0 (.cons 1 (.cons 2 (.cons 5 (.cons 6 (.cons 7 (.cons 8 (.cons 9 .nil .nil) .nil) .nil) .nil) (.cons 6 (.cons 5 (.cons 7 (.cons 8 (.cons 9 .nil .nil) .nil) .nil) .nil) .nil)) .nil) .nil) .nil) .nil)) .nil)) mixed Ze ?_
    have cT:ACalls Tryz.prog 58 [.p (.list x.types_c (x.types.map X1))] [] fun y H'=>y= .sl 0 0 x.types.length x.types.length/\H'= [.elems 14 (x.types.map X1)]:=GP x.types x.types_c Za;have cO:ACalls Tryz.prog 59 [.p (.list x.orders_c (x.orders.map Yg))] [] fun y H'=>y= .sl 0 0 x.orders.length x.orders.length/\H'= [.elems 16 (x.orders.map Yg)]:=GO x.orders x.orders_c Za
    repeat' first
     | refine C5 ?_ ?_
     | (refine cT.useF ?_;simp (disch:=omega) only [go_sem,seval,↓reduceIte])
     | (refine cO.useF ?_;simp (disch:=omega) only [go_sem,seval,↓reduceIte])
     | exact ⟨(),Weak.mk (by simp (disch:=omega) only [Zj,zeroI,Zm,go_sem,seval])⟩
     | simp (disch:=omega) only [go_sem,seval]
   ·rintro _ _;refine DI ?_;have lT:=Vl x.types;have lO:=WO x.orders
    have hcap2: ∀k i,i<x.types.length->(nth (Xm x.types (l.take k)) i).cap.length<=1048576:=fun k i hi=>by
     grind [Wg,Zt,W4]
    refine Z2 [26,27] [1,2,4,42,43] (fun k:Nat=> [(44,.p (.int .i64 k))]) (fun k=> [.cells [.p (.list x.net.places_c (x.net.places.map eS)),.p (.list x.net.arcs_c (x.net.arcs.map VO)),.sl 2 0 x.types.length x.types.length,.sl 3 0 x.orders.length x.orders.length,.p (.list x.apart_c (x.apart.map eP)),.p (.list x.before_c (x.before.map eP))],Zj zeroI,.elems 14 ((Xm x.types (l.take k)).map X1),.elems 16 ((Xk x.orders (l.take k)).map Yg)]) (fun k=>k<=l.length) (fun k=>l.length-k) 0 Zb (Weak.mk ?_) ?_
    ·simp (disch:=omega) only [Zj,zeroI,Zm,QZ,bS,aD,go_sem,seval]
    ·rintro k hk;refine DI ?_;have hhas:k<l.length->X5 x (nth l k)=true:=fun h=>(VV.1 (hno k h)).1
     have hsn:k<l.length->l.take (k+1)=l.take k++ [nth l k]:=fun h=>by rw [X9 h,Zh h]
     refine cD ?_ ?_<;>intro h<;>simp (disch:=omega) only [Sh.out h,go_sem,seval,↓reduceIte]
     ·have hk2:k<l.length:=Za
      have hhas:=hhas hk2;have hsn:=hsn hk2
      have hgo: ∀kd a,nth l k=⟨kd,a⟩->(kd=1\/kd=2\/kd=4\/kd=10)/\(0<=a/\a<(x.orders.length:Int))\/(kd=3\/kd=7\/kd=8\/kd=9)/\(0<=a/\a<(x.types.length:Int))\/kd=5\/kd=6:=fun kd a e=>by
       rw [e] at hhas;unfold X5 at hhas;simp only at hhas
       split at hhas
       ·simp_all [UL]
       grind
      generalize hv:nth l k=v at hgo hsn ⊢;obtain ⟨kd,a⟩:=v;rcases hgo kd a rfl with ⟨hkd,ha⟩ | ⟨hkd,ha⟩ | hkd
      ·rcases hkd with rfl | rfl | rfl | rfl
       ·have hmO:((Xk x.orders (l.take k)).map Yg).length=x.orders.length:=by grind
        have c9:=AG (Xk x.orders (l.take k)) a.toNat 1 (by grind);rw [AH Za (v:=⟨1,a⟩) (by grind),<- hsn,lO,<- hmO] at c9
        have eT:Xm x.types (l.take (k+1))=Xm x.types (l.take k):=by grind [Uo]
        refine Zc ?_;refine ZA 7 mixed Ze Ze (Zc ?_);rw [<- hmO];refine (ACalls.atE (ps:= [.int .i64 1]) (o:=3) rfl c9 (by simp [lO])).useH (KW ?_);refine ⟨k+1,Za,Za,Weak.mk ?_⟩
        try simp only [lO]
        simp (disch:=omega) only [eT,go_sem,seval]
       ·have hmO:((Xk x.orders (l.take k)).map Yg).length=x.orders.length:=by grind
        have c9:=AG (Xk x.orders (l.take k)) a.toNat 2 (by grind);rw [AH Za (v:=⟨2,a⟩) (by grind),<- hsn,lO,<- hmO] at c9
        have eT:Xm x.types (l.take (k+1))=Xm x.types (l.take k):=by grind [Uo]
        refine Zc ?_;refine ZA 7 mixed Ze Ze (Zc ?_);rw [<- hmO];refine (ACalls.atE (ps:= [.int .i64 2]) (o:=3) rfl c9 (by simp [lO])).useH (KW ?_);refine ⟨k+1,Za,Za,Weak.mk ?_⟩
        try simp only [lO]
        simp (disch:=omega) only [eT,go_sem,seval]
       ·have hmO:((Xk x.orders (l.take k)).map Yg).length=x.orders.length:=by grind
        have c9:=AG (Xk x.orders (l.take k)) a.toNat 4 (by grind);rw [AH Za (v:=⟨4,a⟩) (by grind),<- hsn,lO,<- hmO] at c9
        have eT:Xm x.types (l.take (k+1))=Xm x.types (l.take k):=by grind [Uo]
        refine Zc ?_;refine ZA 7 mixed Ze Ze (Zc ?_);rw [<- hmO];refine (ACalls.atE (ps:= [.int .i64 4]) (o:=3) rfl c9 (by simp [lO])).useH (KW ?_);refine ⟨k+1,Za,Za,Weak.mk ?_⟩
        try simp only [lO]
        simp (disch:=omega) only [eT,go_sem,seval]
       ·have hmO:((Xk x.orders (l.take k)).map Yg).length=x.orders.length:=by grind
        have c9:=AG (Xk x.orders (l.take k)) a.toNat 10 (by grind);rw [AH Za (v:=⟨10,a⟩) (by grind),<- hsn,lO,<- hmO] at c9
        have eT:Xm x.types (l.take (k+1))=Xm x.types (l.take k):=by grind [Uo]
        refine Zc ?_;refine ZA 7 mixed Ze Ze (Zc ?_);rw [<- hmO];refine (ACalls.atE (ps:= [.int .i64 10]) (o:=3) rfl c9 (by simp [lO])).useH (KW ?_);refine ⟨k+1,Za,Za,Weak.mk ?_⟩
        try simp only [lO]
        simp (disch:=omega) only [eT,go_sem,seval]
      ·rcases hkd with rfl | rfl | rfl | rfl
       ·have hmT:((Xm x.types (l.take k)).map X1).length=x.types.length:=by grind
        have c9:=fun (H:List AM.Obj) (hH:H[2]? =some (.elems 14 ((Xm x.types (l.take k)).map X1)))=>QH (Xm x.types (l.take k)) a.toNat 3 Zb (by grind) (hcap2 k a.toNat Za) hH;rw [AS Za (v:=⟨3,a⟩) (by grind),<- hsn,lT,<- hmT] at c9
        have eO:Xk x.orders (l.take (k+1))=Xk x.orders (l.take k):=by grind [Ui]
        refine Zc ?_;refine ZA 7 mixed Ze Ze (Zc ?_);rw [<- hmT];refine (c9 _ rfl).useH (KW ?_);refine ⟨k+1,Za,Za,Weak.mk ?_⟩
        try simp only [lT]
        simp (disch:=omega) only [eO,go_sem,seval]
       ·have hmT:((Xm x.types (l.take k)).map X1).length=x.types.length:=by grind
        have c9:=fun (H:List AM.Obj) (hH:H[2]? =some (.elems 14 ((Xm x.types (l.take k)).map X1)))=>QH (Xm x.types (l.take k)) a.toNat 7 Zb (by grind) (hcap2 k a.toNat Za) hH;rw [AS Za (v:=⟨7,a⟩) (by grind),<- hsn,lT,<- hmT] at c9
        have eO:Xk x.orders (l.take (k+1))=Xk x.orders (l.take k):=by grind [Ui]
        refine Zc ?_;refine ZA 7 mixed Ze Ze (Zc ?_);rw [<- hmT];refine (c9 _ rfl).useH (KW ?_);refine ⟨k+1,Za,Za,Weak.mk ?_⟩
        try simp only [lT]
        simp (disch:=omega) only [eO,go_sem,seval]
       ·have hmT:((Xm x.types (l.take k)).map X1).length=x.types.length:=by grind
        have c9:=fun (H:List AM.Obj) (hH:H[2]? =some (.elems 14 ((Xm x.types (l.take k)).map X1)))=>QH (Xm x.types (l.take k)) a.toNat 8 Zb (by grind) (hcap2 k a.toNat Za) hH;rw [AS Za (v:=⟨8,a⟩) (by grind),<- hsn,lT,<- hmT] at c9
        have eO:Xk x.orders (l.take (k+1))=Xk x.orders (l.take k):=by grind [Ui]
        refine Zc ?_;refine ZA 7 mixed Ze Ze (Zc ?_);rw [<- hmT];refine (c9 _ rfl).useH (KW ?_);refine ⟨k+1,Za,Za,Weak.mk ?_⟩
        try simp only [lT]
        simp (disch:=omega) only [eO,go_sem,seval]
       ·have hmT:((Xm x.types (l.take k)).map X1).length=x.types.length:=by grind
        have c9:=fun (H:List AM.Obj) (hH:H[2]? =some (.elems 14 ((Xm x.types (l.take k)).map X1)))=>QH (Xm x.types (l.take k)) a.toNat 9 Zb (by grind) (hcap2 k a.toNat Za) hH;rw [AS Za (v:=⟨9,a⟩) (by grind),<- hsn,lT,<- hmT] at c9
        have eO:Xk x.orders (l.take (k+1))=Xk x.orders (l.take k):=by grind [Ui]
        refine Zc ?_;refine ZA 7 mixed Ze Ze (Zc ?_);rw [<- hmT];refine (c9 _ rfl).useH (KW ?_);refine ⟨k+1,Za,Za,Weak.mk ?_⟩
        try simp only [lT]
        simp (disch:=omega) only [eO,go_sem,seval]
      ·have eT:Xm x.types (l.take (k+1))=Xm x.types (l.take k):=by grind [Uo]
       have eO:Xk x.orders (l.take (k+1))=Xk x.orders (l.take k):=by grind [Ui]
       rcases hkd with rfl | rfl
       ·simp (disch:=omega) only [Zm,go_sem,seval];exact ⟨k+1,Za,Za,Weak.mk (by simp (disch:=omega) only [eT,eO,go_sem,seval])⟩
       ·simp (disch:=omega) only [Zm,go_sem,seval];exact ⟨k+1,Za,Za,Weak.mk (by simp (disch:=omega) only [eT,eO,go_sem,seval])⟩
     ·have hkl:k=l.length:=Za
      subst hkl;rw [YT];have cA:=HM x.apart l 5 x.apart_c c Za hl;have cB:=HM x.before l 6 x.before_c c Za hl;refine ZA 9 mixed Ze Ze (Zc ?_);refine Zo (cA) (Zc ?_);refine Zo (cB) (Zc ?_);rw [<- lT l,<- lO l];refine Zp (Weak.fz (o:=2) (by rfl)) ?_;refine Zp (Weak.fz (o:=3) (by rfl)) (Zg [] _ _ _ _ (UH ?_));exact we (by simp (disch:=omega) only [Zn,go_sem,seval])
theorem Ls (o:Ord) (a:Int) (w:List Itm) (d:Bool) (hw:w.length<=1048576):PC 28 [.p (Yg o),.p (.int .i64 a),.p (.list d (w.map Yc))] (Yg (VP o a w)):=by
 refine Zd Tryz.func28 rfl ZhL ?_;have n1:(0<=LJ w ⟨1,a⟩)=((⟨1,a⟩:Itm)∈w):=propext V6;have n2:(0<=LJ w ⟨2,a⟩)=((⟨2,a⟩:Itm)∈w):=propext V6;have n4:(0<=LJ w ⟨4,a⟩)=((⟨4,a⟩:Itm)∈w):=propext V6;have n10:(0<=LJ w ⟨10,a⟩)=((⟨10,a⟩:Itm)∈w):=propext V6
 by_cases h1:(⟨1,a⟩:Itm)∈w<;>by_cases h2:(⟨2,a⟩:Itm)∈w<;>by_cases h4:(⟨4,a⟩:Itm)∈w<;>by_cases h10:(⟨10,a⟩:Itm)∈w
 all_goals
  simp (disch:=omega) only [Tryz.f28,go_sem,seval,↓reduceIte];refine (XR w d ⟨1,a⟩ hw).use ?_;simp (disch:=omega) only [n1,h1,go_sem,seval,↓reduceIte];refine (XR w d ⟨2,a⟩ hw).use ?_;simp (disch:=omega) only [n2,h2,go_sem,seval,↓reduceIte];refine (XR w d ⟨4,a⟩ hw).use ?_;simp (disch:=omega) only [n4,h4,go_sem,seval,↓reduceIte];refine (XR w d ⟨10,a⟩ hw).use ?_;simp (disch:=omega) only [n10,h10,VP,h1,h2,h4,go_sem,seval,↓reduceIte]
def mZ : Typ:=⟨[],0,0,0,true,[],0,0,0,0,0,0,0,0,0⟩
theorem Nx (t:Typ) (a:Int) (w:List Itm) (d:Bool) (hw:w.length<=1048576) (hc:t.cap.length<=1048576):PC 29 [.p (X1 t),.p (.int .i64 a),.p (.list d (w.map Yc))] (X1 (W4 t a w)):=by
 refine UJ [3,8] Tryz.func29 rfl ZhM ?_;have n3:(0<=LJ w ⟨3,a⟩)=((⟨3,a⟩:Itm)∈w):=propext V6;have n7:(0<=LJ w ⟨7,a⟩)=((⟨7,a⟩:Itm)∈w):=propext V6;have n8:(0<=LJ w ⟨8,a⟩)=((⟨8,a⟩:Itm)∈w):=propext V6;have n9:(0<=LJ w ⟨9,a⟩)=((⟨9,a⟩:Itm)∈w):=propext V6
 by_cases h3:(⟨3,a⟩:Itm)∈w
 ·simp (disch:=omega) only [Tryz.f29,go_sem,seval];refine (XR w d ⟨3,a⟩ hw).use ?_;simp (disch:=omega) only [n3,h3,go_sem,seval];refine Zp (Weak.ofNil 7 1 (by simp (disch:=omega) only [go_sem,seval]) Zb (Weak.refl _ _ _)) ?_;refine Zg [] _ _ _ _ (Zc ?_);refine Z2 [] [1,2,3,6] (fun k:Nat=> [(7,.sl 2 0 (List.replicate k (1000:Int)).length (List.replicate k (1000:Int)).length),(8,.p (.int .i64 k))]) (fun k=> [Ye t,Ye mZ,.elems 1 ((List.replicate k (1000:Int)).map eI)]) (fun k=>k<=t.cap.length) (fun k=>t.cap.length-k) 0 Zb (Weak.mk ?_) ?_
  ·simp (disch:=omega) only [Ye,mZ,go_sem,seval]
  ·intro k hk
   have hlr:(List.replicate k (1000:Int)).length=k:=Zb
   have hsn:List.replicate (k+1) (1000:Int)=List.replicate k (1000:Int)++ [1000]:=by rw [EE]
   generalize hm:List.replicate k (1000:Int)=m at hlr hsn ⊢;simp (disch:=omega) only [Ye,mZ,go_sem,seval];refine ZO ?_ ?_<;>intro h
   ·exact ⟨k+1,Za,Za,Weak.mk (by rw [hsn];simp (disch:=omega) only [go_sem,seval])⟩
   ·have hk2:k=t.cap.length:=Za
    subst hk2;subst hm;refine Zp (Weak.fz (o:=2) (by rfl)) (Zg [] _ _ _ _ (UH ?_))
    by_cases h7:(⟨7,a⟩:Itm)∈w<;>by_cases h8:(⟨8,a⟩:Itm)∈w<;>by_cases h9:(⟨9,a⟩:Itm)∈w
    all_goals
     refine (XR w d ⟨7,a⟩ hw).use ?_;simp (disch:=omega) only [n7,h7,go_sem,seval,↓reduceIte];refine (XR w d ⟨8,a⟩ hw).use ?_;simp (disch:=omega) only [n8,h8,go_sem,seval,↓reduceIte];refine (XR w d ⟨9,a⟩ hw).use ?_;simp (disch:=omega) only [n9,h9,W4,h3,h7,h8,go_sem,seval,↓reduceIte]
 ·simp (disch:=omega) only [Tryz.f29,go_sem,seval];refine (XR w d ⟨3,a⟩ hw).use ?_;simp (disch:=omega) only [n3,h3,go_sem,seval];refine Zg [] _ _ _ _ (Zc ?_)
  by_cases h7:(⟨7,a⟩:Itm)∈w<;>by_cases h8:(⟨8,a⟩:Itm)∈w<;>by_cases h9:(⟨9,a⟩:Itm)∈w
  all_goals
   refine (XR w d ⟨7,a⟩ hw).use ?_;simp (disch:=omega) only [n7,h7,go_sem,seval,↓reduceIte];refine (XR w d ⟨8,a⟩ hw).use ?_;simp (disch:=omega) only [n8,h8,go_sem,seval,↓reduceIte];refine (XR w d ⟨9,a⟩ hw).use ?_;simp (disch:=omega) only [n9,h9,W4,h3,h7,h8,go_sem,seval,↓reduceIte]
theorem NW {l:List Itm} {k:Nat} (hk:k<l.length):LJ l (nth l k)=(k:Int)↔nth l k ∉ l.take k:=by
 constructor
 ·grind [ZT,LJ,Ut]
 ·intro h;refine PO hk rfl fun j hj e=>h ?_
  grind [Zh,ZT]
theorem LA (x:Inst) (hs:ISz x) (hcap: ∀t∈x.types,t.cap.length<=1048576) (l:List Itm) (c:Bool) (hl:l.length<=1048576):PT 11 [.p (Zv x),.p (.list c (l.map Yc))] [.p (Zv (Km x l)),.p (.int .i64 (Vn x l))]:=by
 have s1:=hs.ord;have s2:=hs.typ;have s3:=hs.ap;have s4:=hs.be;refine Zf [9,13,17] Tryz.func11 rfl Zhy ?_;simp (disch:=omega) only [Tryz.f11,go_sem,seval];have zI:Zv zeroI= .agg [.list true [],.list true [],.list true [],.list true [],.list true [],.list true []]:=rfl;refine Zl [1,2,4] (fun k:Nat=> [(6,.p (.int .i64 k))]) (fun _=> [Zj x,Zj zeroI]) (fun k=>k<=l.length/\ ∀j,j<k->Wz x l j=0) (fun k=>l.length-k) 0 Zb (Weak.mk ?_) ?_
 ·simp (disch:=omega) only [Zj,zeroI,Zm,go_sem,seval]
 ·rintro k ⟨hk,hno⟩;refine DI ?_;refine cD ?_ ?_<;>intro h<;>simp (disch:=omega) only [Sh.out h,go_sem,seval,↓reduceIte]
  ·have hk2:k<l.length:=Za
   refine Xn (Zc ?_);refine Zo (lH x hs (nth l k)) (Zc ?_);refine cD ?_ ?_<;>intro h2<;>simp (disch:=omega) only [Sh.out h2,go_sem,seval,↓reduceIte]
   ·have h3:X5 x (nth l k)=false:=by grind
    have e0:Wz x l k=7:=by rw [Wz,h3];rfl
    have e:Vn x l=7:=by grind [Ab]
    have r:Km x l=zeroI:=by rw [Km,e];rfl
    simp only [e,r,zeroI,Zm];exact we
   ·have h3:X5 x (nth l k)=true:=by grind
    refine (XR l c (nth l k) hl).use (Zc ?_);refine ZO ?_ ?_<;>intro h4
    ·have h5:nth l k∈l.take k:=JT fun h=>h4 ((NW hk2).2 h)
     have e0:Wz x l k=6:=by simp_all [Wz]
     have e:Vn x l=6:=by grind [Ab]
     have r:Km x l=zeroI:=by rw [Km,e];rfl
     simp only [e,r,zeroI,Zm];exact we
    ·have h5:nth l k ∉ l.take k:=(NW hk2).1 (Z4.1 h4);exact ⟨k+1,⟨Za,Zr.2 ⟨hno,VV.2 ⟨h3,h5⟩⟩⟩,Za,wk⟩
  ·have hkl:k=l.length:=Za
   subst hkl;have e:Vn x l=0:=IR hno
   have r:Km x l=Zn x l:=by rw [Km,if_pos e]
   rw [e,r];clear hk h;refine Oy 11 12 _ [.cells [.p (.list true []),.p (.list true []),.p (.list true []),.p (.list true []),.p (.list true []),.p (.list true [])]] (.ptr 2 0) mixed Ze Ze (by decide) rfl rfl Zb (fun fr'=>by simp (disch:=omega) only [go_sem,seval]) (Zc ?_);refine Zo (Ge x.apart l 5 x.apart_c c Za hl) (Zc ?_);refine Zo (Ge x.before l 6 x.before_c c Za hl) (Zc ?_);refine Zp (Weak.nilC (o:=2) (j:=3) 16 rfl rfl Zb) ?_;refine Zg [13,17] _ _ _ _ ?_
   simp (disch:=omega) only [Z8,ZZ,ZK,Zy,go_sem,seval];obtain ⟨os,hos⟩: ∃os,os=Xk x.orders l:=⟨_,rfl⟩
   have hol:os.length=x.orders.length:=by rw [hos,WO]
   refine Z2 [] [1,2,4,7] (fun q:Nat×List Ord=> [(8,.p (.int .i64 q.1))]) (fun q=> [Zj x,Zj zeroI,.cells [.p (.list x.net.places_c (x.net.places.map eS)),.p (.list x.net.arcs_c (x.net.arcs.map VO)),.p (.list true []),.sl 3 0 q.2.length q.2.length,.p (.list false ((Y0 x.apart l 5 x.apart.length).map eP)),.p (.list false ((Y0 x.before l 6 x.before.length).map eP))],.elems 16 (q.2.map Yg)]) (fun q=>q.1<=x.orders.length/\q.2=os.take q.1) (fun q=>x.orders.length-q.1) (0,[]) ⟨Zb,Zb⟩ (Weak.mk ?_) ?_
   ·simp (disch:=omega) only [Zj,zeroI,Zm,go_sem,seval]
   ·rintro ⟨k,m⟩ ⟨hk,hm⟩;simp only at hk hm
    have hml:m.length=k:=by grind
    refine DI ?_;refine cD ?_ ?_<;>intro h<;>simp (disch:=omega) only [Sh.out h,go_sem,seval,↓reduceIte]
    ·have hk2:k<x.orders.length:=Za
     have htk:os.take (k+1)=os.take k++ [VP (nth x.orders k) k l]:=by
      rw [X9 Za]
      congr 2
      rw [<- Zh Za,hos,Z5 hk2]
     refine ZA 11 mixed Ze Ze (Zc ?_);refine Zo (Ls (nth x.orders k) k l c hl) (Zc ?_);exact ⟨(k+1,m++ [VP (nth x.orders k) k l]),⟨Za,by grind⟩,Za,Weak.mk (by simp (disch:=omega) only [Zm,go_sem,seval])⟩
    ·have hkl:k=x.orders.length:=Za
     have hmo:m=os:=by grind
     subst hmo;clear hm hk h;refine Zp (Weak.nilC (o:=2) (j:=2) 14 rfl rfl Zb) ?_;refine Zg [17] _ _ _ _ ?_;simp (disch:=omega) only [Z8,ZZ,ZK,Zy,go_sem,seval];obtain ⟨ts,hts⟩: ∃ts,ts=Xm x.types l:=⟨_,rfl⟩
     have htl:ts.length=x.types.length:=by rw [hts,Vl]
     refine Z2 [] [1,2,4,7] (fun q:Nat×List Typ=> [(9,.p (.int .i64 q.1))]) (fun q=> [Zj x,Zj zeroI,.cells [.p (.list x.net.places_c (x.net.places.map eS)),.p (.list x.net.arcs_c (x.net.arcs.map VO)),.sl 4 0 q.2.length q.2.length,.sl 3 0 m.length m.length,.p (.list false ((Y0 x.apart l 5 x.apart.length).map eP)),.p (.list false ((Y0 x.before l 6 x.before.length).map eP))],.elems 16 (m.map Yg),.elems 14 (q.2.map X1)]) (fun q=>q.1<=x.types.length/\q.2=ts.take q.1) (fun q=>x.types.length-q.1) (0,[]) ⟨Zb,Zb⟩ (Weak.mk ?_) ?_
     ·simp (disch:=omega) only [Zj,zeroI,Zm,go_sem,seval]
     ·rintro ⟨i,n⟩ ⟨hi,hn⟩;simp only at hi hn
      have hnl:n.length=i:=by grind
      refine DI ?_;refine cD ?_ ?_<;>intro h<;>simp (disch:=omega) only [Sh.out h,go_sem,seval,↓reduceIte]
      ·have hi2:i<x.types.length:=Za
       have htk:ts.take (i+1)=ts.take i++ [W4 (nth x.types i) i l]:=by
        rw [X9 Za]
        congr 2
        rw [<- Zh Za,hts,Wg hi2]
       refine ZA 11 mixed Ze Ze (Zc ?_);refine Zo (Nx (nth x.types i) i l c hl (hcap _ (Zt hi2))) (Zc ?_);exact ⟨(i+1,n++ [W4 (nth x.types i) i l]),⟨Za,by grind⟩,Za,Weak.mk (by simp (disch:=omega) only [Zm,go_sem,seval])⟩
      ·have hin:i=x.types.length:=Za
       have hnt:n=ts:=by grind
       subst hnt;clear hn hi h;refine Zp (Weak.fz (o:=3) (by rfl)) ?_;refine Zp (Weak.fz (o:=4) (by rfl)) (Zg [] _ _ _ _ (UH ?_));exact we (by simp (disch:=omega) only [Zn,hos,hts,go_sem,seval])
theorem jR {α:Type} [Inhabited α] {l:List α} {i:Nat} (h: ¬i<l.length):nth l i=default:=by grind [nth]
theorem Zc5 {os:List Ord} {l:List Itm} (i:Nat):ZU (Xk os l) i=ZU os i:=by
 unfold ZU
 by_cases h:i<os.length
 ·rw [Z5 h];rfl
 grind [jR,WO]
theorem NJ {x:Inst} {l:List Itm} {v:List Vis} (h:Xf x v=0):Xf (Zn x l) v=0:=by
 have hsub1:=Bl x.apart l 5;have hsub2:=Bl x.before l 6
 have e1:v.any (WX (Zn x l))=v.any (WX x):=by
  congr 1;funext w;simp [WX,Zn,WO]
 unfold Xf at h ⊢;rw [e1]
 split at h
 ·simp at h
 ·rename_i c1;rw [if_neg c1]
  have hin: ∀w∈v,w.order.toNat<x.orders.length:=fun w hw=>by
   have h5: ¬(v.any (WX x))=true:=fun e=>c1 (.inr e)
   have h6:WX x w=false:=by
    cases hb:WX x w with
    | false=>rfl
    | true=>exact absurd (WD.2 ⟨w,hw,hb⟩) h5
   simp [WX] at h6;omega
  have e2:(v.any fun w=>(nth (Zn x l).orders w.order.toNat).off)=v.any fun w=>(nth x.orders w.order.toNat).off:=by
   rw [Wm,WD,WD]
   constructor
   ·rintro ⟨w,hw,h⟩;exact ⟨w,hw,by rw [show (Zn x l).orders=Xk x.orders l from rfl,Z5 (hin w hw)] at h;exact h⟩
   ·rintro ⟨w,hw,h⟩;exact ⟨w,hw,by rw [show (Zn x l).orders=Xk x.orders l from rfl,Z5 (hin w hw)];exact h⟩
  rw [e2]
  split at h
  ·simp at h
  ·rename_i c2;rw [if_neg c2]
   split at h
   ·simp at h
   ·rename_i c3;rw [if_neg c3]
    have e3:v.all (pairB (Zn x l).orders v)=v.all (pairB x.orders v):=by
     congr 1;funext w;simp only [pairB];rw [show (Zn x l).orders=Xk x.orders l from rfl,Zc5]
    rw [e3]
    split at h
    ·simp at h
    ·rename_i c4;rw [if_neg c4]
     split at h
     ·simp at h
     ·rename_i c5
      have c5': ¬((Zn x l).apart.any fun p=>hasO v p.1&&hasO v p.2)=true:=fun hh=>by
       obtain ⟨p,hp,hb⟩:=WD.1 hh;exact c5 (WD.2 ⟨p,hsub1.subset hp,hb⟩)
      rw [if_neg c5']
      split at h
      ·simp at h
      ·rename_i c6;rw [if_neg];intro hh;refine c6 ?_;obtain ⟨p,hp,hb⟩:=WD.1 hh;exact WD.2 ⟨p,hsub2.subset hp,hb⟩
structure WkT (t t':Typ) (sp sp':List Stp):Prop where
 len:sp'.length=sp.length
 cls:t.cls<=t'.cls
 drv:t.drive<=t'.drive
 rst:t'.rest=t.rest
 src:t'.src=t.src
 dst:t'.dst=t.dst
 prf:t'.prof=t.prof
 opn:t'.opn=t.opn
 stp: ∀k,k<sp.length-> ∃c,(nth sp k).cls<=c/\nth sp' k= { nth sp k with cls:=c }
theorem T4 {x y:Inst} {t t' sp sp' k L b} (hn:y.net=x.net) (h:WkT t t' sp sp') (hk:k<=sp.length) (he:(nxtF x t sp k L b).2=0):nxtF y t' sp' k L b=nxtF x t sp k L b:=by
 have hplc: ∀k,k<=sp.length->V2 t' sp' k=V2 t sp k:=fun k hk=>by
  unfold V2
  split
  ·exact h.src
  ·obtain ⟨c,_,e⟩:=h.stp (k-1) Za;rw [e]
 have hto:Of t' sp' k=Of t sp k:=by
  unfold Of;rw [h.len]
  split
  ·exact h.dst
  ·obtain ⟨c,_,e⟩:=h.stp k Za;rw [e]
 have hd:ZJ t' L b=ZJ t L b:=by simp [ZJ,h.rst]
 unfold nxtF at he ⊢
 have hg:YY y t' sp' k (ZJ t' L b)=YY x t sp k (ZJ t L b):=by rw [YY,YY,hn,h.prf,hplc k hk,hto,hd]
 rw [hg,hd];have h1:=h.cls;have h2:=h.drv;unfold Wx at he ⊢;rw [h.len]
 split at he
 ·simp at he
 ·rename_i c1;rw [if_neg c1,if_neg c1]
  split at he
  ·grind
  ·rename_i c2;rw [if_neg c2,if_neg c2];obtain ⟨c,hc,e⟩:=h.stp k Za
   grind
theorem DA {x y:Inst} {t t' sp sp'} (hn:y.net=x.net) (h:WkT t t' sp sp'): ∀(bs:List Bool) (k:Nat) (L z:Lab),k+bs.length<=sp.length+1->Y6 (Xy x t sp) k L bs=some z->Y6 (Xy y t' sp') k L bs=some z
 | [],k,L,z,_,e=>e
 | b::bs,k,L,z,hk,e=>by
  simp at hk;rw [Y6] at e ⊢;unfold Xy at e ⊢
  by_cases c:(nxtF x t sp k L b).2=0
  ·rw [T4 hn h Za c];rw [if_pos c] at e ⊢;exact DA hn h bs (k+1) _ z Za e
  grind
theorem gQ {fin:Lab->Int} : ∀ {l:List Lab},WY fin none l=none↔l= []
 | []=>by simp [WY]
 | a::l=>by
  rw [WY];obtain ⟨z,e,_⟩:=Vv fin l a;rw [e];simp
theorem OF {x t sp st r} :(Yl x t sp st r).2=0↔ ∃bs∈XB r (sp.length+1),∃z,Y6 (Xy x t sp) 0 (labF t st) bs=some z:=by
 unfold Yl
 cases hf:WY Wb none ((XB r (sp.length+1)).filterMap (Y6 (Xy x t sp) 0 (labF t st))) with
 | some L =>
  simp only [true_iff];have:=bestF_len.fmL_mem _ _ hf
  grind
 | none =>
  rw [gQ] at hf;simp only
  constructor
  ·intro h
   have hm:YK r (sp.length+1)∈XB r (sp.length+1):=by
    grind [XB,YK,fromB_next]
   simp_all [Yw]
  grind
theorem OE {x y:Inst} {t t' sp sp'} {st:Int} {r:List Bool} (hn:y.net=x.net) (h:WkT t t' sp sp') (hr:r.length<=sp.length+1) (h0:(Yl x t sp st r).2=0):(Yl y t' sp' st r).2=0:=by
 rw [OF] at h0 ⊢;obtain ⟨bs,hbs,z,hz⟩:=h0;rw [h.len]
 have hl:bs.length=sp.length+1:=by
  obtain ⟨q,hq,rfl⟩:=XM.1 hbs;have:=bestF_len.fromB_len _ _ hq
  grind
 have el:labF t' st=labF t st:=by simp [labF,h.opn]
 grind [DA]
theorem jW {x:Inst} {l:List Itm} {v:List Vis} {n i:Nat} (hi:i<x.orders.length):EK (Zn x l) v n i=EK x v n i:=by
 unfold EK;rw [show (Zn x l).orders=Xk x.orders l from rfl,Z5 hi];rfl
theorem SR {x:Inst} {l:List Itm} {v:List Vis} {n:Nat} :Y9 (Zn x l) v n=Y9 x v n:=by
 unfold Y9;rw [show (Zn x l).types=Xm x.types l from rfl,JD];refine WW fun j _=> ?_;unfold DJ;rw [show (Zn x l).orders.length=x.orders.length from WO _ _]
 congr 1
 refine WW fun i hi=> ?_;have hi:=ZL.1 hi;rw [jW hi,show (Zn x l).orders=Xk x.orders l from rfl,Z5 hi];rfl
theorem TC {a c:List Int} :VQ a c=true↔a.length=c.length/\ ∀i,i<a.length->nth a i<=nth c i:=by
 grind [VQ]
theorem bR {t:Typ} {a:Int} {l:List Itm} {b:List Int} (hc: ∀n∈t.cap,n<=1000) (h:VQ b t.cap=true):VQ b (W4 t a l).cap=true:=by
 grind [TC,W4,Zt]
theorem Oj {t:Typ} {s:Int} (h:Yh t s=true):Yh t 0=true:=by
 grind [Yh]
theorem Ty {x:Inst} {l:List Itm} {r:Rte} (hx:InstOk x) (hI: ∀v∈l,X5 x v=true) (h:Xv x r=0):Xv (Zn x l) r=0:=by
 unfold Xv at h ⊢
 have hr:XS x r=0:=by
  omega
 rw [if_pos hr] at h;unfold XS at hr
 split at hr
 ·simp at hr
 ·rename_i c1;have c1:0<=r.typ/\r.typ<(x.types.length:Int):=Z4.1 c1
  split at hr
  ·omega
  ·rename_i c2;have c2:Xf x r.visits=0:=Z4.1 c2;have hsq:=VK c2
   split at hr
   ·simp at hr
   ·rename_i c3
    split at hr
    ·simp at hr
    ·rename_i c4
     split at hr
     ·simp at hr
     ·rename_i c5;have c5:=Z4.1 c5
      have htl:r.typ.toNat<x.types.length:=Za
      have ety:ZC (Zn x l) r=W4 (ZC x r) r.typ l:=by
       unfold ZC;rw [show (Zn x l).types=Xm x.types l from rfl,Wg htl]
       grind
      have hty:=hx.types.2 _ htl;have hlt:=SF (l:=l) htl hty;have htk:Un x.net x.types r.typ.toNat:=hty;unfold Un at htk;obtain ⟨⟨⟨⟨⟨⟨⟨⟨_,_⟩,_⟩,_⟩,hcap⟩,_⟩,hcl⟩,GV⟩,_⟩:=htk;have hcap':=(Db.1 hcap).2.2
      have hsp: ∀w∈r.visits,∃c,(Xh x w).cls<=c/\Xh (Zn x l) w= { Xh x w with cls:=c } :=fun w hw=>by
       obtain ⟨w1,w2⟩:=hsq.inr w hw
       have hi:w.order.toNat<x.orders.length:=Za
       have hord:=hx.orders.2 _ hi;have hpk:=hord.pstp;have hdk:=hord.dstp;simp only [stpOk,Zs] at hpk hdk;unfold Xh;rw [show (Zn x l).orders=Xk x.orders l from rfl,Z5 hi]
       split
       ·simp only [VP]
        grind
       ·simp only [VP]
        grind
      have hw:WkT (ZC x r) (ZC (Zn x l) r) (ZM x r.visits) (ZM (Zn x l) r.visits):=by
       rw [ety];refine ⟨by simp [ZM],?_,?_,rfl,rfl,rfl,rfl,rfl,fun k hk=> ?_⟩
       ·simp only [W4];split
        ·exact hcl.2
        omega
       ·simp only [W4];split
        ·have:=GV.1;simp [rng] at this;exact this.2
        omega
       ·simp [ZM] at hk
        have e: ∀y:Inst,nth (ZM y r.visits) k=Xh y (nth r.visits k):=fun y=>by
         grind [Zh,ZM]
        grind [Zt]
      have hr':XS (Zn x l) r=0:=by
       unfold XS;rw [if_neg (by grind [Zn,Vl]),if_neg (by rw [NJ c2];simp)];rw [if_neg,if_neg,if_neg (fun hh=>hh c5)]
       ·grind [Qb,ZC,SR,bR]
       ·intro hh;refine c3 ?_;obtain ⟨w,hw2,hb⟩:=WD.1 hh;refine WD.2 ⟨w,hw2,?_⟩;obtain ⟨w1,w2⟩:=hsq.inr w hw2
        have hi:w.order.toNat<x.orders.length:=Za
        rw [show (Zn x l).orders=Xk x.orders l from rfl,Z5 hi,ety] at hb
        cases ha:Yh (ZC x r) (nth x.orders w.order.toNat).skills with
        | false=>rfl
        | true =>
         have e: ∀s,Yh (W4 (ZC x r) r.typ l) s=Yh (ZC x r) s:=fun s=>rfl
         grind [VP,Oj]
      rw [if_pos hr'];exact OE (x:=x) (y:=Zn x l) (t:=ZC x r) (t':=ZC (Zn x l) r) (sp:=ZM x r.visits) (sp':=ZM (Zn x l) r.visits) rfl hw (by grind [ZM]) h
set_option maxRecDepth 60000
theorem Sa {α:Type} [Inhabited α] {l:List α} {i j:Nat} {a:α} (h:i<l.length):nth (l.set i a) j=if i=j then a else nth l j:=by
 grind [nth]
theorem rH {α:Type} [Inhabited α] {l:List α} {j:Nat} {a:α} (h:j<l.length):nth (l++ [a]) j=nth l j:=by
 grind [nth]
theorem Lh {α:Type} [Inhabited α] {l:List α} {a:α} :nth (l++ [a]) l.length=a:=by
 grind [nth]
def cfK (a b:Col):Int:=rS [YX a.typ b.typ,YX a.set b.set]
theorem fF {a b:Int} :YX a b<0↔a<b:=by grind [YX]
theorem fG {a b:Int} :YX a b=0↔a=b:=by grind [YX]
theorem Fk {a b:Col} :cfK a b<0↔a.typ<b.typ\/(a.typ=b.typ/\a.set<b.set):=by
 grind [cfK,EM,fG,fF]
theorem pE : Go.Sort.SWO (ltOf cfK) where
 irrefl x:=by grind [ltOf,Fk]
 trans x y z h1 h2:=by simp only [ltOf,Zs,Fk] at *;omega
 ntrans x y z h1 h2:=by grind [ltOf,Fk]
theorem Mp (a b:Col):PC 200 [.p (Xo a),.p (Xo b)] (.int .i64 (cfK a b)):=by
 refine Zd Tryz.func200 rfl ZaT ?_;simp (disch:=omega) only [Tryz.f200,go_sem,seval];refine Xn (Zc ?_);refine Zo (DS a.typ b.typ) (Zc ?_);refine Zo (DS a.set b.set) (Zc ?_);refine Zo (rT [YX a.typ b.typ,YX a.set b.set] false Zb) (Zc ?_)
 rfl
theorem tD (xs:List Col) (hl:xs.length<=1048576) {H:List AM.Obj} {o:Nat} (hH:H[o]? =some (.elems 7 (xs.map Xo))) :
  ACalls Tryz.prog 123 [.sl o 0 xs.length xs.length,.fn (.func 200) [] []] H fun y H'=>y= .tup []/\ ∃ys:List Col,ys.Perm xs/\ys.Pairwise (fun a b=> ¬cfK b a<0)/\H'=H.set o (.elems 7 (ys.map Xo)) :=
 ACalls.sortFunc NQ iN 7 Tryz.isAgg107 Tryz.sizeOf107 Xo (fun x=>⟨_,rfl,rfl,rfl⟩) cfK pE 200 Mp xs Za hH
def kd (c:Col):Kd:=⟨c.typ,c.set⟩
def Bst (l:List Col) (k:Nat) (d:Col):Prop:= ∃j,j<k/\nth l j=d/\ ∀i,i<k->kd (nth l i)=kd d->d.price<(nth l i).price\/(d.price=(nth l i).price/\j<=i)
structure Chp (l:List Col) (k:Nat) (m:List (Kd×Int)) (out:List Col):Prop where
 len:out.length<=k
 at1: ∀i,i<out.length->mq m (kd (nth out i))=some (i:Int)
 at2: ∀q v,mq m q=some v-> ∃i,i<out.length/\v=i/\kd (nth out i)=q
 bst: ∀i,i<out.length->Bst l k (nth out i)
 all: ∀j,j<k-> ∃i,i<out.length/\kd (nth out i)=kd (nth l j)
theorem eZ (l:List Col):Chp l 0 [] []:=⟨Zb,fun i h=>by simp at h,fun q v h=>by simp [mq] at h,fun i h=>by simp at h,fun j h=>by simp at h⟩
theorem pK {l:List Col} {k:Nat} {m m':List (Kd×Int)} {out:List Col} (h:Chp l k m out) (hn:mq m (kd (nth l k))=none) (hm: ∀q,mq m' q=if q=kd (nth l k) then some (out.length:Int) else mq m q):Chp l (k+1) m' (out++ [nth l k]):=by
 have hno: ∀i,i<out.length->kd (nth out i)≠kd (nth l k):=fun i hi e=>by
  have:=h.at1 i hi
  grind
 have split: ∀i,i<(out++ [nth l k]).length->(i<out.length/\nth (out++ [nth l k]) i=nth out i)\/(i=out.length/\nth (out++ [nth l k]) i=nth l k):=fun i hi=>by
  simp only [ZH,ZB,ZE] at hi;rcases WE i out.length with h1 | h1
  ·grind [rH]
  ·obtain rfl:i=out.length:=Za
   exact .inr ⟨rfl,Lh⟩
 refine ⟨by have:=h.len;simp;omega,fun i hi=> ?_,fun q v hq=> ?_,fun i hi=> ?_,fun j hj=> ?_⟩
 ·rcases split i hi with ⟨h1,e⟩ | ⟨rfl,e⟩
  ·rw [e,hm,if_neg (hno i h1)];exact h.at1 i h1
  grind
 ·rw [hm] at hq
  split at hq
  ·grind [Lh]
  ·obtain ⟨i,h1,h2,h3⟩:=h.at2 q v hq
   grind
 ·rcases split i hi with ⟨h1,e⟩ | ⟨rfl,e⟩
  ·rw [e];obtain ⟨j,h2,h3,h4⟩:=h.bst i h1;refine ⟨j,Za,h3,fun p hp he=> ?_⟩
   grind
  ·rw [e];refine ⟨k,Za,rfl,fun p hp he=> ?_⟩;rcases Ce.1 hp with h5 | rfl
   ·obtain ⟨i,h6,h7⟩:=h.all p h5
    grind
   omega
 ·rcases Ce.1 hj with h5 | rfl
  ·obtain ⟨i,h6,h7⟩:=h.all j h5
   grind
  ·exact ⟨out.length,Zb,by rw [Lh]⟩
theorem pL {l:List Col} {k:Nat} {m:List (Kd×Int)} {out:List Col} {i:Nat} (h:Chp l k m out) (hi:i<out.length) (hk:kd (nth out i)=kd (nth l k)):Chp l (k+1) m (if (nth l k).price<(nth out i).price then out.set i (nth l k) else out):=by
 have hun: ∀j,j<out.length->kd (nth out j)=kd (nth l k)->j=i:=fun j hj e=>by
  have h1:=h.at1 j hj;have h2:=h.at1 i hi
  grind
 split
 ·rename_i hp
  have key: ∀j,kd (nth (out.set i (nth l k)) j)=kd (nth out j):=fun j=>by
   grind [Sa]
  refine ⟨by have:=h.len;simp;omega,fun j hj=> ?_,fun q v hq=> ?_,fun j hj=> ?_,fun j hj=> ?_⟩
  ·rw [key];exact h.at1 j (by grind)
  ·obtain ⟨j,h1,h2,h3⟩:=h.at2 q v hq
   grind
  ·simp only [Qx] at hj;rw [Sa hi]
   split
   ·rename_i e;subst e;refine ⟨k,Za,rfl,fun p hp2 he=> ?_⟩;rcases Ce.1 hp2 with h5 | rfl
    ·obtain ⟨j,h6,h7,h8⟩:=h.bst i hi
     grind
    omega
   ·rename_i e;obtain ⟨p,h2,h3,h4⟩:=h.bst j hj;refine ⟨p,Za,h3,fun p' hp' he=> ?_⟩
    grind
  ·rcases Ce.1 hj with h5 | rfl
   ·obtain ⟨p,h6,h7⟩:=h.all j h5
    grind
   grind
 ·rename_i hp;refine ⟨by have:=h.len;omega,h.at1,h.at2,fun j hj=> ?_,fun j hj=> ?_⟩
  ·obtain ⟨p,h2,h3,h4⟩:=h.bst j hj;refine ⟨p,Za,h3,fun p' hp' he=> ?_⟩
   grind
  ·rcases Ce.1 hj with h5 | rfl
   ·exact h.all j h5
   grind
structure Cheap (l ys:List Col):Prop where
 asc:ys.Pairwise fun a b=>cfK a b<0
 bst: ∀d∈ys,Bst l l.length d
 all: ∀c∈l,∃d∈ys,kd d=kd c
theorem pJ {l:List Col} {m:List (Kd×Int)} {out ys:List Col} (h:Chp l l.length m out) (hp:ys.Perm out) (ha:ys.Pairwise fun a b=> ¬cfK b a<0):Cheap l ys:=by
 have hnd:out.Pairwise fun a b=>kd a≠kd b:=by
  rw [KB];intro i j hi hj hij e;have h1:=h.at1 i hi;have h2:=h.at1 j hj
  grind [Zh]
 have hnd2:ys.Pairwise fun a b=>kd a≠kd b:=(hp.pairwise_iff fun h e=>h e.symm).2 hnd;refine ⟨(hnd2.and ha).imp fun {a b} hh=> ?_,fun d hd=> ?_,fun c hc=> ?_⟩
 ·rw [Fk] at hh ⊢
  grind [kd]
 ·obtain ⟨i,hi,rfl⟩:=ZT.1 (hp.mem_iff.1 hd);rw [<- Zh hi];exact h.bst i hi
 ·obtain ⟨j,hj,rfl⟩:=ZT.1 hc;obtain ⟨i,hi,e⟩:=h.all j hj
  grind [Zh]
theorem OP (l:List Col) (c:Bool) (hl:l.length<=8192):ACalls Tryz.prog 166 [.p (.list c (l.map Xo))] [] fun y H'=> ∃ys:List Col,(Cheap l ys/\ys.length<=l.length)/\y= .p (.list false (ys.map Xo))/\H'= []:=by
 refine Zf [15] Tryz.func166 rfl Zas ?_;simp (disch:=omega) only [Tryz.f166,go_sem,seval];refine Zl [3,11,12] (fun q:Nat×List (Kd×Int)×List Col=> [(4,.sl 1 0 q.2.2.length q.2.2.length),(13,.p (.int .i64 q.1))]) (fun q=> [.map (q.2.1.map (My cC)),.elems 7 (q.2.2.map Xo)]) (fun q=>q.1<=l.length/\Chp l q.1 q.2.1 q.2.2) (fun q=>l.length-q.1) (0,[],[]) ⟨Zb,eZ l⟩ (Weak.ofNil 4 7 (by simp (disch:=omega) only [go_sem,seval]) Zb (Weak.mk ?_)) ?_
 ·simp (disch:=omega) only [Zm,ZE,go_sem,seval]
 ·rintro ⟨k,m,out⟩ ⟨hk,hC⟩;simp only at hk hC;have hol:=hC.len;refine Zc ?_;refine cD ?_ ?_<;>intro h1<;>simp (disch:=omega) only [Sh.out h1,go_sem,seval,↓reduceIte]
  ·have hk2:k<l.length:=Za
   refine jD (l:=m) (k:=kd (nth l k)) iZ (fun _ _=>trivial) trivial (by rfl) (Zc ?_)
   cases hq:mq m (kd (nth l k)) with
   | none =>
    simp (disch:=omega) only [Am,Option.getD_none,go_sem,seval];refine Lr (l:=m) (k:=kd (nth l k)) iZ (fun _ _=>trivial) trivial (by rfl) fun m' hm' _=> ?_;simp (disch:=omega) only [ZZ,go_sem,seval];exact ⟨(k+1,m',out++ [nth l k]),⟨Za,pK hC hq hm'⟩,Za,Weak.mk (by simp (disch:=omega) only [XG,Zq,Zm,ZH,ZB,ZE,Xj,go_sem,seval])⟩
   | some v =>
    obtain ⟨i,hi,rfl,hkd⟩:=hC.at2 _ _ hq;have hold:=pL hC hi hkd;simp (disch:=omega) only [JY,JO,go_sem,seval];refine Xn ?_;simp (disch:=first | omega | (simp only [ZB,ZE,ZH,Z0,Xr,XF]<;>omega)) only [UO hi,hi,go_sem,seval,↓reduceIte];refine ZO ?_ ?_<;>intro h2
    ·rw [if_pos h2] at hold;simp (disch:=first | omega | (simp only [ZB,ZE,ZH,Z0,Xr,XF]<;>omega)) only [go_sem,seval];exact ⟨(k+1,m,out.set i (nth l k)),⟨Za,hold⟩,Za,Weak.mk (by simp (disch:=omega) only [UQ,Qx,go_sem,seval])⟩
    ·rw [if_neg h2] at hold;exact ⟨(k+1,m,out),⟨Za,hold⟩,Za,wk⟩
  ·have hkl:k=l.length:=Za
   subst hkl;refine (tD out Za (H:=_) (o:=1) rfl).mono ?_;rintro y H' ⟨rfl,ys,g1,g2,rfl⟩;have hyl:ys.length=out.length:=g1.length_eq;refine KW ?_;rw [<- hyl];refine Zp (Weak.fz (o:=1) (by rfl)) (Zg [] _ _ _ _ (UH ?_));exact ⟨.p (.list false (ys.map Xo)),[],wk,ys,⟨pJ hC g1 g2,Za⟩,rfl,rfl⟩
def Yt (x:Inst):Nat->Nat
 | 0=>0
 | i+1=>if (nth x.orders i).off=true then Yt x i else Yt x i|||pw i
theorem M5 (x:Inst): ∀i,Yt x i<2^i
 | 0=>by simp [Yt]
 | i+1=>by
  have:=M5 x i
  have h:2^(i+1)=2*2^i:=Za
  rw [Yt]
  split
  ·omega
  ·exact QX Za (by rw [pw];omega)
theorem UZ (x:Inst): ∀(n i:Nat),(Yt x n).testBit i=(decide (i<n)&& !(nth x.orders i).off)
 | 0,i=>by simp [Yt]
 | n+1,i=>by
  rw [Yt]
  split
  ·rename_i h;rw [UZ x n i]
   by_cases e:i=n
   ·subst e;simp [h]
   ·have:decide (i<n+1)=decide (i<n):=by simp;omega
    rw [this]
  ·rename_i h;rw [As,UZ x n i,pw,Nat.testBit_two_pow]
   grind
theorem wR (o:Ord):PC 198 [.p (Yg o)] (.bool true):=by
 refine Zd Tryz.func198 rfl ZaR ?_;simp (disch:=omega) only [Tryz.f198,go_sem,seval,↓reduceIte]
theorem ZcU (x:Inst) (hn:x.orders.length<=10):PC 197 [.p (Zv x),.fn (.func 198) [] []] (.int .i64 ((Yt x x.orders.length:Nat):Int)):=by
 refine Zf [] Tryz.func197 rfl ZaQ ?_;simp (disch:=omega) only [Tryz.f197,go_sem,seval];refine Zl [1,9,10] (fun k:Nat=> [(5,.p (.int .i64 ((Yt x k:Nat):Int))),(11,.p (.int .i64 k))]) (fun _=> [Zj x]) (fun k=>k<=x.orders.length) (fun k=>x.orders.length-k) 0 Zb (Weak.mk ?_) ?_
 ·have h00:((Yt x 0:Nat):Int)=0:=rfl;simp (disch:=omega) only [h00,Zj,go_sem,seval]
 ·intro k hk;refine Yd ?_;refine cD ?_ ?_<;>intro h1<;>simp (disch:=omega) only [Sh.out h1,go_sem,seval,↓reduceIte]
  ·have hk2:k<x.orders.length:=Za
   have hm:=M5 x k;have hp:2^k<=2^10:=Yr Za Za;have hpw:pw k<=1024:=hp;refine QP ?_ ?_<;>intro h2
   ·refine (wR (nth x.orders k)).use (Zc ?_)
    have ho:(nth x.orders k).off=false:=by grind
    exact ⟨k+1,Za,Za,Weak.mk (by simp (disch:=omega) only [Yt,ho,YS,go_sem,seval,↓reduceIte])⟩
   ·have ho:(nth x.orders k).off=true:=by grind
    exact ⟨k+1,Za,Za,Weak.mk (by simp (disch:=omega) only [Yt,ho,go_sem,seval,↓reduceIte])⟩
  ·have hkl:k=x.orders.length:=Za
   subst hkl;exact we
theorem Zcv (x:Inst) (hn:x.orders.length<=10):PC 164 [.p (Zv x)] (.int .i64 ((Yt x x.orders.length:Nat):Int)):=by
 refine Zd Tryz.func164 rfl Zaq ?_;simp (disch:=omega) only [Tryz.f164,go_sem,seval];refine (ZcU x hn).use ?_;simp (disch:=omega) only [go_sem,seval]
def PX (S M:Nat):Bool:=(List.range 63).all fun i=> !S.testBit i||M.testBit i
theorem sV (S M:Nat) (hS:S<9223372036854775808):PC 199 [.p (.int .i64 (S:Int)),.p (.int .i64 (M:Int))] (.bool (PX S M)):=by
 refine Zd Tryz.func199 rfl ZaS ?_;simp (disch:=omega) only [Tryz.f199,go_sem,seval];have hb:=DQ (S:=S) (M:=M) hS
 have hd:decide (IntKind.i64.wrap ((BitVec.ofInt 64 (S:Int)&&& ~~~BitVec.ofInt 64 (M:Int)).toNat:Int)=0)=((List.range 63).all fun i=> !S.testBit i||M.testBit i):=by
  grind
 exact ZW (fun b=>V.p (PV.bool b)) hd
def rightB (x:Inst) (c:Col):Bool:=decide (0<=c.typ)&&(decide (c.typ<x.types.length)&&(decide (0<c.set)&&(PX c.set.toNat (Yt x x.orders.length)&&(decide (0<=c.price)&&decide (c.price<=18014398509481984)))))
theorem Tm (x:Inst) (c:Col) (hs:c.set<9223372036854775808) (ht:x.types.length<=1048576):PC 165 [.p (Zv x),.p (Xo c),.p (.int .i64 ((Yt x x.orders.length:Nat):Int))] (.bool (rightB x c)):=by
 refine Zd Tryz.func165 rfl Zar ?_;simp (disch:=omega) only [Tryz.f165,go_sem,seval];refine gT ?_ ?_<;>intro h1<;>simp (disch:=omega) only [Sh.out h1,go_sem,seval,↓reduceIte]
 ·refine gT ?_ ?_<;>intro h2<;>simp (disch:=omega) only [Sh.out h2,go_sem,seval,↓reduceIte]
  ·refine gT ?_ ?_<;>intro h3<;>simp (disch:=omega) only [Sh.out h3,go_sem,seval,↓reduceIte]
   ·obtain ⟨S,hS⟩: ∃S:Nat,c.set=(S:Int):=⟨c.set.toNat,Za⟩
    have e1:rightB x c=(PX S (Yt x x.orders.length)&&(decide (0<=c.price)&&decide (c.price<=18014398509481984))):=by
     simp_all [rightB]
    rw [hS];refine (sV S (Yt x x.orders.length) Za).use (Zc ?_);refine gT ?_ ?_<;>intro h4<;>simp (disch:=omega) only [Sh.out h4,go_sem,seval,↓reduceIte]
    ·refine gT ?_ ?_<;>intro h5<;>simp (disch:=omega) only [Sh.out h5,go_sem,seval,↓reduceIte]
     ·grind
     grind
    grind
   grind [rightB]
  grind [rightB]
 ·simp [rightB,h1]
theorem ZoA (n:Nat) (h0:0<n) (h:n<16):PC 174 [.p (.int .u64 n)] (.int .i64 (AT n)):=by
 refine Zd Tryz.func174 rfl Zaz ?_;simp (disch:=omega) only [Tryz.f174,go_sem,seval];refine (ZcZ n h0 h).use ?_;simp (disch:=omega) only [go_sem,seval]
theorem NG (n:Nat) (h0:0<n) (h:n<16):PC 125 [.p (.int .i64 n)] (.int .i64 (AT n)):=by
 refine Zd Tryz.func125 rfl zS ?_;simp (disch:=omega) only [Tryz.f125,go_sem,seval];refine cD ?_ ?_<;>intro h1<;>simp (disch:=omega) only [Sh.out h1,go_sem,seval]
 ·omega
 ·refine (ZoA n h0 h).use ?_;simp (disch:=omega) only [go_sem,seval]
def skpF (x:Inst) (i:Nat):Int:=if (unsF x i).2=0/\(Yz (unsF x i).1).2=0 then (Yz (unsF x i).1).1 else-1
def Yj (ys:List Col) (i:Nat):List Col:=ys.filter fun c=>decide (AT c.set.toNat=(i:Int))
def fstF (n:Nat) (ys:List Col):List (List Col):=(List.range n).map (Yj ys)
theorem aJ {ys:List Col} {k i:Nat} (h:k<ys.length):Yj (ys.take (k+1)) i=if AT (nth ys k).set.toNat=(i:Int) then Yj (ys.take k) i++ [nth ys k] else Yj (ys.take k) i:=by
 grind [X9,Yj,nth]
theorem kW (i:Nat):Yj [] i= []:=rfl
theorem CG (ys:List Col) (k i:Nat):(Yj (ys.take k) i).length<=ys.length:=by
 refine Aw (List.length_filter_le _ _) ?_;simp;omega
theorem JI (ys):fstF 0 ys= []:=rfl
theorem QQ (ys):fstF 1 ys= [Yj ys 0]:=rfl
theorem QR (ys):fstF 2 ys= [Yj ys 0,Yj ys 1]:=rfl
theorem QS (ys):fstF 3 ys= [Yj ys 0,Yj ys 1,Yj ys 2]:=rfl
theorem QT (ys):fstF 4 ys= [Yj ys 0,Yj ys 1,Yj ys 2,Yj ys 3]:=rfl
def CM : List (List Col)->Nat->List V
 | [],_=> []
 | p::P,o=> .sl o 0 p.length p.length::CM P (o+1)
def HT (P:List (List Col)):List AM.Obj:=P.map fun p=> .elems 7 (p.map Xo)
theorem T2 {n0:Nat} {fr:List V} {a b c:AM.Obj} (h0:n0<=4) (n:Nat):Weak n0 fr [a,b,c,.cells (List.replicate n (.p (.list true [])))] fr (a::b::c:: .cells (CM (List.replicate n []) 4)::HT (List.replicate n [])):=by
 have hr: ∀(k o:Nat),CM (List.replicate k []) o=(List.range k).map fun j=>V.sl (o+j) 0 0 0:=fun k=>by
  induction k with
  | zero=>intro o;rfl
  | succ k ih =>
   intro o;rw [KC,CM,ih,List.range_succ_eq_map,Zq,List.map_map];simp only [ZE,V5,List.cons.injEq,true_and];apply WW
   grind
 have key: ∀k,k<=n->Weak n0 fr [a,b,c,.cells (List.replicate n (.p (.list true [])))] fr (a::b::c:: .cells (((List.range k).map fun j=>V.sl (4+j) 0 0 0)++List.replicate (n-k) (.p (.list true [])))::List.replicate k (.elems 7 [])):=fun k=>by
  induction k with
  | zero=>grind [Weak.refl]
  | succ k ih =>
   intro hk
   have h1:=(ih Za).trans (Weak.nilC (n0:=n0) (fr:=fr) (o:=3) (j:=k) 7 (by rfl) (by
    grind) (by simp;omega))
   have e1:List.length (a::b::c::AM.Obj.cells (((List.range k).map fun j=>V.sl (4+j) 0 0 0)++List.replicate (n-k) (.p (.list true [])))::List.replicate k (AM.Obj.elems 7 []))=4+k:=by simp;omega
   have e2:(((List.range k).map fun j=>V.sl (4+j) 0 0 0)++List.replicate (n-k) (V.p (.list true []))).set k (.sl (4+k) 0 0 0)=((List.range (k+1)).map fun j=>V.sl (4+j) 0 0 0)++List.replicate (n-(k+1)) (V.p (.list true [])):=by
    rw [EB _ _ Zb,show n-k=(n-(k+1))+1 by omega,KC,Ys,XG];simp
   grind [EE]
 have:=key n (ZD _)
 simp_all [HT]
def skF (x:Inst) (n:Nat):List Int:=(List.range n).map (skpF x)
def oZ (x:Inst) (m:Int) (f g:V):AM.Obj:= .cells [.p (.list x.net.places_c (x.net.places.map eS)),.p (.list x.net.arcs_c (x.net.arcs.map VO)),.p (.list x.types_c (x.types.map X1)),.p (.list x.orders_c (x.orders.map Yg)),.p (.list x.apart_c (x.apart.map eP)),.p (.list x.before_c (x.before.map eP)),f,g,.mp 1,.p (.int .i64 m)]
theorem Qh {x:Inst} {c:Col} (h:rightB x c=true) (hs:c.set<9223372036854775808): ∃S:Nat,c.set=S/\0<S/\S<2^x.orders.length/\ ∀i,S.testBit i=true->i<x.orders.length/\(nth x.orders i).off=false:=by
 simp only [rightB,ZF,Zs] at h;obtain ⟨_,_,h3,h4,_⟩:=h
 have key: ∀i,c.set.toNat.testBit i=true->i<x.orders.length/\(nth x.orders i).off=false:=fun i hi=>by
  have h63:i<63:=by
   rcases WE i 63 with h | h
   ·exact h
   ·have:2^63<=2^i:=Yr Za h
    grind [Ai]
  have:=Zz.1 h4 i (ZL.2 h63)
  grind [UZ]
 refine ⟨c.set.toNat,Za,Za,?_,key⟩;refine Nat.lt_pow_two_of_testBit _ fun i hi=> ?_
 grind
theorem Zc0 {S n:Nat} (h0:0<S) (h:S<2^n) (hn:n<=4):AT S<n/\0<=AT S:=by
 have:n=0\/n=1\/n=2\/n=3\/n=4:=Za
 unfold AT
 grind
theorem Gp (x:Inst) (k:Nat):skF x (k+1)=skF x k++ [skpF x k]:=by simp [skF,Ys]
theorem J4 (x:Inst) (k:Nat):(skF x k).length=k:=by simp [skF]
theorem Zjj (x:Inst):skF x 0= []:=rfl
theorem MX {P:Program} {ko:List Nat} {l:List Oper} {n:Nat} {rem:List Nat} {fr:List V} {H:List AM.Obj} {K:List V->List AM.Obj->Prop} (m:Nat) (Y:V) (Z:List AM.Obj) (hr:Qg l rem= [m]) (h:Zw P (Z9 l m) fr H fun y H'=>y=Y/\H'=Z)
  (k:(∀k∈ko,oat Z k=oat H k)/\Cb P ko l n (rem.erase m) (Uz fr (Z9 l m).dst Y) Z K):Cb P ko l (n+1) rem fr H K :=
 HA m _ hr h fun y H' hq=>by grind
theorem Tl (x:Inst) (l:List Col) (lc:Bool) (hn:x.orders.length<=4) (ht:x.types.length<=1048576) (hu: ∀i:Nat,scoR 1152921504606846976 (unsF x i).1) (hs: ∀c∈l,c.set<9223372036854775808) (hl:l.length<=1048576) :
  ACalls Tryz.prog 119 [.p (Zv x),.p (.list lc (l.map Xo))] [] fun y H'=>(8192<l.length/\y= .tup [.p .nilp,.p (.int .i64 4)]/\H'= [])\/(l.length<=8192/\(∃c∈l,rightB x c=false)/\y= .tup [.p .nilp,.p (.int .i64 2)]/\H'= []) \/
   (l.length<=8192/\(∀c∈l,rightB x c=true)/\ ∃ys,(Cheap l ys/\ys.length<=l.length)/\y= .tup [.ptr 2 0,.p (.int .i64 0)]/\H'= .cells (List.replicate 6 .junk)::(YW x (.list false ((fstF x.orders.length ys).map Wr)) (.list false ((skF x x.orders.length).map eI)) (Yt x x.orders.length) []).map (shO 1)):=by
 refine Zf [10] Tryz.func119 rfl zN ?_;simp (disch:=omega) only [Tryz.f119,go_sem,seval];refine cD ?_ ?_<;>intro h0<;>simp (disch:=omega) only [Sh.out h0,go_sem,seval]
 ·exact ⟨_,[],wk,.inl ⟨Za,rfl,rfl⟩⟩
 ·refine XY [1] 4 mixed Ze Ze Ze Zb (Zc ?_);refine Zo (Zcv x Za) (Zc ?_);refine Xq 1 _ _ Ze (by refine Zc ?_;exact ⟨rfl,rfl⟩) (Ws ?_);simp (disch:=omega) only [show ∀(l:List V),Qn (V.mp 1::l)=none from fun _=>rfl,Option.map_none,go_sem,seval];refine Zl [1,2,6,27,28] (fun k:Nat=> [(29,.p (.int .i64 k))]) (fun _=> [Zj x,.map [],oZ x ((Yt x x.orders.length:Nat):Int) (.p (.list true [])) (.p (.list true []))]) (fun k=>k<=l.length/\ ∀j,j<k->rightB x (nth l j)=true) (fun k=>l.length-k) 0 ⟨Za,fun j hj=>Za⟩ (Weak.mk ?_) ?_
  ·simp (disch:=omega) only [Zj,oZ,go_sem,seval]
  ·rintro k ⟨hk,hr⟩;simp (disch:=omega) only [Zj,oZ,go_sem,seval];refine cD ?_ ?_<;>intro h1<;>simp (disch:=omega) only [Sh.out h1,go_sem,seval,↓reduceIte]
   ·have hk2:k<l.length:=Za
    refine Xn (Zc ?_);refine Zo (Tm x (nth l k) (hs _ (ZX hk2)) ht) (Zc ?_)
    cases hq:rightB x (nth l k) with
    | false =>
     refine Gv ?_;exact ⟨_,[],wk,.inr (.inl ⟨Za,⟨_,ZX hk2,hq⟩,rfl,rfl⟩)⟩
    | true =>
     refine BB ?_
     exact ⟨k+1,⟨Za,fun j hj=>by
      grind⟩,Za,wk⟩
   ·have hkl:k=l.length:=Za
    subst hkl
    have hall: ∀c∈l,rightB x c=true:=fun c hc=>by
     obtain ⟨j,hj,rfl⟩:=ZT.1 hc
     grind [Zh]
    clear hr hk h1;generalize ((Yt x x.orders.length:Nat):Int)=m;have hun: ∀i:Nat,PT 167 [.p (Zv x),.p (.int .i64 i)] [.p (Eb (unsF x i).1),.p (.int .i64 (unsF x i).2)]:=fun i=>Nr x i Za;refine YM (IA 4 rfl rfl (Zc ?_));refine ⟨_,_,T8 248 83 _ _ x.orders.length 24 (.list true []) rfl Ze Ze Ze Ze (by rfl) Za Za (by simp (disch:=omega) only [go_sem,seval]) (by simp (disch:=omega) only [go_sem,seval]),?_⟩
    refine Zc ?_
    have h5:x.orders.length=0\/x.orders.length=1\/x.orders.length=2\/x.orders.length=3\/x.orders.length=4:=Za
    refine Zp (T2 Zb x.orders.length) ?_;refine Zg [17] _ _ _ _ (Zc ?_);refine (OP l lc Za).useV fun ys hC=>Zc ?_;obtain ⟨hC,hyl⟩:=hC;rcases h5 with h5 | h5 | h5 | h5 | h5
    all_goals
     simp (disch:=omega) only [h5,List.replicate,CM,HT,Zq,Zm,go_sem,seval];refine Zl [2,6,50,51] (fun k:Nat=> [(52,.p (.int .i64 k))]) (fun k=> [Zj x,.map [],oZ x m (.sl 3 0 x.orders.length x.orders.length) (.p (.list true [])),.cells (CM (fstF x.orders.length (ys.take k)) 4)]++HT (fstF x.orders.length (ys.take k))) (fun k=>k<=ys.length) (fun k=>ys.length-k) 0 Za (Weak.mk ?_) ?_
     ·simp (disch:=omega) only [h5,QZ,kW,ZE,JI,QQ,QR,QS,QT,CM,HT,Zq,Zm,ZK,Zy,Zj,oZ,go_sem,seval]
     ·intro k hk;simp (disch:=omega) only [h5,JI,QQ,QR,QS,QT,CM,HT,Zq,Zm,ZK,Zy,Zj,oZ,go_sem,seval];refine cD ?_ ?_<;>intro h1<;>simp (disch:=omega) only [Sh.out h1,go_sem,seval,↓reduceIte]
      ·have hk2:k<ys.length:=Za
       obtain ⟨j,hj,hjl,_⟩:=hC.bst _ (ZX hk2)
       have hmem:nth ys k∈l:=by rw [<- hjl];exact ZX hj
       obtain ⟨S,hS,hS0,hS1,hS2⟩:=Qh (hall _ hmem) (hs _ hmem);have hlt:=Zc0 hS0 hS1 hn;have h16:S<16:=Uu hS1 (by rw [h5];decide)
       have cl:PC 125 [.p (.int .i64 (nth ys k).set)] (.int .i64 (AT (nth ys k).set.toNat)):=by
        rw [hS];exact NG S hS0 h16
       refine (cl).use ?_;simp (disch:=omega) only [go_sem,seval]
       have htz:AT (nth ys k).set.toNat=AT S:=by rw [hS];rfl
       have hi:AT (nth ys k).set.toNat=0\/AT (nth ys k).set.toNat=1\/AT (nth ys k).set.toNat=2\/AT (nth ys k).set.toNat=3:=Za
       rcases hi with hi | hi | hi | hi
       all_goals try omega
       all_goals
        simp (disch:=omega) only [hi,go_sem,seval];refine Be [14] [1,2,3] [2] 15 mixed Ze Ze Ze Ze Zb ?_;simp (disch:=omega) only [go_sem,seval,↓reduceIte];refine ⟨fun q hq p' hp=> ?_,?_⟩
        ·simp only [Z3,Y3,Wn] at hq;rcases hq with rfl | rfl | rfl
         ·obtain rfl:59=p':=Vc hp;exact VW (by decide)
         ·obtain rfl:60=p':=Vc hp;exact VW (by decide)
         ·obtain rfl:61=p':=Vc hp;exact VW (by decide)
        ·have q0:=CG ys k 0;have q1:=CG ys k 1;have q2:=CG ys k 2;have q3:=CG ys k 3;refine MX 14 _ _ Ze (by simp (disch:=omega) only [go_sem,seval,↓reduceIte];exact ⟨rfl,rfl⟩) ?_;refine ⟨fun k hk=>by simp at hk;subst hk;rfl,La ?_⟩;simp (disch:=omega) only [go_sem,seval];exact ⟨k+1,Za,Za,Weak.mk (by simp (disch:=omega) only [h5,aJ hk2,hi,XG,ZH,ZB,ZE,Xj,QQ,QR,QS,QT,CM,Zq,Zm,go_sem,seval,↓reduceIte])⟩
      ·have hkl:k=ys.length:=Za
       subst hkl;clear hk h1
       try refine Zp (Weak.fz (o:=4) (by rfl)) ?_
       try refine Zp (Weak.fz (o:=5) (by rfl)) ?_
       try refine Zp (Weak.fz (o:=6) (by rfl)) ?_
       try refine Zp (Weak.fz (o:=7) (by rfl)) ?_
       refine Zg [17] _ _ _ _ ?_;simp (disch:=omega) only [YT,Zq,Zm,Z8,ZZ,eq_self,go_sem,seval,↓reduceIte];refine Zp (Weak.fzC (o:=3) (ys:=(fstF x.orders.length ys).map Wr) (by rw [h5];rfl) (fun y hy=>by obtain ⟨p,_,rfl⟩:=XM.1 hy;rfl)) ?_;refine Zg [17] _ _ _ _ ?_;simp (disch:=omega) only [h5,JI,QQ,QR,QS,QT,Zq,Zm,Z8,ZZ,ZB,ZE,Xj,Nat.reduceAdd,eq_self,go_sem,seval,↓reduceIte]
       refine Zg [28] _ _ _ _ ?_;simp (disch:=omega) only [go_sem,seval,↓reduceIte];refine Zl [2,6,78] (fun k:Nat=> [(79,.p (.int .i64 k))]) (fun k=> [Zj x,.map [],oZ x m (.p (.list false ((fstF x.orders.length ys).map Wr))) (.sl (4+x.orders.length) 0 k k),.dead]++List.replicate x.orders.length .dead++ [.elems 1 ((skF x k).map eI)]) (fun k=>k<=x.orders.length) (fun k=>x.orders.length-k) 0 Za ((Weak.nilC (o:=2) (j:=7) 1 (by rfl) (by rfl) Zb).trans (Weak.mk ?_)) ?_
       ·simp (disch:=omega) only [h5,Zjj,List.replicate,Z8,ZZ,ZB,ZE,Xj,Nat.reduceAdd,JI,QQ,QR,QS,QT,Zq,Zm,ZK,Zy,Zj,oZ,go_sem,seval]
       ·intro k hk;simp (disch:=omega) only [h5,List.replicate,Nat.reduceAdd,JI,QQ,QR,QS,QT,Zq,Zm,ZK,Zy,Zj,oZ,go_sem,seval];refine cD ?_ ?_<;>intro h1<;>simp (disch:=omega) only [Sh.out h1,go_sem,seval,↓reduceIte]
        ·have hk2:k<x.orders.length:=Za
         refine WL (hun k) ?_;simp (disch:=omega) only [go_sem,seval,↓reduceIte];refine cD ?_ ?_<;>intro h2<;>simp (disch:=omega) only [Sh.out h2,go_sem,seval,↓reduceIte]
         ·refine WL (HK _ (hu k)) ?_;simp (disch:=omega) only [go_sem,seval];refine cD ?_ ?_<;>intro h3<;>simp (disch:=omega) only [Sh.out h3,go_sem,seval,↓reduceIte]
          ·have hsk:skpF x k=(Yz (unsF x k).1).1:=by simp [skpF,h2,h3]
           simp (disch:=omega) only [J4,go_sem,seval];rw [if_pos ⟨Za,Za⟩];simp (disch:=omega) only [J4,Z0,ZH,ZB,ZE,Xj,eq_self,Vz,go_sem,seval];exact ⟨k+1,Za,Za,Weak.mk (by simp (disch:=omega) only [h5,Gp,hsk,XG,List.replicate,Nat.reduceAdd,JI,QQ,QR,QS,QT,Zq,Zm,ZK,Zy,go_sem,seval])⟩
          ·have hsk:skpF x k= -1:=by simp [skpF,h3]
           simp (disch:=omega) only [J4,go_sem,seval];rw [if_pos ⟨Za,Za⟩];simp (disch:=omega) only [J4,Z0,ZH,ZB,ZE,Xj,eq_self,Vz,go_sem,seval];exact ⟨k+1,Za,Za,Weak.mk (by simp (disch:=omega) only [h5,Gp,hsk,XG,List.replicate,Nat.reduceAdd,JI,QQ,QR,QS,QT,Zq,Zm,ZK,Zy,go_sem,seval])⟩
         ·have hsk:skpF x k= -1:=by simp [skpF,h2]
          simp (disch:=omega) only [J4,go_sem,seval];rw [if_pos ⟨Za,Za⟩];simp (disch:=omega) only [J4,Z0,ZH,ZB,ZE,Xj,eq_self,Vz,go_sem,seval];exact ⟨k+1,Za,Za,Weak.mk (by simp (disch:=omega) only [h5,Gp,hsk,XG,List.replicate,Nat.reduceAdd,JI,QQ,QR,QS,QT,Zq,Zm,ZK,Zy,go_sem,seval])⟩
        ·have hkl:k=x.orders.length:=Za
         clear hk h1;refine Zp (Weak.fz (o:=4+x.orders.length) (S:=1) (xs:=(skF x k).map eI) (by rw [h5];rfl)) ?_;refine Zg [] _ _ _ _ ?_;simp (disch:=omega) only [h5,Zq,Zm,Z8,ZZ,Z0,J4,Nat.reduceAdd,eq_self,go_sem,seval,↓reduceIte];exact ⟨.tup [.ptr 2 0,.p (.int .i64 0)],_,Weak.mk (by simp (disch:=omega) only [hkl,h5,YW,VN,shO,shVs,shV,JI,QQ,QR,QS,QT,Zq,Zm,go_sem,seval]),.inr (.inr ⟨Za,hall,ys,⟨hC,hyl⟩,rfl,rfl⟩)⟩
theorem Zc1 : ∀S:Fin 16,0<S.val->sHas (S.val:Int) (AT S.val)=true:=by decide+kernel
theorem NP {x:Inst} (hx:InstOk x) (i:Nat): -1<=skpF x i/\skpF x i<=18014398509481984:=by
 unfold skpF
 split
 ·rename_i h
  have hm:(unsF x i).1.cost<=1000000/\(unsF x i).1.moved<=1/\0<=(unsF x i).1.moved/\(unsF x i).1.other=0/\(unsF x i).1.work=0:=by
   unfold unsF
   split
   ·simp [zSco]
   ·split
    ·simp [zSco]
    ·split
     ·simp [zSco]
     ·have ha:=(hx.orders.2 (i:Int).toNat Za).arg;simp only [argOk,rng,ZF,Zs] at ha
      grind
  obtain ⟨_,h2⟩:=h;unfold Yz at h2 ⊢
  grind
 ·omega
theorem Rj {x:Inst} {l ys:List Col} (hx:InstOk x) (hn:x.orders.length<=4) (hC:Cheap l ys) (hr: ∀c∈l,rightB x c=true) (hs: ∀c∈l,c.set<9223372036854775808):ChOk x.orders.length x (fstF x.orders.length ys) (skF x x.orders.length):=by
 refine ⟨fun i hi c hc=> ?_,?_,fun i hi=> ?_⟩
 ·have e:nth (fstF x.orders.length ys) i=Yj ys i:=by
   grind [fstF,Zh]
  rw [e,Yj,Qy] at hc;obtain ⟨h1,h2⟩:=hc;simp only [Zs] at h2;obtain ⟨j,hj,hjl,_⟩:=hC.bst c h1
  have hm:c∈l:=by grind [ZX]
  obtain ⟨S,q1,q2,q3,_⟩:=Qh (hr c hm) (hs c hm);have h16:S<16:=Uu q3 (Yr (n:=2) Za hn);have hb:=Zc1 ⟨S,h16⟩ q2;have hr1:=hr c hm;simp only [rightB,ZF,Zs] at hr1
  grind
 ·have ht:=hx.types;simp only [typesOk,rng,Zs] at ht;refine ⟨Za,fun t _=> ?_⟩;rcases WE t x.types.length with h | h
  ·have:=ht.2 t h;unfold Un at this;have:=this.1.1.1.1.1.1.2;simp only [rng,Zs] at this;omega
  ·rw [show nth x.types t=default from by grind [nth]]
   decide
 simp_all [skF,Zh,NP]
def zSt : St:=⟨0,0,[0,0,0,0,0,0]⟩
def Lc (x:Inst) (ys:List Col):Int:=Wc x.orders.length ((Yt x x.orders.length:Nat):Int) x (fstF x.orders.length ys) (skF x x.orders.length) 20 (Vo x.orders.length ((Yt x x.orders.length:Nat):Int) zSt)
theorem wC (n:Nat):StV n zSt:=⟨rfl,⟨by decide,by simp [zSt]⟩,⟨0,rfl,Za⟩,fun j hj=>by
 have:nth zSt.used j=0:=by
  have:j=0\/j=1\/j=2\/j=3\/j=4\/j=5:=Za
  rcases this with rfl | rfl | rfl | rfl | rfl | rfl<;>rfl
 omega⟩
theorem Gs {α:Type} {r:α->α->Prop} (irr: ∀a,¬r a a) (asy: ∀a b,r a b-> ¬r b a): ∀ {l l':List α},l.Pairwise r->l'.Pairwise r->(∀a,a∈l↔a∈l')->l=l'
 | [],[],_,_,_=>rfl
 | [],b::_,_,_,h=>by have:=(h b).2 Zb;simp at this
 | a::_,[],_,_,h=>by have:=(h a).1 Zb;simp at this
 | a::l,b::l',h1,h2,h=>by
  rw [List.pairwise_cons] at h1 h2
  have hab:a=b:=by
   rcases Z3.1 ((h a).1 Zb) with e | e
   ·exact e
   ·rcases Z3.1 ((h b).2 Zb) with e' | e'
    ·exact e'.symm
    ·exact absurd (h1.1 b e') (asy _ _ (h2.1 a e))
  subst hab
  rw [Gs irr asy h1.2 h2.2 fun c=>⟨fun hc=>by
   rcases Z3.1 ((h c).1 (Yp _ hc)) with e | e
   ·subst e;exact absurd (h1.1 c hc) (irr c)
   ·exact e,fun hc=>by
   rcases Z3.1 ((h c).2 (Yp _ hc)) with e | e
   ·subst e;exact absurd (h2.1 c hc) (irr c)
   ·exact e⟩]
theorem eU {l ys:List Col} (h:Cheap l ys) {c:Col} (hc:c∈l): ∃d∈ys,kd d=kd c/\d.price<=c.price:=by
 obtain ⟨d,hd,e⟩:=h.all c hc;obtain ⟨j,hj,rfl⟩:=ZT.1 hc;obtain ⟨i,hi,_,h3⟩:=h.bst d hd
 grind [Zh]
theorem eQ {l ys:List Col} (h:Cheap l ys) {d:Col} (hd:d∈ys):d∈l:=by
 obtain ⟨j,hj,e,_⟩:=h.bst d hd
 grind [ZX]
theorem Nc {n i:Nat} {ys:List Col} :nth (fstF n ys) i=if i<n then Yj ys i else []:=by
 split
 ·grind [fstF,Zh]
 ·rename_i h;rw [nth,JS,List.getElem?_eq_none (by simp [fstF];omega)];rfl
def cG (a b:Int):Prop:=b<0\/(0<=a/\a<=b)
theorem RB {x:Inst} {s:St} {r:Col->Int} (hr: ∀c,-1<=r c): ∀ {l:List Col} {a:Int},(∀c∈l,0<=c.price) ->
  cG (l.foldl (fun o c=>if YF x s c=true then YV o c.price (r c) else o) a) a/\ ∀c∈l,YF x s c=true->0<=r c->cG (l.foldl (fun o c=>if YF x s c=true then YV o c.price (r c) else o) a) (c.price+r c)
 | [],a,_=>⟨by grind [cG],fun c hc=>by simp at hc⟩
 | d::l,a,hp=>by
  have hd:=hp d Zb;obtain ⟨g1,g2⟩:=RB (x:=x) (s:=s) hr (l:=l) (a:=if YF x s d=true then YV a d.price (r d) else a) fun c hc=>hp c (Yp _ hc);rw [XL];generalize l.foldl (fun o c=>if YF x s c=true then YV o c.price (r c) else o) (if YF x s d=true then YV a d.price (r d) else a)=M at g1 g2;refine ⟨?_,fun c hc hy h0=> ?_⟩
  ·grind [cG,YV]
  ·rcases Z3.1 hc with rfl | hc
   ·rw [if_pos hy] at g1
    grind [cG,YV]
   grind
theorem Hs {x:Inst} {s:St} {r:Col->Int} : ∀ {l:List Col} {a:Int},l.foldl (fun o c=>if YF x s c=true then YV o c.price (r c) else o) a=a\/ ∃c∈l,YF x s c=true/\0<=r c/\l.foldl (fun o c=>if YF x s c=true then YV o c.price (r c) else o) a=c.price+r c
 | [],a=> .inl rfl
 | d::l,a=>by
  rw [XL];rcases Hs (x:=x) (s:=s) (r:=r) (l:=l) (a:=if YF x s d=true then YV a d.price (r d) else a) with h | ⟨c,h1,h2,h3,h4⟩
  ·rw [h]
   split
   ·rename_i hy;unfold YV
    split
    ·grind
    omega
   omega
  grind
abbrev Cm := { c:Col // ∃S:Nat,c.set=S/\0<S/\S<16 }
instance : Inhabited Cm := ⟨⟨⟨0, 1, 0, default⟩, 1, rfl, by decide, by decide⟩⟩
def lo (c:Col):Int:=AT c.set.toNat
def pD (a b:Col):Int:=rS [YX a.typ b.typ,YX (lo a) (lo b)]
theorem JB {a b:Col} :pD a b<0↔a.typ<b.typ\/(a.typ=b.typ/\lo a<lo b):=by
 grind [pD,EM,fG,fF]
def yD (a b:Cm):Int:=pD a.val b.val
theorem pG : Go.Sort.SWO (ltOf yD) where
 irrefl x:=by grind [ltOf,yD,JB]
 trans x y z h1 h2:=by simp only [ltOf,yD,Zs,JB] at *;omega
 ntrans x y z h1 h2:=by grind [ltOf,yD,JB]
theorem ZiK (c:Cm):PC 125 [.p (.int .i64 c.val.set)] (.int .i64 (lo c.val)):=by
 obtain ⟨c,S,h1,h2,h3⟩:=c
 grind [lo,NG]
theorem Tn (a b:Cm):PC 124 [.p (Xo a.val),.p (Xo b.val)] (.int .i64 (yD a b)):=by
 refine Zd Tryz.func124 rfl zR ?_;simp (disch:=omega) only [Tryz.f124,go_sem,seval];refine Xn (Zc ?_);refine Zo (DS a.val.typ b.val.typ) (Zc ?_);refine Zo (ZiK a) (Zc ?_);refine Zo (ZiK b) (Zc ?_);refine Zo (DS (lo a.val) (lo b.val)) (Zc ?_);refine Zo (rT [YX a.val.typ b.val.typ,YX (lo a.val) (lo b.val)] false Zb) (Zc ?_)
 rfl
theorem tC (xs:List Cm) (hl:xs.length<=1048576) {H:List AM.Obj} {o:Nat} (hH:H[o]? =some (.elems 7 (xs.map fun c=>Xo c.val))) :
  ACalls Tryz.prog 123 [.sl o 0 xs.length xs.length,.fn (.func 124) [] []] H fun y H'=>y= .tup []/\ ∃ys:List Cm,ys.Perm xs/\ys.Pairwise (fun a b=> ¬yD b a<0)/\H'=H.set o (.elems 7 (ys.map fun c=>Xo c.val)) :=
 ACalls.sortFunc NQ iN 7 Tryz.isAgg107 Tryz.sizeOf107 (fun c:Cm=>Xo c.val) (fun x=>⟨_,rfl,rfl,rfl⟩) yD pG 124 Tn xs Za hH
theorem Dv {n:Nat} {m:Int} {x:Inst} {fst:List (List Col)} {sk:List Int} : ∀(d:Nat) (s:St),∀c∈(Yv n m x fst sk d s).1,∃i,i<fst.length/\c∈nth fst i
 | 0,s,c,h=>by simp [Yv] at h
 | d+1,s,c,h=>by
  rw [Yv] at h
  split at h
  ·simp at h
  ·split at h
   ·rename_i c' hf;simp only [Z3] at h;rcases h with rfl | h
    ·refine ⟨s.ix.toNat,?_,QV hf⟩;rcases WE s.ix.toNat fst.length with h | h
     ·exact h
     ·rw [show nth fst s.ix.toNat= [] from by simp [nth,JS,List.getElem?_eq_none h];rfl] at hf;simp at hf
    ·exact Dv d _ c h
   ·exact Dv d _ c h
def zPlC : Pln:=⟨true,[],true,[]⟩
def nK (x:Inst) (l:List Col) (p:Pln) (c e:Int):Prop:=(8192<l.length/\p=zPlC/\c=0/\e=4)\/(l.length<=8192/\(∃c∈l,rightB x c=false)/\p=zPlC/\c=0/\e=2) \/
 (l.length<=8192/\(∀c∈l,rightB x c=true)/\ ∃ys,Cheap l ys/\ys.length<=l.length/\((Lc x ys<0/\p=zPlC/\c=0/\e=24)\/(0<=Lc x ys/\c=Lc x ys/\e=0 /\
  ∃zs:List Col,zs.Perm (Yv x.orders.length ((Yt x x.orders.length:Nat):Int) x (fstF x.orders.length ys) (skF x x.orders.length) 20 (Vo x.orders.length ((Yt x x.orders.length:Nat):Int) zSt)).1/\zs.Pairwise (fun a b=> ¬pD b a<0) /\
   p=⟨false,zs.map (·.route),false,(Yv x.orders.length ((Yt x x.orders.length:Nat):Int) x (fstF x.orders.length ys) (skF x x.orders.length) 20 (Vo x.orders.length ((Yt x x.orders.length:Nat):Int) zSt)).2⟩)))
theorem Du {n:Nat} {m:Int} {x:Inst} {fst:List (List Col)} {sk:List Int} : ∀(d:Nat) (s:St),(Yv n m x fst sk d s).1.length<=d/\(Yv n m x fst sk d s).2.length<=d
 | 0,s=>by simp [Yv]
 | d+1,s=>by
  rw [Yv]
  split
  ·simp
  ·split
   ·rename_i c' hf;have:=Du (n:=n) (m:=m) (x:=x) (fst:=fst) (sk:=sk) d (VL n m s c');simp;omega
   ·have:=Du (n:=n) (m:=m) (x:=x) (fst:=fst) (sk:=sk) d (Dr n m s);simp;omega
theorem aG (x:Inst) (l:List Col) (lc:Bool) (hx:InstOk x) (hn:x.orders.length<=4) (ht:x.types.length<=1048576) (hs: ∀c∈l,c.set<9223372036854775808) (hl:l.length<=1048576) :
  ACalls Tryz.prog 81 [.p (Zv x),.p (.list lc (l.map Xo))] [] fun y H'=> ∃p c e,nK x l p c e/\y= .tup [.p (JF p),.p (.int .i64 c),.p (.int .i64 e)]/\H'= []:=by
 refine Zf [16] Tryz.func81 rfl Zis ?_;simp (disch:=omega) only [Tryz.f81,go_sem,seval];refine ((Tl x l lc hn ht (fun i=>AK Za (N0 hx _)) hs hl).behind (by rfl) _).mono ?_;rintro y H' ⟨y1,H1,hq,rfl,rfl⟩;rcases hq with ⟨h1,rfl,rfl⟩ | ⟨h1,h2,rfl,rfl⟩ | ⟨h1,h2,ys,⟨hC,hyl⟩,rfl,rfl⟩
 ·simp (disch:=omega) only [shV,shVs,Zm,go_sem,seval];exact ⟨.tup [.p (JF zPlC),.p (.int .i64 0),.p (.int .i64 4)],[],Weak.mk (by simp (disch:=omega) only [zPlC,Zm,go_sem,seval]),_,_,_,Or.inl ⟨h1,rfl,rfl,rfl⟩,rfl,rfl⟩
 ·simp (disch:=omega) only [shV,shVs,Zm,go_sem,seval];exact ⟨.tup [.p (JF zPlC),.p (.int .i64 0),.p (.int .i64 2)],[],Weak.mk (by simp (disch:=omega) only [zPlC,Zm,go_sem,seval]),_,_,_,Or.inr (Or.inl ⟨h1,h2,rfl,rfl,rfl⟩),rfl,rfl⟩
 ·have hok:=Rj hx hn hC h2 hs
  have hcl: ∀r∈fstF x.orders.length ys,r.length<=1048576:=fun r hr=>by
   obtain ⟨p,_,rfl⟩:=XM.1 hr
   grind [Yj]
  obtain ⟨m,hm⟩: ∃m:Int,m=((Yt x x.orders.length:Nat):Int):=⟨_,rfl⟩;obtain ⟨B,hB⟩: ∃B,B=Lc x ys:=⟨_,rfl⟩;simp (disch:=omega) only [shV,shVs,shO,YW,VN,Zq,Zm,List.replicate,ZK,Zy,go_sem,seval];rw [<- hm];refine ACalls.mono ((Gm x (.list false ((fstF x.orders.length ys).map Wr)) (.list false ((skF x x.orders.length).map eI)) m [] zSt rfl (by decide) Za (by decide)).back [Zj x,.cells [.p (.list true []),.p (.list true [])],.cells (List.replicate 6 .junk)] (by rfl)) ?_;rintro y H' ⟨y1,H1,⟨rfl,rfl⟩,rfl,rfl⟩;obtain ⟨v1,_⟩:=LG (m:=m) (wC x.orders.length)
  have hrg:=Ue (m:=m) hok 20 _ v1
  have hbb:B=Wc x.orders.length m x (fstF x.orders.length ys) (skF x x.orders.length) 20 (Vo x.orders.length m zSt):=by rw [hB,Lc,hm]
  rw [<- hbb] at hrg;obtain ⟨R,hR⟩: ∃R,R=Yv x.orders.length m x (fstF x.orders.length ys) (skF x x.orders.length) 20 (Vo x.orders.length m zSt):=⟨_,rfl⟩;obtain ⟨i,w,b0,b1,b2,b3,b4,b5,hw⟩:=YN v1.len;have hRr:=hR;rw [hw] at hbb v1 hR ⊢;simp (disch:=omega) only [shV,shVs,shO,YW,VN,Zq,Zm,List.replicate,ZK,Zy,go_sem,seval];have c3:=((Eu x (fstF x.orders.length ys) (skF x x.orders.length) false false m Za (by simp [fstF]) (by simp [skF]) hok hcl 20 ⟨i,w,[b0,b1,b2,b3,b4,b5]⟩ [] Za v1 (by have:=v1.ix;omega) (fun p hp=>by simp at hp)).mono (fun y H' hq=>(⟨hq,by obtain ⟨l',_,_,rfl⟩:=hq;rfl⟩:_/\H'.length=(YW x (.list false ((fstF x.orders.length ys).map Wr)) (.list false ((skF x x.orders.length).map eI)) m []).length))).front (by rfl) (by rfl) [BA ⟨i,w,[b0,b1,b2,b3,b4,b5]⟩]
  refine ACalls.mono (c3.back [Zj x,.cells [.p (.list true []),.p (.list true [])],.cells (List.replicate 6 .junk)] (by rfl)) ?_;rintro y H' ⟨y1,H1,⟨H2,⟨l',hl',rfl,rfl⟩,rfl⟩,rfl,rfl⟩;rw [<- hbb];simp (disch:=omega) only [shV,shVs,shO,YW,VN,BA,Zq,Zm,List.replicate,ZK,Zy,go_sem,seval];refine cD ?_ ?_<;>intro h3<;>simp (disch:=omega) only [Sh.out h3,go_sem,seval,↓reduceIte]
  ·exact ⟨.tup [.p (JF zPlC),.p (.int .i64 0),.p (.int .i64 24)],[],Weak.mk (by simp (disch:=omega) only [zPlC,Zm,go_sem,seval]),_,_,_,Or.inr (Or.inr ⟨h1,h2,ys,hC,hyl,Or.inl ⟨Za,rfl,rfl,rfl⟩⟩),rfl,rfl⟩
  ·refine ACalls.mono ((Zcx (BA ⟨i,w,[b0,b1,b2,b3,b4,b5]⟩) (by intro H n;simp (disch:=omega) only [BA,Zq,Zm,go_sem,seval]) (by intro o xs;rfl) x (fstF x.orders.length ys) (skF x x.orders.length) false false m Za (by simp [fstF]) (by simp [skF]) hok hcl ⟨i,w,[b0,b1,b2,b3,b4,b5]⟩ l' v1 hl').back [Zj x,.cells [.p (.list true []),.p (.list true [])],.cells (List.replicate 6 .junk)] (by rfl)) ?_;rintro y H' ⟨y1,H1,⟨l2,A,U,hl2,hAU,rfl,rfl⟩,rfl,rfl⟩;rw [<- hR] at hAU;have hlen:=Du (n:=x.orders.length) (m:=m) (x:=x) (fst:=fstF x.orders.length ys) (sk:=skF x x.orders.length) 20 (Vo x.orders.length m zSt)
   rw [<- hRr,<- hAU] at hlen
   have hA: ∀c∈A,∃S:Nat,c.set=S/\0<S/\S<16:=fun c hc=>by
    have hc':c∈(Yv x.orders.length m x (fstF x.orders.length ys) (skF x x.orders.length) 20 (Vo x.orders.length m zSt)).1:=by grind
    obtain ⟨j,hj,hm2⟩:=Dv _ _ _ hc'
    have e:nth (fstF x.orders.length ys) j=Yj ys j:=by
     grind [fstF,Zh]
    rw [e,Yj,Qy] at hm2;obtain ⟨q,hq,hql,_⟩:=hC.bst c hm2.1
    have hmem:c∈l:=by grind [ZX]
    obtain ⟨S,q1,q2,q3,_⟩:=Qh (h2 c hmem) (hs c hmem);exact ⟨S,q1,q2,Uu q3 (Yr (n:=2) Za hn)⟩
   obtain ⟨L,hL⟩: ∃L:List Cm,L.map Subtype.val=A:=⟨A.pmap (fun c h=>⟨c,h⟩) hA,by simp [List.map_pmap]⟩;subst hL
   have hLl:(L.map Subtype.val).length=L.length:=Zb
   have hLe:(L.map Subtype.val).map Xo=L.map fun c=>Xo c.val:=Zb
   simp only at hlen;rw [hLl] at hlen;simp (disch:=omega) only [shV,shVs,shO,YW,VN,BA,Zq,Zm,List.replicate,ZK,Zy,hLl,hLe,go_sem,seval];refine ((tC L Za (H:=_) (o:=7) rfl)).mono ?_;rintro y H' ⟨rfl,zs,hp,hsr,rfl⟩;have hzl:zs.length=L.length:=hp.length_eq;rw [<- hzl] at hlen ⊢;refine KW ?_;obtain ⟨Z,hZ⟩: ∃Z,Z=zs.map Subtype.val:=⟨_,rfl⟩
   have hZl:Z.length=zs.length:=by rw [hZ];simp
   have hZe:Z.map Xo=zs.map fun c=>Xo c.val:=by rw [hZ];simp
   rw [<- hZl] at hlen ⊢
   have htl: ∀k,k<=Z.length->(Z.take k).length=k:=fun k hk=>by simp;omega
   refine Zl [4,10,13,45,46] (fun k:Nat=> [(47,.p (.int .i64 k))]) (fun k=> [Zj x,.cells [.p (.list true []),.p (.list true [])],.cells (List.replicate 6 .junk),.map (l2.map (My AZ)),shO 3 (VN x (.list false ((fstF x.orders.length ys).map Wr)) (.list false ((skF x x.orders.length).map eI)) m),BA ⟨i,w,[b0,b1,b2,b3,b4,b5]⟩,.cells (List.replicate 8 .junk),.elems 7 (Z.map Xo),.cells [.sl 9 0 k k,.p (.list false (U.map eI))],.elems 4 ((Z.take k).map fun c=>Wy c.route)]) (fun k=>k<=Z.length) (fun k=>Z.length-k) 0 Za ((Weak.nilC (o:=8) (j:=0) 4 (by rfl) (by rfl) Zb).trans (Weak.mk ?_)) ?_
   ·simp (disch:=omega) only [hZe,QZ,Z8,ZZ,ZB,ZE,Xj,Nat.reduceAdd,shV,shVs,shO,VN,BA,Zq,Zm,List.replicate,ZK,Zy,Zj,go_sem,seval]
   ·intro k hk;simp (disch:=omega) only [shV,shVs,shO,VN,BA,Zq,Zm,List.replicate,Zj,go_sem,seval];refine cD ?_ ?_<;>intro h4<;>simp (disch:=omega) only [Sh.out h4,go_sem,seval,↓reduceIte]
    ·have hk2:k<Z.length:=Za
     simp (disch:=first | omega | (simp only [ZB,ZE,ZH,Z0,Xr,XF]<;>omega)) only [UO hk2,hk2,go_sem,seval,↓reduceIte]
     have hsc:Z.take (k+1)=Z.take k++ [nth Z k]:=by rw [X9 hk2,Zh hk2]
     rw [if_pos ⟨htl k hk,Za,Za⟩];simp (disch:=omega) only [htl k hk,Z0,ZH,ZB,ZE,Xj,eq_self,Vz,go_sem,seval];exact ⟨k+1,Za,Za,Weak.mk (by simp (disch:=omega) only [hsc,XG,Zq,Zm,go_sem,seval])⟩
    ·have hkl:k=Z.length:=Za
     subst hkl;refine Zp (Weak.fz (o:=9) (by rfl)) ?_;refine Zg [] _ _ _ _ ?_;simp (disch:=omega) only [Zq,Zm,Z8,ZZ,YT,go_sem,seval];exact ⟨.tup [.p (JF ⟨false,Z.map (·.route),false,U⟩),.p (.int .i64 B),.p (.int .i64 0)],[],Weak.mk (by simp (disch:=omega) only [List.map_map,Function.comp_def,go_sem,seval]),_,_,_,Or.inr (Or.inr ⟨h1,h2,ys,hC,hyl,Or.inr ⟨Za,hB,rfl,Z,by grind,by rw [hZ];exact List.pairwise_map.2 hsr,by grind⟩⟩),rfl,rfl⟩
def Zmu (x:Inst) (l:List Col) (a e:Int):Prop:=(8192<l.length/\a=0/\e=4)\/(l.length<=8192/\(∃c∈l,rightB x c=false)/\a=0/\e=2) \/
 (l.length<=8192/\(∀c∈l,rightB x c=true)/\ ∃ys,Cheap l ys/\a=(if Lc x ys<0 then 0 else Lc x ys)/\e=(if Lc x ys<0 then 24 else 0))
def ky (l:List Col) (a:Int):Int×Int×Int:=if a<0 then (1,0,0) else (0,(nth l a.toNat).typ,(nth l a.toNat).set)
def jA (a b:Int×Int×Int):Prop:=a.1<b.1\/(a.1=b.1/\(a.2.1<b.2.1\/(a.2.1=b.2.1/\a.2.2<b.2.2)))
def KE (n:Nat) (l:List Col) (a b:List Int):Prop:= ∀t,t<n->ky l (nth a t)=ky l (nth b t)/\nth a t<=nth b t
def KL (n:Nat) (l:List Col) (a b:List Int):Prop:=(∃i,i<n/\(∀t,t<i->ky l (nth a t)=ky l (nth b t))/\jA (ky l (nth a i)) (ky l (nth b i)))\/KE n l a b
def mI (x:Inst):Int:=((Yt x x.orders.length:Nat):Int)
theorem FM {x:Inst} (hn:x.orders.length<=4) {k:Nat} (hk:k<x.orders.length):sHas (mI x) k= !(nth x.orders k).off:=by
 grind [mI,WI,UZ]
theorem BV {n:Nat} {s:St} (h:StV n s) {k:Nat} (hk:k<=62):sHas s.cov k=s.cov.toNat.testBit k:=by
 obtain ⟨C,hC,_⟩:=h.cov
 grind [WI]
structure Ctx (x:Inst) (l ys:List Col):Prop where
 n4:x.orders.length<=4
 t6:x.types.length<=6
 ch:Cheap l ys
 rt: ∀c∈l,rightB x c=true
 st: ∀c∈l,c.set<9223372036854775808
 ok:ChOk x.orders.length x (fstF x.orders.length ys) (skF x x.orders.length)
 sk: ∀k,k<x.orders.length->(nth x.orders k).off=false->(0<=(nth x.orders k).penalty↔0<=skpF x k)/\(0<=skpF x k->skpF x k=skR x k)
theorem Zcj : ∀S:Fin 16,0<S.val-> ∀k:Fin 4,(AT S.val=(k.val:Int)↔(S.val.testBit k.val=true/\ ∀i:Fin 4,i.val<k.val->S.val.testBit i.val=false)):=by decide+kernel
theorem PS {S n k:Nat} (hS:0<S) (h:S<2^n) (hn:n<=4) (hk:k<n):AT S=(k:Int)↔(S.testBit k=true/\ ∀i,i<n->S.testBit i=true->k<=i):=by
 have h16:S<16:=Uu h (Yr (n:=2) Za hn);rw [show AT S=(k:Int)↔_ from Zcj ⟨S,h16⟩ hS ⟨k,Za⟩];refine and_congr_right fun _=>⟨fun g i hi hb=> ?_,fun g i hi=> ?_⟩
 ·rcases WE i k with h1 | h1
  ·have:=g ⟨i,Za⟩ h1
   grind
  ·exact h1
 grind
theorem Ctx.set {x:Inst} {l ys:List Col} (h:Ctx x l ys) {c:Col} (hc:c∈l):c.set=(c.set.toNat:Int)/\0<c.set.toNat/\c.set.toNat<2^x.orders.length/\ ∀i,c.set.toNat.testBit i=true->i<x.orders.length/\(nth x.orders i).off=false:=by
 obtain ⟨S,h1,h2,h3,h4⟩:=Qh (h.rt c hc) (h.st c hc)
 grind
theorem Ctx.typ {x:Inst} {l ys:List Col} (h:Ctx x l ys) {c:Col} (hc:c∈l):(0<=c.typ/\c.typ<x.types.length)/\0<=c.price:=by
 have:=h.rt c hc;simp only [rightB,ZF,Zs] at this;omega
structure Nd (x:Inst) (l:List Col) (a:List Int) (s:St) (k:Nat):Prop where
 len:a.length=x.orders.length
 ix:s.ix=k
 v:StV x.orders.length s
 cov: ∀i,i<x.orders.length->s.cov.toNat.testBit i=decide (0<=nth a i)
 rng: ∀i,i<x.orders.length-> -1<=nth a i/\nth a i<l.length
 used: ∀T:Nat,T<6->nth s.used T=usdI l a T x.orders.length
 grp: ∀i,i<x.orders.length->0<=nth a i-> ∀t,t<x.orders.length->(nth l (nth a i).toNat).set.toNat.testBit t=true->nth a t=nth a i
 old: ∀i,i<x.orders.length->k<=i->0<=nth a i-> ∃t,t<k/\(nth l (nth a i).toNat).set.toNat.testBit t=true
 own: ∀i,i<x.orders.length->0<=nth a i->(nth l (nth a i).toNat).set.toNat.testBit i=true
def GF (s:St):St:= { s with ix:=s.ix+1 }
def AB (s:St) (c:Col):St:=⟨s.ix+1,((s.cov.toNat|||c.set.toNat:Nat):Int),s.used.set c.typ.toNat (nth s.used c.typ.toNat+1)⟩
theorem Nd.skip {x:Inst} {l:List Col} {a:List Int} {s:St} {k:Nat} (h:Nd x l a s k) (hk:k<x.orders.length) (ho:0<=nth a k-> ∃t,t<k/\(nth l (nth a k).toNat).set.toNat.testBit t=true):Nd x l a (GF s) (k+1) :=
 ⟨h.len,by simp only [GF,h.ix];omega,⟨h.v.len,by have:=h.ix;simp only [GF];omega,h.v.cov,h.v.used⟩,h.cov,h.rng,h.used,h.grp,fun i hi hki h0=>by
  obtain ⟨t,h1,h2⟩:=h.old i hi Za h0
  grind,h.own⟩
theorem Nd.skip' {x:Inst} {l:List Col} {a:List Int} {s:St} {k:Nat} (h:Nd x l a s k) (hk:k<x.orders.length):Nd x l a (GF s) (k+1):=h.skip hk fun h0=>h.old k hk (ZD _) h0
theorem Ri {x:Inst} {l ys:List Col} (hc:Ctx x l ys) {a:List Int} {s:St} {k j:Nat} (h:Nd x l a s k) (hk:k<x.orders.length) (hj:j<l.length):Ki x l a j k=true↔(YF x s (nth l j)=true/\AT (nth l j).set.toNat=(k:Int)):=by
 obtain ⟨hS,hS0,hS1,hS2⟩:=hc.set (ZX hj);obtain ⟨⟨ht0,ht1⟩,_⟩:=hc.typ (ZX hj);have ht6:=hc.t6;have hu:=h.used (nth l j).typ.toNat Za;rw [show (((nth l j).typ.toNat:Nat):Int)=(nth l j).typ by omega] at hu;rw [PS hS0 hS1 hc.n4 hk];simp only [Ki,YF,Ec,ZF,Zs,J1,h.len,hu]
 constructor
 ·rintro ⟨h1,h2,h3⟩;refine ⟨⟨Cn fun i=> ?_,h2⟩,h1,fun i hi hb=>(h3 i hi hb).2⟩;rw [Nat.testBit_and,Nat.zero_testBit]
  cases hb:(nth l j).set.toNat.testBit i with
  | false=>simp
  | true =>
   have hi:=(hS2 i hb).1;rw [h.cov i hi,JP,XZ]
   grind
 ·rintro ⟨⟨h1,h2⟩,h3,h4⟩;refine ⟨h3,h2,fun i hi hb=>⟨?_,h4 i hi hb⟩⟩;have:=ZW (fun z=>z.testBit i) h1;simp only [Nat.testBit_and,Nat.zero_testBit,hb,JP] at this;rw [h.cov i hi,XZ] at this;omega
theorem Ie {x:Inst} {l:List Col} {a:List Int} {k:Nat} {S:Nat} {j:Nat} (hl:a.length=x.orders.length) (hk:k<x.orders.length) (hb:S.testBit k=true) (hneg: ∀i,i<x.orders.length->S.testBit i=true->nth a i<0/\k<=i) (hfr: ∀i,i<x.orders.length->S.testBit i=false->nth a i≠(j:Int)) (T:Int) :
  ∀m,m<=x.orders.length->usdI l (VJ S a j) T m=usdI l a T m+(if k<m/\(nth l j).typ=T then 1 else 0)
 | 0,_=>by simp [usdI]
 | i+1,hm=>by
  have hi:i<a.length:=Za
  rw [usdI,usdI,Ie hl hk hb hneg hfr T i Za];have ZP: ∀t,t<i->nth (VJ S a j) t=if S.testBit t=true then (j:Int) else nth a t:=fun t ht=>Xx Za
  cases hs:S.testBit i with
  | false =>
   have e:K2 l (VJ S a j) T i=K2 l a T i:=by
    rw [K2,K2,Xx hi,hs,if_neg Zb]
    by_cases h0:0<=nth a i
    ·have ef:TH (VJ S a j) i=TH a i:=by
      rw [Wm,B3,B3,Xx hi,hs,if_neg Zb]
      grind
     rw [ef]
    ·simp [h0]
   grind
  | true =>
   obtain ⟨hn,hki⟩:=hneg i Za hs
   have e2:K2 l a T i=false:=by
    simp_all [K2,JZ]
   have e1:K2 l (VJ S a j) T i=(decide ((nth l j).typ=T)&&decide (k=i)):=by
    rw [K2,Xx hi,hs,if_pos rfl,Q0 Za,VC,XU]
    congr 1
    rw [Wm,B3,Xx hi,hs,if_pos rfl,Zs]
    grind
   grind
theorem Nd.child {x:Inst} {l ys:List Col} (hc:Ctx x l ys) {a:List Int} {s:St} {k j:Nat} (h:Nd x l a s k) (hk:k<x.orders.length) (hj:j<l.length) (hcan:Ki x l a j k=true):Nd x l (VJ (nth l j).set.toNat a j) (AB s (nth l j)) (k+1):=by
 obtain ⟨hS,hS0,hS1,hS2⟩:=hc.set (ZX hj);obtain ⟨⟨ht0,ht1⟩,_⟩:=hc.typ (ZX hj);have ht6:=hc.t6;have hl6:s.used.length=6:=h.v.len;have hu:=h.used (nth l j).typ.toNat Za;rw [show (((nth l j).typ.toNat:Nat):Int)=(nth l j).typ by omega] at hu;have hcan':=hcan;simp only [Ki,ZF,Zs,J1,h.len] at hcan';obtain ⟨hb,hcnt,hneg⟩:=hcan';rw [<- hu] at hcnt;have hcount:=hc.ok.typ.2 (nth l j).typ.toNat Za;have hak:=(hneg k hk hb).1
 have hfr: ∀i,i<x.orders.length->(nth l j).set.toNat.testBit i=false->nth a i≠(j:Int):=fun i hi _ e=>by
  have:=h.grp i hi Za k hk (by grind [XU]);omega
 obtain ⟨C,hC,hC2⟩:=h.v.cov;have hS10:(nth l j).set.toNat<1024:=Uu hS1 (Yr (n:=2) Za (show x.orders.length<=10 by have:=hc.n4;omega));refine ⟨by rw [Uk];exact h.len,by simp only [AB,h.ix];omega,⟨by simp only [StR,AB,Qx];exact hl6,by have:=h.ix;simp only [AB];omega,⟨_,rfl,?_⟩,fun t ht=> ?_⟩,fun i hi=> ?_,fun i hi=> ?_,fun T hT=> ?_,fun i hi h0 t ht hbt=> ?_,fun i hi hki h0=> ?_,fun i hi h0=> ?_⟩
 ·rw [hC,XU];exact QX (n:=10) hC2 hS10
 ·simp only [AB];rw [Cw Za]
  split
  ·omega
  ·exact h.v.used t ht
 ·simp only [AB,XU];rw [As,h.cov i hi,Xx (by rw [h.len];exact hi)]
  grind
 ·rw [Xx (by rw [h.len];exact hi)]
  split
  ·omega
  ·exact h.rng i hi
 ·simp only [AB];rw [Cw Za,Ie h.len hk hb hneg hfr T _ (ZD _),h.used T hT]
  grind
 ·rw [Xx (i:=i) (by rw [h.len];exact hi)] at h0 hbt ⊢;rw [Xx (i:=t) (by rw [h.len];exact ht)]
  cases hbi:(nth l j).set.toNat.testBit i with
  | true =>
   rw [hbi,if_pos rfl,XU] at hbt
   grind
  | false =>
   rw [hbi,if_neg Zb] at h0 hbt;have e:=h.grp i hi h0 t ht hbt
   grind
 ·rw [Xx (by rw [h.len];exact hi)] at h0 ⊢
  cases hbi:(nth l j).set.toNat.testBit i with
  | true =>
   rw [if_pos rfl,XU]
   grind
  | false =>
   rw [hbi,if_neg Zb] at h0;rw [if_neg Zb];obtain ⟨t,h1,h2⟩:=h.old i hi Za h0
   grind
 ·rw [Xx (by rw [h.len];exact hi)] at h0 ⊢
  cases hbi:(nth l j).set.toNat.testBit i with
  | true=>rw [if_pos rfl,XU];exact hbi
  | false =>
   rw [hbi,if_neg Zb] at h0;rw [if_neg Zb];exact h.own i hi h0
def Lx (x:Inst) (ys:List Col) (D:Nat) (s:St):Int:=Wc x.orders.length (mI x) x (fstF x.orders.length ys) (skF x x.orders.length) D (Vo x.orders.length (mI x) s)
theorem cM {x:Inst} {ys:List Col} {D:Nat} {s:St} (h:s.ix=x.orders.length):Lx x ys D s=0:=by
 unfold Lx
 cases D with
 | zero=>rfl
 | succ D =>
  simp_all [Wc,Vo,CT]
theorem DD {n:Nat} {m:Int} {s:St} {k:Nat} (hk:s.ix=k) (hkn:k<n) (hc:sHas m k=false\/sHas s.cov k=true):Vo n m s=Vo n m (GF s):=by
 simp_all [Vo,GF,EQ]
theorem DE {n:Nat} {m:Int} {s:St} {k:Nat} (hk:s.ix=k) (h1:sHas m k=true) (h2:sHas s.cov k=false):Vo n m s=s:=by
 obtain ⟨i,v,u⟩:=s
 simp_all [Vo,DF]
theorem GC {n:Nat} {m:Int} {s:St} {c:Col} {k:Nat} (hk:s.ix=k) (hkn:k<n) (hn:n<=4) (hb:c.set.toNat.testBit k=true):VL n m s c=Vo n m (AB s c):=by
 have e:=DD (n:=n) (m:=m) (s:=⟨s.ix,((s.cov.toNat|||c.set.toNat:Nat):Int),s.used.set c.typ.toNat (nth s.used c.typ.toNat+1)⟩) (k:=k) hk hkn (.inr (by
  simp only
  rw [WI _ _ Za,As,hb,Bool.or_true]))
 exact e
theorem KQ {x:Inst} {l ys:List Col} (hc:Ctx x l ys) {k:Nat} (hk:k<x.orders.length) {c:Col} (hm:c∈Yj ys k):c∈ys/\c∈l/\AT c.set.toNat=(k:Int)/\c.set.toNat.testBit k=true:=by
 rw [Yj,Qy,Zs] at hm;have hl:=eQ hc.ch hm.1;obtain ⟨_,h0,h1,_⟩:=hc.set hl;exact ⟨hm.1,hl,hm.2,((PS h0 h1 hc.n4 hk).1 hm.2).1⟩
theorem Oh {x:Inst} {l ys:List Col} (hc:Ctx x l ys) {D:Nat} (hD:10<D) {s:St} {k:Nat} (hv:StV x.orders.length s) (hk:s.ix=k) (hkn:k<x.orders.length) (ho:(nth x.orders k).off=false) (hcv:s.cov.toNat.testBit k=false) :
  Lx x ys D s=if 0<=skpF x k then YV ((Yj ys k).foldl (fun o c=>if YF x s c=true then YV o c.price (Lx x ys D (AB s c)) else o) (-1)) (skpF x k) (Lx x ys D (GF s)) else (Yj ys k).foldl (fun o c=>if YF x s c=true then YV o c.price (Lx x ys D (AB s c)) else o) (-1):=by
 have hn:=hc.n4
 have e1:Lx x ys D s=Wc x.orders.length (mI x) x (fstF x.orders.length ys) (skF x x.orders.length) (D+1) s:=by
  rw [Lx,DE hk (by grind [FM]) (by grind [BV])];exact Jj hc.ok _ _ s hv Za Za
 rw [e1,Wc,if_neg Za]
 have e2:nth (fstF x.orders.length ys) s.ix.toNat=Yj ys k:=by simp_all [Nc]
 have e3:nth (skF x x.orders.length) s.ix.toNat=skpF x k:=by grind [skF,Zh]
 have e4:(Yj ys k).foldl (fun o c=>if YF x s c=true then YV o c.price (Wc x.orders.length (mI x) x (fstF x.orders.length ys) (skF x x.orders.length) D (VL x.orders.length (mI x) s c)) else o) (-1)=(Yj ys k).foldl (fun o c=>if YF x s c=true then YV o c.price (Lx x ys D (AB s c)) else o) (-1) :=
  JH fun c hm o=>by rw [GC hk hkn hn (KQ hc hkn hm).2.2.2];rfl
 simp only [e2,e3,e4]
 rfl
def KS (x:Inst) (ys:List Col) (D:Nat) (s:St) (c:Col):Bool:=YF x s c&&(decide (0<=Lx x ys D (AB s c))&&decide (c.price+Lx x ys D (AB s c)=Lx x ys D s))
noncomputable def Br (l:List Col) (d:Col):Nat:=open Classical in if h:Bst l l.length d then h.choose else 0
theorem Sf {l:List Col} {d:Col} (h:Bst l l.length d):Br l d<l.length/\nth l (Br l d)=d/\ ∀i,i<l.length->kd (nth l i)=kd d->d.price<(nth l i).price\/(d.price=(nth l i).price/\Br l d<=i):=by
 have e:Br l d=h.choose:=by rw [Br,dif_pos h]
 grind
noncomputable def gr (x:Inst) (l ys:List Col) (D:Nat):Nat->Nat->St->List Int->List Int
 | 0,_,_,a=>a
 | d+1,k,s,a=>if (nth x.orders k).off=true\/0<=nth a k then gr x l ys D d (k+1) (GF s) a else
  match (Yj ys k).find? (KS x ys D s) with
  | some c=>gr x l ys D d (k+1) (AB s c) (VJ c.set.toNat a (Br l c))
  | none=>gr x l ys D d (k+1) (GF s) a
theorem J0 {x:Inst} {l ys:List Col} (hc:Ctx x l ys) {a:List Int} {s:St} {k:Nat} (h:Nd x l a s k) (hk:k<x.orders.length) {c:Col} (hm:c∈Yj ys k) (hy:YF x s c=true):Br l c<l.length/\nth l (Br l c)=c/\Ki x l a (Br l c) k=true:=by
 obtain ⟨h1,h2,h3,h4⟩:=KQ hc hk hm;obtain ⟨p1,p2,_⟩:=Sf (hc.ch.bst c h1)
 grind [Ri]
theorem BT {x:Inst} {l:List Col} {a:List Int} {k j:Nat} (hl:a.length=x.orders.length) (hcan:Ki x l a j k=true):(nth l j).set.toNat.testBit k=true/\ ∀t,t<x.orders.length->(t<k\/0<=nth a t)->nth (VJ (nth l j).set.toNat a j) t=nth a t:=by
 simp only [Ki,ZF,J1,hl] at hcan
 grind [Xx]
theorem Dg {x:Inst} {l ys:List Col} (hc:Ctx x l ys) {D:Nat} : ∀(d k:Nat) (s:St) (a:List Int),k+d=x.orders.length->Nd x l a s k->(gr x l ys D d k s a).length=x.orders.length/\ ∀t,t<x.orders.length->(t<k\/0<=nth a t)->nth (gr x l ys D d k s a) t=nth a t
 | 0,k,s,a,_,h=>⟨h.len,fun _ _ _=>rfl⟩
 | d+1,k,s,a,hd,h=>by
  have hk:k<x.orders.length:=Za
  rw [gr];have skip:=Dg hc (D:=D) d (k+1) (GF s) a Za (h.skip' hk)
  split
  ·grind
  ·split
   ·rename_i c hf;have hsel:=Qw hf;simp only [KS,ZF] at hsel;obtain ⟨p1,p2,p3⟩:=J0 hc h hk (QV hf) hsel.1;have hch:=h.child hc hk p1 p3;rw [p2] at hch;have ho:=(BT h.len p3).2;rw [p2] at ho;obtain ⟨g1,g2⟩:=Dg hc (D:=D) d (k+1) (AB s c) _ Za hch;refine ⟨g1,fun t ht hh=> ?_⟩
    rw [g2 t ht (by
     rcases hh with h1 | h1
     ·left;omega
     ·right;rw [ho t ht (.inr h1)];exact h1),ho t ht hh]
   grind
theorem Cs {x:Inst} {l:List Col} : ∀(d:Nat) (a:List Int) (p:Int),d<=x.orders.length->a.length=x.orders.length-> ∀q∈Q6 x l d a p,q.1.length=x.orders.length/\ ∀t,t<x.orders.length->(t<x.orders.length-d\/0<=nth a t)->nth q.1 t=nth a t
 | 0,a,p,_,h,q,hq=>by
  simp only [Q6,Z3,Y3,Wn] at hq
  grind
 | d+1,a,p,hd,h,q,hq=>by
  rw [Q6] at hq
  split at hq
  ·obtain ⟨g1,g2⟩:=Cs d a p Za h q hq;exact ⟨g1,fun t ht hh=>g2 t ht (hh.imp Za id)⟩
  ·rw [Xg,XQ] at hq;rcases hq with ⟨j,hj,hq⟩ | hq
   ·split at hq
    ·rename_i hcan;have ho:=(BT h hcan).2;obtain ⟨g1,g2⟩:=Cs d _ _ Za (by rw [Uk];exact h) q hq;refine ⟨g1,fun t ht hh=> ?_⟩
     rw [g2 t ht (by
      rcases hh with h1 | h1
      ·left;omega
      ·right;rw [ho t ht (.inr h1)];exact h1),ho t ht hh]
    ·simp at hq
   ·split at hq
    ·obtain ⟨g1,g2⟩:=Cs d a _ Za h q hq;exact ⟨g1,fun t ht hh=>g2 t ht (hh.imp Za id)⟩
    ·simp at hq
theorem KE.refl {n:Nat} {l:List Col} {a:List Int} :KE n l a a:=fun _ _=>⟨rfl,Int.le_refl _⟩
theorem Zch {l:List Col} {a:Int} (h:a<0):ky l a=(1,0,0):=if_pos h
theorem I8 {l:List Col} {a:Int} (h:0<=a):ky l a=(0,(nth l a.toNat).typ,(nth l a.toNat).set):=if_neg Za
theorem ZiD {l:List Col} {i j:Nat} :ky l (i:Int)=ky l (j:Int)↔kd (nth l i)=kd (nth l j):=by
 grind [I8,kd]
theorem gW {x:Inst} {s:St} {r:Col->Int} {ls:List Col} (hp: ∀c∈ls,0<=c.price) (hr: ∀c∈ls,YF x s c=true-> -1<=r c) {c:Col} (hc:c∈ls) (hy:YF x s c=true) (h0:0<=r c) :
  cG (ls.foldl (fun o c=>if YF x s c=true then YV o c.price (r c) else o) (-1)) (c.price+r c):=by
 have e:=JH (f:=fun o c=>if YF x s c=true then YV o c.price (r c) else o) (g:=fun o c=>if YF x s c=true then YV o c.price (max (-1) (r c)) else o) (l:=ls) (b:=(-1:Int)) fun c hc o=>by
  grind
 rw [e];have:=(RB (x:=x) (s:=s) (r:=fun c=>max (-1) (r c)) (fun c=>Za) (l:=ls) (a:= -1) hp).2 c hc hy Za
 grind
theorem Oi {x:Inst} {l ys:List Col} (hc:Ctx x l ys) {D:Nat} {s:St} (hv:StV x.orders.length s): -1<=Lx x ys D s:=(Ue (m:=mI x) hc.ok D _ (LG hv).1).1
theorem Rg {o p r:Int} (hr: -1<=r) (hp:0<=p):cG (YV o p r) o/\(0<=r->cG (YV o p r) (p+r)):=by
 grind [cG,YV]
theorem wE {x:Inst} {l ys:List Col} (hc:Ctx x l ys) {D:Nat} (hD:10<D) {a:List Int} {s:St} {k:Nat} (h:Nd x l a s k) (hk:k<x.orders.length) (ho:(nth x.orders k).off=false) (hak:nth a k<0) {c:Col} (hm:c∈Yj ys k) (hy:YF x s c=true) (h0:0<=Lx x ys D (AB s c)) :
  cG (Lx x ys D s) (c.price+Lx x ys D (AB s c)):=by
 have hcv:s.cov.toNat.testBit k=false:=by rw [h.cov k hk];grind
 rw [Oh hc hD h.v h.ix hk ho hcv]
 have nd: ∀e∈Yj ys k,YF x s e=true->StV x.orders.length (AB s e):=fun e he hye=>by
  obtain ⟨p1,p2,p3⟩:=J0 hc h hk he hye;have:=(h.child hc hk p1 p3).v
  grind
 have low:=gW (x:=x) (s:=s) (r:=fun c=>Lx x ys D (AB s c)) (ls:=Yj ys k) (fun e he=>(hc.typ (KQ hc hk he).2.1).2) (fun e he hye=>Oi hc (nd e he hye)) hm hy h0
 split
 ·rename_i hs;have b:=(Rg (o:=(Yj ys k).foldl (fun o c=>if YF x s c=true then YV o c.price (Lx x ys D (AB s c)) else o) (-1)) (Oi hc (D:=D) (h.skip' hk).v) hs).1
  grind [cG]
 ·exact low
theorem nL {x:Inst} {l ys:List Col} (hc:Ctx x l ys) {D:Nat} (hD:10<D) {a:List Int} {s:St} {k:Nat} (h:Nd x l a s k) (hk:k<x.orders.length) (ho:(nth x.orders k).off=false) (hak:nth a k<0) (hs:0<=skpF x k) (h0:0<=Lx x ys D (GF s)) :
  cG (Lx x ys D s) (skpF x k+Lx x ys D (GF s)):=by
 have hcv:s.cov.toNat.testBit k=false:=by rw [h.cov k hk];grind
 rw [Oh hc hD h.v h.ix hk ho hcv,if_pos hs]
 grind [Rg]
theorem PZ {x:Inst} {l ys:List Col} (hc:Ctx x l ys) {D:Nat} {a:List Int} {s:St} {k:Nat} (h:Nd x l a s k) (hk:k<x.orders.length) (ho:(nth x.orders k).off=true\/0<=nth a k):Lx x ys D s=Lx x ys D (GF s):=by
 unfold Lx;rw [DD h.ix hk (ho.imp (fun e=>by rw [FM hc.n4 hk,e];rfl) fun e=>by rw [BV h.v (by have:=hc.n4;omega),h.cov k hk];grind)]
theorem B4 {x:Inst} {l ys:List Col} (hc:Ctx x l ys) {D:Nat} (hD:10<D): ∀(d k:Nat) (s:St) (a b:List Int) (p:Int),k+d=x.orders.length->Nd x l a s k->Nd x l b s k->KE x.orders.length l a b-> ∀q∈Q6 x l d b p,
  0<=Lx x ys D s/\p+Lx x ys D s<=q.2/\(q.2=p+Lx x ys D s->KL x.orders.length l (gr x l ys D d k s a) q.1)
 | 0,k,s,a,b,p,hd,ha,hb,he,q,hq=>by
  simp only [Q6,Z3,Y3,Wn] at hq;subst hq;rw [cM (by rw [ha.ix];omega)];exact ⟨Za,Zb,fun _=> .inr he⟩
 | d+1,k,s,a,b,p,hd,ha,hb,he,q,hq=>by
  have hk:k<x.orders.length:=Za
  have hkd:x.orders.length-(d+1)=k:=Za
  have hneg: ∀t,t<x.orders.length->(0<=nth a t↔0<=nth b t):=fun t ht=>by
   have h1:=ha.cov t ht;rw [hb.cov t ht,decide_eq_decide] at h1;exact h1.symm
  rw [Q6,hkd] at hq;rw [gr]
  split at hq
  ·rename_i ho;have ho':(nth x.orders k).off=true\/0<=nth a k:=ho.imp id (hneg k hk).2;rw [if_pos ho',PZ hc ha hk ho'];exact B4 hc hD d (k+1) (GF s) a b p Za (ha.skip' hk) (hb.skip' hk) he q hq
  ·rename_i ho;have ho': ¬((nth x.orders k).off=true\/0<=nth a k):=fun g=>ho (g.imp id (hneg k hk).1);rw [if_neg ho']
   have hoff:(nth x.orders k).off=false:=by
    grind
   have hbk:nth b k<0:=Int.not_le.1 fun g=>ho (.inr g);have hak:nth a k<0:=Int.not_le.1 fun g=>ho' (.inr g)
   -- what was picked stands at k
   have hpick: ∀c,(Yj ys k).find? (KS x ys D s)=some c->YF x s c=true/\c∈ys/\(∀t,t<k->nth (gr x l ys D d (k+1) (AB s c) (VJ c.set.toNat a (Br l c))) t=nth a t)/\nth (gr x l ys D d (k+1) (AB s c) (VJ c.set.toNat a (Br l c))) k=Br l c/\nth l (Br l c)=c:=fun c hf=>by
    have hsel:=Qw hf;simp only [KS,ZF] at hsel;obtain ⟨p1,p2,p3⟩:=J0 hc ha hk (QV hf) hsel.1;have hch:=ha.child hc hk p1 p3;obtain ⟨c1,c2⟩:=BT ha.len p3;rw [p2] at hch c1 c2;have g2:=(Dg hc (D:=D) d (k+1) (AB s c) _ Za hch).2;refine ⟨hsel.1,(KQ hc hk (QV hf)).1,fun t ht=> ?_,?_,p2⟩
    ·grind
    ·rw [g2 k hk (.inl Za),Xx (by rw [ha.len];exact hk),if_pos c1]
   rw [Xg,XQ] at hq;rcases hq with ⟨j,hj,hq⟩ | hq
   ·have hj:=ZL.1 hj
    split at hq
    ·rename_i hcan;obtain ⟨hy,htz⟩:=(Ri hc hb hk hj).1 hcan;have hjl:=ZX hj;obtain ⟨d',hd',hkd',hpr⟩:=eU hc.ch hjl
     have hst:d'.set=(nth l j).set/\d'.typ=(nth l j).typ:=by
      grind [kd]
     have hm:d'∈Yj ys k:=by
      simp_all [Yj]
     have hy':YF x s d'=true:=by grind [YF]
     have hnx:AB s d'=AB s (nth l j):=by grind [AB]
     have hcb:=hb.child hc hk hj hcan;obtain ⟨cb1,cb2⟩:=BT hb.len hcan;have hqo:=(Cs d _ _ Za (by rw [Uk];exact hb.len) q hq).2
     have hqt: ∀t,t<k->nth q.1 t=nth b t:=fun t ht=>by rw [hqo t Za (.inl Za),cb2 t Za (.inl ht)]
     have hqk:nth q.1 k=j:=by rw [hqo k hk (.inl Za),Xx (by rw [hb.len];exact hk),if_pos cb1]
     obtain ⟨i1,i2,_⟩:=B4 hc hD d (k+1) _ _ _ _ Za hcb hcb KE.refl q hq;rw [<- hnx] at i1 i2;have hle:=wE hc hD ha hk hoff hak hm hy' i1;have hp0:=(hc.typ (KQ hc hk hm).2.1).2
     have hL0:0<=Lx x ys D s/\Lx x ys D s<=d'.price+Lx x ys D (AB s d'):=by
      rcases hle with h | h
      ·-- the least price would be lacking: not so, azs the column leads on
       omega
      ·exact h
     refine ⟨hL0.1,Za,fun hqc=> ?_⟩
     have hpe:d'.price=(nth l j).price:=Za
     have hLe:d'.price+Lx x ys D (AB s d')=Lx x ys D s:=Za
     have hsel:KS x ys D s d'=true:=by simp_all [KS]
     have hpos:=Sf (hc.ch.bst d' hd')
     have hpj:Br l d'<=j:=by
      rcases hpos.2.2 j hj hkd'.symm with h | h
      ·omega
      ·exact h.2
     cases hf:(Yj ys k).find? (KS x ys D s) with
     | none=>rw [Ak] at hf;simp_all
     | some c =>
      obtain ⟨k1,k2,k3,k4,k5⟩:=hpick c hf;simp only
      by_cases hcd:c=d'
      ·subst hcd;obtain ⟨p1,p2,p3⟩:=J0 hc ha hk hm hy';have hca:=ha.child hc hk p1 p3;rw [p2] at hca;rw [<- hnx] at hcb;refine (B4 hc hD d (k+1) _ _ _ _ Za hca hcb (fun t ht=> ?_) q hq).2.2 Za;rw [hst.1,Xx (by rw [ha.len];exact ht),Xx (by rw [hb.len];exact ht)]
       cases hbt:(nth l j).set.toNat.testBit t with
       | true =>
        rw [if_pos rfl,if_pos rfl,ZiD,p2]
        grind
       | false =>
        rw [if_neg Zb,if_neg Zb];exact he t ht
      ·-- an earlier kind
       have hlt:cfK c d'<0:=by
        have hpw:(Yj ys k).Pairwise fun a b=>cfK a b<0:=hc.ch.asc.filter _;obtain ⟨_,u,w,hab,hno⟩:=List.find?_eq_some_iff_append.1 hf;rw [hab] at hpw hm;rw [ED,List.pairwise_cons] at hpw;rcases Xg.1 hm with h | h
        ·have:=hno d' h
         grind
        ·rcases Z3.1 h with h | h
         ·grind
         ·exact hpw.2.1.1 d' h
       rw [Fk] at hlt;refine .inl ⟨k,hk,fun t ht=> ?_,?_⟩
       ·rw [k3 t ht,hqt t ht];exact (he t Za).1
       ·rw [k4,hqk,I8 Za,I8 Za,XU,XU,k5]
        right
        grind
    ·simp at hq
   ·split at hq
    ·rename_i hpen;obtain ⟨s1,s2⟩:=hc.sk k hk hoff;have hs0:=s1.1 hpen;have hse:=s2 hs0;rw [<- hse] at hq;have hqo:=(Cs d _ _ Za hb.len q hq).2;obtain ⟨i1,i2,i3⟩:=B4 hc hD d (k+1) (GF s) a b _ Za (ha.skip' hk) (hb.skip' hk) he q hq;have hle:=nL hc hD ha hk hoff hak hs0 i1;have hrg:=Oi hc (D:=D) ha.v
     have hL0:0<=Lx x ys D s/\Lx x ys D s<=skpF x k+Lx x ys D (GF s):=by
      rcases hle with h | h
      ·omega
      ·exact h
     refine ⟨hL0.1,Za,fun hqc=> ?_⟩
     cases hf:(Yj ys k).find? (KS x ys D s) with
     | none=>grind
     | some c =>
      obtain ⟨k1,k2,k3,k4,k5⟩:=hpick c hf;simp only;refine .inl ⟨k,hk,fun t ht=> ?_,?_⟩
      ·rw [k3 t ht,hqo t Za (.inl Za)];exact (he t Za).1
      ·rw [k4,hqo k hk (.inl Za),I8 Za,Zch hbk]
       left;omega
    ·simp at hq
theorem N7 {x:Inst} {S:Nat} (hn:x.orders.length<=4) (hS:S<9223372036854775808):PX S (Yt x x.orders.length)=(decide (S<2^x.orders.length)&&(List.range x.orders.length).all fun i=> !(S.testBit i&&(nth x.orders i).off)):=by
 rw [Wm,ZF,Zs,PX,Zz,Zz]
 constructor
 ·intro h
  have key: ∀i,S.testBit i=true->i<x.orders.length/\(nth x.orders i).off=false:=fun i hi=>by
   have h63:i<63:=by
    rcases WE i 63 with h | h
    ·exact h
    ·have:2^63<=2^i:=Yr Za h
     grind [Ai]
   grind [UZ]
  refine ⟨Nat.lt_pow_two_of_testBit _ fun i hi=> ?_,fun i _=> ?_⟩
  ·grind
  grind
 ·rintro ⟨h1,h2⟩ i _
  cases hb:S.testBit i with
  | false=>rfl
  | true =>
   have hi:i<x.orders.length:=by
    rcases WE i x.orders.length with h | h
    ·exact h
    ·have:2^x.orders.length<=2^i:=Yr Za h
     grind [Ai]
   have:=h2 i (ZL.2 hi)
   simp_all [UZ]
theorem aU (x:Inst) (c:Col) (hn:x.orders.length<=4) (ht:x.types.length<=1048576) (hs:c.set<9223372036854775808):PC 84 [.p (Zv x),.p (Xo c)] (.bool (rightB x c)):=by
 obtain ⟨B,hB⟩: ∃B,B=rightB x c:=⟨_,rfl⟩;rw [<- hB]
 have h54:((pw 54:Nat):Int)=18014398509481984:=by decide
 refine Zd Tryz.func84 rfl Ziu ?_;simp (disch:=omega) only [Tryz.f84,go_sem,seval];refine Xn (Zc ?_);refine gF ?_ ?_<;>intro h1<;>simp (disch:=omega) only [Sh.out h1,go_sem,seval,↓reduceIte]
 ·grind [rightB]
 ·refine gF ?_ ?_<;>intro h2<;>simp (disch:=omega) only [Sh.out h2,go_sem,seval,↓reduceIte]
  ·grind [rightB]
  ·refine gF ?_ ?_<;>intro h3<;>simp (disch:=omega) only [Sh.out h3,go_sem,seval,↓reduceIte]
   ·grind [rightB]
   ·obtain ⟨S,hS⟩: ∃S:Nat,c.set=S:=⟨c.set.toNat,Za⟩
    have e0:B=(decide (S<2^x.orders.length)&&((List.range x.orders.length).all fun i=> !(S.testBit i&&(nth x.orders i).off))&&(decide (0<=c.price)&&decide (c.price<=18014398509481984))):=by
     grind [rightB,N7]
    rw [hS];refine Zo (IC x.orders.length Za) (Zc ?_);have hpw:pw x.orders.length=2^x.orders.length:=rfl;refine gF ?_ ?_<;>intro h4<;>simp (disch:=omega) only [Sh.out h4,go_sem,seval,↓reduceIte]
    ·grind [JZ]
    ·refine gF ?_ ?_<;>intro h5<;>simp (disch:=omega) only [Sh.out h5,go_sem,seval,↓reduceIte]
     ·grind
     ·refine Zo (IC 54 Za) (Zc ?_);rw [h54];refine cD ?_ ?_<;>intro h6<;>simp (disch:=omega) only [Sh.out h6,go_sem,seval]
      ·grind
      ·have e1:B=((List.range x.orders.length).all fun i=> !(S.testBit i&&(nth x.orders i).off)):=by grind
       refine Zl [2,3] (fun k:Nat=> [(5,.p (.int .i64 k))]) (fun _=> [Zj x,IN c]) (fun k=>k<=x.orders.length/\ ∀j,j<k->(!(S.testBit j&&(nth x.orders j).off))=true) (fun k=>x.orders.length-k) 0 ⟨Zb,fun j hj=>Za⟩ (Weak.mk ?_) ?_
       ·simp (disch:=omega) only [Zj,IN,hS,go_sem,seval]
       ·rintro k ⟨hk,hno⟩;simp (disch:=omega) only [Zj,IN,hS,go_sem,seval];refine cD ?_ ?_<;>intro h7<;>simp (disch:=omega) only [Sh.out h7,go_sem,seval,↓reduceIte]
        ·have hk2:k<x.orders.length:=Za
         refine (I1 S k Za Za).use (Zc ?_);refine QP ?_ ?_<;>intro h8
         ·refine ZO ?_ ?_<;>intro h9
          ·grind
          ·exact ⟨k+1,⟨Za,Wh hno (by grind)⟩,Za,Weak.mk (by simp (disch:=omega) only [hS,go_sem,seval])⟩
         ·exact ⟨k+1,⟨Za,Wh hno (by rw [h8];rfl)⟩,Za,Weak.mk (by simp (disch:=omega) only [hS,go_sem,seval])⟩
        grind
def zCh : Chc:=⟨false,[],0⟩
def Tv (b:Chc):PV:= .agg [.bool b.found,.list (!b.found) (b.places.map eI),.int .i64 b.price]
@[go_sem] theorem ZkM (b:Chc):Tv b= .agg [.bool b.found,.list (!b.found) (b.places.map eI),.int .i64 b.price]:=Zk rfl rfl
def LX (b:Chc):AM.Obj:= .cells [.p (.bool b.found),.p (.list (!b.found) (b.places.map eI)),.p (.int .i64 b.price)]
def D3 (x:Inst) (l:List Col):Chc:=(Q6 x l x.orders.length (List.replicate x.orders.length (-1)) 0).foldl (YL l) zCh
def cK (x:Inst) (l:List Col) (b:Chc) (e:Int):Prop:=(8192<l.length/\b=zCh/\e=4)\/(l.length<=8192/\(∃c∈l,rightB x c=false)/\b=zCh/\e=2) \/
 (l.length<=8192/\(∀c∈l,rightB x c=true)/\(((D3 x l).found=false/\b=zCh/\e=24)\/((D3 x l).found=true/\b=D3 x l/\e=0)))
theorem EI {n i:Nat} (h:i<n):nth (List.replicate n (-1:Int)) i= -1:=by
 grind [Zh]
theorem Sj {x:Inst} {l:List Col} :RngA x l (List.replicate x.orders.length (-1)):=⟨Zb,fun i hi=>by rw [EI hi];omega⟩
theorem Mt {x:Inst} {l:List Col} (h4:x.orders.length<=4) (h6:x.types.length<=6) (hl:l.length<=1048576) (hs: ∀c∈l,c.set<9223372036854775808) (hr: ∀c∈l,rightB x c=true)
  (hsk: ∀k,k<x.orders.length->(nth x.orders k).off=false->0<=(nth x.orders k).penalty->0<=skR x k/\skR x k<=18014398509481984) (hus: ∀i,scoR 1152921504606846976 (unsF x i).1):ColsR x l :=
 ⟨h4,h6,hl,fun c hc=>by
  obtain ⟨S,q1,q2,q3,_⟩:=Qh (hr c hc) (hs c hc);have h:=hr c hc;simp only [rightB,ZF,Zs] at h
  exact ⟨⟨h.1,h.2.1⟩,h.2.2.2.2,S,q1,Uu q3 (Yr (n:=2) Za h4)⟩,hsk,hus⟩
theorem OQ (x:Inst) (l:List Col) (lc:Bool) (h4:x.orders.length<=4) (h6:x.types.length<=6) (hl:l.length<=1048576) (hs: ∀c∈l,c.set<9223372036854775808)
  (hsk: ∀k,k<x.orders.length->(nth x.orders k).off=false->0<=(nth x.orders k).penalty->0<=skR x k/\skR x k<=18014398509481984) (hus: ∀i,scoR 1152921504606846976 (unsF x i).1) :
  ACalls Tryz.prog 51 [.p (Zv x),.p (.list lc (l.map Xo))] [] fun y H'=> ∃b e,cK x l b e/\y= .tup [.p (Tv b),.p (.int .i64 e)]/\H'= []:=by
 refine Zf [14] Tryz.func51 rfl Zh3 ?_;simp (disch:=omega) only [Tryz.f51,go_sem,seval];refine cD ?_ ?_<;>intro h1<;>simp (disch:=omega) only [Sh.out h1,go_sem,seval,↓reduceIte]
 ·exact ⟨.tup [.p (Tv zCh),.p (.int .i64 4)],[],Weak.mk (by simp (disch:=omega) only [zCh,Vd,Zm,go_sem,seval]),_,_,.inl ⟨Za,rfl,rfl⟩,rfl,rfl⟩
 ·refine Zl [1,2,4] (fun k:Nat=> [(6,.p (.int .i64 k))]) (fun _=> [Zj x,LX zCh]) (fun k=>k<=l.length/\ ∀j,j<k->rightB x (nth l j)=true) (fun k=>l.length-k) 0 ⟨Zb,fun j hj=>Za⟩ (Weak.mk ?_) ?_
  ·simp (disch:=omega) only [Zj,LX,zCh,Vd,Zm,go_sem,seval]
  ·rintro k ⟨hk,hno⟩;simp (disch:=omega) only [Zj,LX,zCh,Vd,Zm,go_sem,seval];refine cD ?_ ?_<;>intro h2<;>simp (disch:=omega) only [Sh.out h2,go_sem,seval,↓reduceIte]
   ·have hk2:k<l.length:=Za
    refine Xn (Zc ?_);refine Zo (aU x (nth l k) h4 Za (hs _ (ZX hk2))) (Zc ?_)
    cases hr:rightB x (nth l k) with
    | false =>
     refine Gv ?_;exact ⟨.tup [.p (Tv zCh),.p (.int .i64 2)],[],Weak.mk (by simp (disch:=omega) only [zCh,Vd,Zm,go_sem,seval]),_,_,.inr (.inl ⟨Za,⟨_,ZX hk2,hr⟩,rfl,rfl⟩),rfl,rfl⟩
    | true =>
     refine BB ?_;exact ⟨k+1,⟨Za,Wh hno hr⟩,Za,wk⟩
   ·have hr: ∀c∈l,rightB x c=true:=fun c hc=>by
     obtain ⟨j,hj,rfl⟩:=ZT.1 hc
     grind [Zh]
    have hC:=Mt h4 h6 hl hs hr hsk hus;clear hno hk h2;refine Z2 [14] [2,4,7] (fun k:Nat=> [(8,.sl 3 0 k k),(9,.p (.int .i64 k))]) (fun k=> [Zj x,LX zCh,UG x lc l zCh,.elems 1 ((List.replicate k (-1:Int)).map eI)]) (fun k=>k<=x.orders.length) (fun k=>x.orders.length-k) 0 Zb (Weak.ofNil 8 1 (by simp (disch:=omega) only [go_sem,seval]) Zb (Weak.mk ?_)) ?_
    ·simp (disch:=omega) only [Zj,LX,UG,zCh,Vd,Zm,List.replicate_zero,ZE,go_sem,seval]
    ·intro k hk;simp (disch:=omega) only [Zj,LX,UG,zCh,Vd,Zm,go_sem,seval];refine cD ?_ ?_<;>intro h2<;>simp (disch:=omega) only [Sh.out h2,go_sem,seval,↓reduceIte]
     ·have hk2:k<x.orders.length:=Za
      have hrp:(List.replicate k (-1:Int))++ [-1]=List.replicate (k+1) (-1):=by rw [EE]
      simp (disch:=omega) only [Cl,go_sem,seval];rw [if_pos ⟨Za,Za⟩];refine Zc ?_;exact ⟨k+1,Za,Za,Weak.mk (by simp (disch:=omega) only [<- hrp,XG,Zq,Zm,go_sem,seval])⟩
     ·have hkn:k=x.orders.length:=Za
      subst hkn;refine Zp (Weak.fz (o:=3) (by rfl)) ?_;refine Zg [] _ _ _ _ ?_;simp (disch:=omega) only [Zq,Zm,Z8,ZZ,Cl,eq_self,go_sem,seval];have ht:=SE x lc l hC x.orders.length (List.replicate x.orders.length (-1)) 0 zCh (ZD _) Sj Za Za (fun h=>by cases h);rw [Ay] at ht;obtain ⟨B,hB⟩: ∃B,B=D3 x l:=⟨_,rfl⟩;rw [show (Q6 x l x.orders.length (List.replicate x.orders.length (-1)) 0).foldl (YL l) zCh=B from hB.symm] at ht;refine ACalls.mono (((ht.mono fun y H' hq=>(⟨hq,by grind⟩:_/\H'.length= [UG x lc l zCh].length)).front (by rfl) (by rfl) [.dead]).back [Zj x,LX zCh] (by rfl)) ?_
      rintro y H' ⟨y1,H1,⟨H2,⟨rfl,rfl⟩,rfl⟩,rfl,rfl⟩;obtain ⟨f,bp,bc⟩:=B
      cases f with
      | false =>
       simp (disch:=omega) only [shV,shVs,shO,UG,Zj,LX,zCh,Zq,Zm,ZK,Zy,Vd,go_sem,seval];exact ⟨.tup [.p (Tv zCh),.p (.int .i64 24)],[],Weak.mk (by simp (disch:=omega) only [zCh,Vd,Zm,go_sem,seval]),_,_,.inr (.inr ⟨Za,hr,.inl ⟨by rw [<- hB],rfl,rfl⟩⟩),rfl,rfl⟩
      | true =>
       simp (disch:=omega) only [shV,shVs,shO,UG,Zj,LX,zCh,Zq,Zm,ZK,Zy,YB,go_sem,seval];exact ⟨.tup [.p (Tv ⟨true,bp,bc⟩),.p (.int .i64 0)],[],Weak.mk (by simp (disch:=omega) only [YB,go_sem,seval]),_,_,.inr (.inr ⟨Za,hr,.inr ⟨by rw [<- hB],hB,rfl⟩⟩),rfl,rfl⟩
theorem jB {l:List Col} {x y:Int} (hx: -1<=x) (hy: -1<=y) (h:ky l x=ky l y):(x<0->x=y)/\(y<0->x=y)/\(0<=x->0<=y/\(nth l x.toNat).typ=(nth l y.toNat).typ/\(nth l x.toNat).set=(nth l y.toNat).set):=by
 unfold ky at h
 grind
theorem C9 {l:List Col} : ∀ {a b:List Int},a.length=b.length->(∀t,t<a.length-> -1<=nth a t/\ -1<=nth b t/\ky l (nth a t)=ky l (nth b t))->Kh l a b=none
 | [],[],_,_=>Mi
 | [],_::_,h,_=>by simp at h
 | _::_,[],h,_=>by simp at h
 | x::a,y::b,hl,h=>by
  have ih:=C9 (l:=l) (a:=a) (b:=b) (by grind) fun t ht=>h (t+1) (by grind);obtain ⟨h1,h2,h3⟩:=h 0 Zb;obtain ⟨k1,k2,k3⟩:=jB (show-1<=x from h1) (show-1<=y from h2) h3;rw [Kh]
  grind
theorem Rc {l:List Col} : ∀ {a b:List Int} {i:Nat},a.length=b.length->i<a.length->(∀t,t<a.length-> -1<=nth a t/\ -1<=nth b t)->(∀t,t<i->ky l (nth a t)=ky l (nth b t))->jA (ky l (nth a i)) (ky l (nth b i))->Kh l a b=some true/\Kh l b a=some false
 | [],_,_,_,h,_,_,_=>by simp at h
 | _::_,[],_,h,_,_,_,_=>by simp at h
 | x::a,y::b,0,_,_,hr,_,h=>by
  obtain ⟨h1,h2⟩:=hr 0 Zb;have h':jA (ky l x) (ky l y):=h
  have hne:x≠y:=fun e=>by grind [jA]
  rw [Kh,Kh,if_neg hne,if_neg (Ne.symm hne)];unfold ky jA at h'
  grind
 | x::a,y::b,i+1,hl,hi,hr,he,h=>by
  have ih:=Rc (l:=l) (a:=a) (b:=b) (i:=i) (by grind) (by grind) (fun t ht=>hr (t+1) (by grind)) (fun t ht=>he (t+1) Za) h;obtain ⟨h1,h2⟩:=hr 0 Zb;have h3:ky l x=ky l y:=he 0 Za;obtain ⟨k1,k2,k3⟩:=jB (show-1<=x from h1) (show-1<=y from h2) h3;rw [Kh,Kh]
  grind
theorem Re : ∀ {a b:List Int},a.length=b.length->(∀t,t<a.length->nth a t<=nth b t)->a=b\/(D4 a b=true/\D4 b a=false)
 | [],[],_,_=> .inl rfl
 | [],_::_,h,_=>by simp at h
 | _::_,[],h,_=>by simp at h
 | x::a,y::b,hl,h=>by
  have h0:x<=y:=h 0 Zb;rw [D4,D4]
  by_cases hxy:x=y
  ·subst hxy;rw [if_pos rfl,if_pos rfl];rcases Re (a:=a) (b:=b) (by grind) (fun t ht=>h (t+1) (by grind)) with e | e
   ·grind
   grind
  grind
theorem wD {x:Inst} {l:List Col} {a b:List Int} (ha:RngA x l a) (hb:RngA x l b) (h:KL x.orders.length l a b):a=b\/(Fg l a b=true/\Fg l b a=false):=by
 have hl:a.length=b.length:=by rw [ha.1,hb.1]
 have hr: ∀t,t<a.length-> -1<=nth a t/\ -1<=nth b t:=fun t ht=>⟨(ha.2 t (by rw [<- ha.1];exact ht)).1,(hb.2 t (by rw [<- ha.1];exact ht)).1⟩;rcases h with ⟨i,hi,he,hlt⟩ | h
 ·obtain ⟨h1,h2⟩:=Rc hl (by rw [ha.1];exact hi) hr he hlt
  grind [Jb]
 ·have h1:=C9 (l:=l) hl fun t ht=>⟨(hr t ht).1,(hr t ht).2,(h t (by rw [<- ha.1];exact ht)).1⟩;have h2:=C9 (l:=l) hl.symm fun t ht=>⟨(hr t Za).2,(hr t Za).1,((h t (by rw [<- hb.1];exact ht)).1).symm⟩;rcases Re hl fun t ht=>(h t (by rw [<- ha.1];exact ht)).2 with e | ⟨e1,e2⟩
  ·exact .inl e
  grind [G9]
def Prf (l:List Col) (P:List Int) (W:Int) (q:List Int×Int):Prop:=W<=q.2/\(q.2=W->P=q.1\/(Fg l P q.1=true/\Fg l q.1 P=false))
theorem N3 {l:List Col} {P:List Int} {W:Int} : ∀ {L:List (List Int×Int)},(∀q∈L,Prf l P W q)->L.foldl (YL l) ⟨true,P,W⟩=⟨true,P,W⟩
 | [],_=>rfl
 | q::L,h=>by
  have e:YL l ⟨true,P,W⟩ q=⟨true,P,W⟩:=by
   obtain ⟨h1,h2⟩:=h q Zb;unfold YL
   split
   ·rename_i hc;rcases hc with hc | hc | ⟨hc,hd⟩
    ·cases hc
    ·simp only at hc;omega
    ·simp only at hc hd;rcases h2 hc with e | ⟨_,e⟩
     ·rw [<- e,hc]
     ·rw [e] at hd;cases hd
   ·rfl
  rw [XL,e];exact N3 fun q hq=>h q (Yp _ hq)
theorem Ic {l:List Col} {P:List Int} {W:Int} : ∀ {L:List (List Int×Int)} {b:Chc},(b.found=false\/Prf l P W (b.places,b.price))->(∀q∈L,Prf l P W q)->(P,W)∈L->L.foldl (YL l) b=⟨true,P,W⟩
 | [],_,_,_,hm=>by simp at hm
 | q::L,b,hb,h,hm=>by
  rw [XL];have hq:=h q Zb;have hL: ∀q∈L,Prf l P W q:=fun q hq=>h q (Yp _ hq)
  by_cases e:q=(P,W)
  ·have:YL l b q=⟨true,P,W⟩:=by
    subst e;unfold YL
    split
    ·rfl
    ·rename_i hc;rcases hb with hb | ⟨h1,h2⟩
     ·grind
     ·simp only at h1 h2 hc
      have h3:b.price=W:=by
       omega
      rcases h2 h3 with e | ⟨e,_⟩
      ·obtain ⟨f,bp,bc⟩:=b
       grind
      grind
   grind [N3]
  ·refine Ic ?_ hL (by
    rcases Z3.1 hm with h | h
    ·exact absurd h.symm e
    ·exact h)
   unfold YL
   split
   ·exact .inr hq
   ·exact hb
theorem RD {x:Inst} {l ys:List Col} (hc:Ctx x l ys) {D:Nat} (hD:10<D): ∀(d k:Nat) (s:St) (a:List Int) (p:Int),k+d=x.orders.length->Nd x l a s k->0<=Lx x ys D s->(gr x l ys D d k s a,p+Lx x ys D s)∈Q6 x l d a p
 | 0,k,s,a,p,hd,ha,h0=>by
  rw [cM (by rw [ha.ix];omega),Uy,gr,Q6];simp
 | d+1,k,s,a,p,hd,ha,h0=>by
  have hk:k<x.orders.length:=Za
  have hkd:x.orders.length-(d+1)=k:=Za
  rw [Q6,hkd,gr]
  split
  ·rename_i ho;rw [PZ hc ha hk ho] at h0 ⊢;exact RD hc hD d (k+1) _ a p Za (ha.skip' hk) h0
  ·rename_i ho
   have hoff:(nth x.orders k).off=false:=by
    cases e:(nth x.orders k).off with
    | false=>rfl
    | true=>exact absurd (.inl e) ho
   have hak:nth a k<0:=Int.not_le.1 fun g=>ho (.inr g)
   have hcv:s.cov.toNat.testBit k=false:=by rw [ha.cov k hk];exact JZ Za
   rw [Xg,XQ]
   cases hf:(Yj ys k).find? (KS x ys D s) with
   | some c =>
    left
    have hsel:=Qw hf;simp only [KS,ZF,Zs] at hsel;obtain ⟨p1,p2,p3⟩:=J0 hc ha hk (QV hf) hsel.1;have hch:=ha.child hc hk p1 p3;rw [p2] at hch;refine ⟨Br l c,ZL.2 p1,?_⟩;rw [if_pos p3,p2];have:=RD hc hD d (k+1) _ _ (p+c.price) Za hch hsel.2.1;rw [show p+c.price+Lx x ys D (AB s c)=p+Lx x ys D s by omega] at this;exact this
   | none =>
    right
    rw [Ak] at hf;have hdec:=Oh hc hD ha.v ha.ix hk hoff hcv;have hno: ∀c∈Yj ys k,YF x s c=true->0<=Lx x ys D (AB s c)->c.price+Lx x ys D (AB s c)≠Lx x ys D s:=fun c hm hy hL e=>hf c hm (by simp only [KS,hy,Q0 hL,Q0 e,Bool.and_self]);obtain ⟨s1,s2⟩:=hc.sk k hk hoff;have hfold:=Hs (x:=x) (s:=s) (r:=fun c=>Lx x ys D (AB s c)) (l:=Yj ys k) (a:= -1)
    by_cases hs:0<=skpF x k
    ·rw [if_pos (s1.2 hs),<- s2 hs];rw [if_pos hs] at hdec;unfold YV at hdec
     split at hdec
     ·rename_i hb;have:=RD hc hD d (k+1) _ a (p+skpF x k) Za (ha.skip' hk) hb.1;rw [show p+skpF x k+Lx x ys D (GF s)=p+Lx x ys D s by omega] at this;exact this
     ·exfalso;rcases hfold with e | ⟨c,h1,h2,h3,h4⟩
      ·unfold YV at e;omega
      ·exact hno c h1 h2 h3 (by rw [hdec];exact h4.symm)
    ·exfalso;rw [if_neg hs] at hdec;rcases hfold with e | ⟨c,h1,h2,h3,h4⟩
     ·omega
     ·exact hno c h1 h2 h3 (by rw [hdec];exact h4.symm)
def Sl (l:List Col) (g:List Int) (T:Nat):Nat->List Col
 | 0=> []
 | i+1=>Sl l g T i++(if 0<=nth g i/\(nth l (nth g i).toNat).typ=T/\(nth l (nth g i).toNat).set%(pw i:Nat)=0 then [nth l (nth g i).toNat] else [])
def LY (l:List Col) (g:List Int) (n:Nat):Nat->List Col
 | 0=> []
 | T+1=>LY l g n T++Sl l g T n
def cJ (x:Inst) (g:List Int):Nat->List Int
 | 0=> []
 | i+1=>cJ x g i++(if nth g i<0/\(nth x.orders i).off=false then [(i:Int)] else [])
theorem Lv {l:List Col} {g:List Int} {T:Nat} : ∀k,(Sl l g T k).length<=k
 | 0=>ZD _
 | k+1=>by
  have:=Lv (l:=l) (g:=g) (T:=T) k;rw [Sl,ZH];split<;>simp<;>omega
theorem Lw {l:List Col} {g:List Int} {n:Nat} : ∀T,(LY l g n T).length<=T*n
 | 0=>by simp [LY]
 | T+1=>by
  have:=Lw (l:=l) (g:=g) (n:=n) T;have:=Lv (l:=l) (g:=g) (T:=T) n;rw [LY,ZH,XN];omega
theorem LQ {x:Inst} {g:List Int} : ∀k,(cJ x g k).length<=k
 | 0=>ZD _
 | k+1=>by
  have:=LQ (x:=x) (g:=g) k;rw [cJ,ZH];split<;>simp<;>omega
def LZ (x:Inst) (l:List Col) (p:Pln) (c e:Int):Prop:= ∃b,cK x l b e/\(e≠0->p=zPlC/\c=0)/\(e=0->c=b.price/\p=⟨false,(LY l b.places b.places.length x.types.length).map (·.route),false,cJ x b.places b.places.length⟩)
def cI (v w:V):AM.Obj:= .cells [v,w]
theorem Mr (x:Inst) (l:List Col) (lc:Bool) (h4:x.orders.length<=4) (h6:x.types.length<=6) (hl:l.length<=1048576) (hs: ∀c∈l,c.set<9223372036854775808)
  (hsk: ∀k,k<x.orders.length->(nth x.orders k).off=false->0<=(nth x.orders k).penalty->0<=skR x k/\skR x k<=18014398509481984) (hus: ∀i,scoR 1152921504606846976 (unsF x i).1) :
  ACalls Tryz.prog 31 [.p (Zv x),.p (.list lc (l.map Xo))] [] fun y H'=> ∃p c e,LZ x l p c e/\y= .tup [.p (JF p),.p (.int .i64 c),.p (.int .i64 e)]/\H'= []:=by
 refine Zf [18] Tryz.func31 rfl ZhO ?_;simp (disch:=omega) only [Tryz.f31,go_sem,seval];refine ((OQ x l lc h4 h6 hl hs hsk hus).behind (by rfl) _).mono ?_;rintro y H' ⟨y1,H1,⟨b,e,hb,rfl,rfl⟩,rfl,rfl⟩;simp (disch:=omega) only [shV,shVs,Zm,go_sem,seval];refine cD ?_ ?_<;>intro h1<;>simp (disch:=omega) only [Sh.out h1,go_sem,seval,↓reduceIte]
 ·exact ⟨.tup [.p (JF zPlC),.p (.int .i64 0),.p (.int .i64 e)],[],Weak.mk (by simp (disch:=omega) only [zPlC,Zm,go_sem,seval]),_,_,_,⟨b,hb,fun _=>⟨rfl,rfl⟩,fun h=>absurd h h1⟩,rfl,rfl⟩
 ·have he:e=0:=Za
  subst he;have hcv:=hb;rcases hb with ⟨_,_,h⟩ | ⟨_,_,_,h⟩ | ⟨hl2,hr,⟨_,_,h⟩ | ⟨hf,rfl,_⟩⟩
  ·cases h
  ·cases h
  ·cases h
  ·have hC:=Mt h4 h6 hl hs hr hsk hus;have hrg:RngA x l (D3 x l).places:=(LS (x:=x) (l:=l) (b:=zCh) (fun h=>by cases h) (Az x.orders.length Sj)) hf;obtain ⟨⟨f,g,c⟩,hB⟩: ∃B,B=D3 x l:=⟨_,rfl⟩;rw [<- hB] at hcv hf hrg ⊢;simp only at hf hrg;subst hf;have hgl:g.length=x.orders.length:=hrg.1;refine Zl [1,2,4,7,9] (fun T:Nat=> [(10,.p (.int .i64 T))]) (fun T=> [Zj x,cI (.p (.list true [])) (.p (.list true [])),LX ⟨true,g,c⟩,cI (.sl 4 0 (LY l g g.length T).length (LY l g g.length T).length) (.p (.list true [])),.elems 4 ((LY l g g.length T).map fun c=>Wy c.route)]) (fun T=>T<=x.types.length) (fun T=>x.types.length-T) 0 Zb ((Weak.nilC (o:=3) (j:=0) 4 (by rfl) (by rfl) Zb).trans (Weak.mk ?_)) ?_
   ·simp (disch:=omega) only [Zj,cI,LX,YB,LY,Zm,ZE,Z8,ZZ,go_sem,seval]
   ·intro T hT;obtain ⟨R,hR⟩: ∃R,R=LY l g g.length T:=⟨_,rfl⟩;have hRl:=Lw (l:=l) (g:=g) (n:=g.length) T;rw [<- hR] at hRl ⊢
    have hRs:LY l g g.length (T+1)=R++Sl l g T g.length:=by rw [hR];rfl
    have hTn:T*g.length<=6*4:=Cr Za Za;simp (disch:=omega) only [Zj,cI,LX,YB,go_sem,seval];refine cD ?_ ?_<;>intro h2<;>simp (disch:=omega) only [Sh.out h2,go_sem,seval,↓reduceIte]
    ·obtain ⟨W,hW⟩: ∃W:Nat->List Col,W=fun i=>R++Sl l g T i:=⟨_,rfl⟩
     have hW0:W 0=R:=by grind [Sl]
     have hWn:LY l g g.length (T+1)=W g.length:=by rw [hRs,hW]
     have hWl: ∀i,(W i).length<=R.length+i:=fun i=>by
      grind [Lv]
     have hWs: ∀i,W (i+1)=W i++(if 0<=nth g i/\(nth l (nth g i).toNat).typ=T/\(nth l (nth g i).toNat).set%(pw i:Nat)=0 then [nth l (nth g i).toNat] else []):=fun i=>by grind [Sl]
     clear hW hRs;refine Zl [1,2,4,7,9,10] (fun i:Nat=> [(11,.p (.int .i64 i))]) (fun i=> [Zj x,cI (.p (.list true [])) (.p (.list true [])),LX ⟨true,g,c⟩,cI (.sl 4 0 (W i).length (W i).length) (.p (.list true [])),.elems 4 ((W i).map fun c=>Wy c.route)]) (fun i=>i<=g.length) (fun i=>g.length-i) 0 Zb (Weak.mk ?_) ?_
     ·simp (disch:=omega) only [Zj,cI,LX,YB,hW0,go_sem,seval]
     ·intro i hi
      have hQl:(W i).length<=28:=by grind
      have hQs:=hWs i;simp (disch:=omega) only [Zj,cI,LX,YB,go_sem,seval];refine ZO ?_ ?_<;>intro h3
      ·have hi2:i<g.length:=Za
       have hri:=hrg.2 i Za;refine Xn (Zc ?_);refine QP ?_ ?_<;>intro h5
       ·have hj:(nth g i).toNat<l.length:=Za
        obtain ⟨⟨t0,t1⟩,⟨c0,c1⟩,S,hS,hS2⟩:=hC.col _ (ZX hj);refine QP ?_ ?_<;>intro h7
        ·have hpp:0<pw i/\pw i<=pw 4:=⟨F7 i,Kf Za⟩;refine Zo (IC i Za) (Zc ?_);rw [hS];refine ZO ?_ ?_<;>intro h8
         ·rw [if_pos ⟨h5,h7,by grind⟩] at hQs;refine ZA 12 mixed Ze Ze ?_;refine Zc ?_;exact ⟨i+1,Za,Za,Weak.mk (by simp (disch:=omega) only [hQs,XG,Zq,Zm,ZH,ZB,ZE,Xj,go_sem,seval])⟩
         ·rw [if_neg (fun h=>h8 (by grind)),Wl] at hQs;exact ⟨i+1,Za,Za,Weak.mk (by simp (disch:=omega) only [hQs,go_sem,seval])⟩
        ·rw [if_neg (fun h=>h7 h.2.1),Wl] at hQs;exact ⟨i+1,Za,Za,Weak.mk (by simp (disch:=omega) only [hQs,go_sem,seval])⟩
       ·rw [if_neg (fun h=>h5 h.1),Wl] at hQs;exact ⟨i+1,Za,Za,Weak.mk (by simp (disch:=omega) only [hQs,go_sem,seval])⟩
      ·have hig:i=g.length:=Za
       subst hig;exact ⟨T+1,Za,Za,Weak.mk (by simp (disch:=omega) only [hWn,go_sem,seval])⟩
    ·have hTt:T=x.types.length:=Za
     subst hTt;refine Z2 [18] [2,4,7,9] (fun i:Nat=> [(12,.p (.int .i64 i))]) (fun i=> [Zj x,cI (.p (.list true [])) (.p (.list true [])),LX ⟨true,g,c⟩,cI (.sl 4 0 R.length R.length) (.sl 5 0 (cJ x g i).length (cJ x g i).length),.elems 4 (R.map fun c=>Wy c.route),.elems 1 ((cJ x g i).map eI)]) (fun i=>i<=g.length) (fun i=>g.length-i) 0 Zb ((Weak.nilC (o:=3) (j:=1) 1 (by rfl) (by rfl) Zb).trans (Weak.mk ?_)) ?_
     ·simp (disch:=omega) only [Zj,cI,LX,YB,cJ,Zm,ZE,Z8,ZZ,go_sem,seval]
     ·intro i hi;obtain ⟨U,hU⟩: ∃U,U=cJ x g i:=⟨_,rfl⟩;have hUl:=LQ (x:=x) (g:=g) i
      have hUs:cJ x g (i+1)=U++(if nth g i<0/\(nth x.orders i).off=false then [(i:Int)] else []):=by rw [hU];rfl
      rw [<- hU] at hUl ⊢;simp (disch:=omega) only [Zj,cI,LX,YB,go_sem,seval];refine cD ?_ ?_<;>intro h3<;>simp (disch:=omega) only [Sh.out h3,go_sem,seval,↓reduceIte]
      ·have hi2:i<g.length:=Za
       refine QP ?_ ?_<;>intro h5
       ·cases ho:(nth x.orders i).off with
        | true =>
         rw [if_neg (by rw [ho];simp),Wl] at hUs;refine BB ?_;exact ⟨i+1,Za,Za,Weak.mk (by simp (disch:=omega) only [hUs,go_sem,seval])⟩
        | false =>
         rw [if_pos ⟨h5,ho⟩] at hUs;refine Gv ?_;exact ⟨i+1,Za,Za,Weak.mk (by simp (disch:=omega) only [hUs,XG,Zq,Zm,ZH,ZB,ZE,Xj,go_sem,seval])⟩
       ·rw [if_neg (fun h=>h5 h.1),Wl] at hUs;exact ⟨i+1,Za,Za,Weak.mk (by simp (disch:=omega) only [hUs,go_sem,seval])⟩
      ·have hig:i=g.length:=Za
       subst hig;refine Zp (Weak.fz (o:=4) (by rfl)) ?_;refine Zp (Weak.fz (o:=5) (by rfl)) ?_;refine Zg [] _ _ _ _ ?_;simp (disch:=omega) only [Zq,Zm,Z8,ZZ,eq_self,go_sem,seval];refine Be [3] [1,2] [2] 4 mixed Ze Ze Ze Ze Zb (Zc ?_);refine ⟨fun q hq p' hp=> ?_,?_⟩
       ·simp only [Z3,Y3,Wn] at hq;rcases hq with rfl | rfl
        ·obtain rfl:7=p':=Vc hp;exact VW (by decide)
        ·obtain rfl:114=p':=Vc hp;exact VW (by decide)
       ·refine MX 3 _ _ Ze (by refine Zc ?_;exact ⟨rfl,rfl⟩) ?_;refine ⟨fun k hk=>by simp at hk;subst hk;rfl,La ?_⟩;refine Zc ?_;exact ⟨.tup [.p (JF ⟨false,R.map (·.route),false,U⟩),.p (.int .i64 c),.p (.int .i64 0)],[],Weak.mk (by simp (disch:=omega) only [List.map_map,Function.comp_def,go_sem,seval]),_,_,_,⟨_,hcv,fun h=>absurd rfl h,fun _=>⟨rfl,by rw [hR,hU]⟩⟩,rfl,rfl⟩
theorem Fz {α:Type} {p q:α->Bool} : ∀ {l:List α},(∀a∈l,p a=q a)->l.find? p=l.find? q
 | [],_=>rfl
 | a::l,h=>by
  rw [List.find?_cons,List.find?_cons,h a Zb,Fz fun a ha=>h a (Yp _ ha)]
def RA (l:List Col) (g:List Int):Nat->Nat->List Col
 | 0,_=> []
 | d+1,k=>(if 0<=nth g k/\AT (nth l (nth g k).toNat).set.toNat=(k:Int) then [nth l (nth g k).toNat] else [])++RA l g d (k+1)
def UA (x:Inst) (g:List Int):Nat->Nat->List Int
 | 0,_=> []
 | d+1,k=>(if nth g k<0/\(nth x.orders k).off=false then [(k:Int)] else [])++UA x g d (k+1)
theorem sT {x:Inst} {l ys:List Col} (hc:Ctx x l ys) {D:Nat} (hD:D=20) {s:St} {k:Nat} (hv:StV x.orders.length s) (hk:s.ix=k) (hkn:k<x.orders.length) (ho:(nth x.orders k).off=false) (hcv:s.cov.toNat.testBit k=false) {c:Col} (hm:c∈Yj ys k) :
  LF x.orders.length (mI x) x (fstF x.orders.length ys) (skF x x.orders.length) s c=KS x ys D s c:=by
 have hn:=hc.n4;have e1:=DE (n:=x.orders.length) hk (m:=mI x) (by grind [FM]) (by grind [BV]);have e2:=GC (m:=mI x) hk hkn hn (KQ hc hkn hm).2.2.2
 grind [LF,KS,Lx]
theorem EO {x:Inst} {l ys:List Col} (hc:Ctx x l ys) {D:Nat} (hD:D=20): ∀(d k:Nat) (s:St) (a:List Int) (f:Nat),k+d=x.orders.length->d<f->Nd x l a s k ->
  Yv x.orders.length (mI x) x (fstF x.orders.length ys) (skF x x.orders.length) f (Vo x.orders.length (mI x) s)=(RA l (gr x l ys D d k s a) d k,UA x (gr x l ys D d k s a) d k)
 | 0,k,s,a,0,_,hf,_=>Za
 | 0,k,s,a,f+1,hd,_,h=>by
  rw [Yv,if_pos,RA,UA];simp only [Vo];have:=CT (n:=x.orders.length) (m:=mI x) (cov:=s.cov) (x.orders.length-s.ix.toNat) s.ix.toNat;have:=h.ix;omega
 | d+1,k,s,a,0,_,hf,_=>Za
 | d+1,k,s,a,f+1,hd,hf,h=>by
  have hk:k<x.orders.length:=Za
  have hn:=hc.n4;rw [gr]
  split
  ·rename_i ho;have hsk:=ho.imp (fun e=>show sHas (mI x) k=false by grind [FM]) (fun e=>show sHas s.cov k=true by rw [BV h.v Za,h.cov k hk];grind);rw [DD h.ix hk hsk,EO hc hD d (k+1) (GF s) a (f+1) Za Za (h.skip' hk)];have hg:=(Dg hc (D:=D) d (k+1) (GF s) a Za (h.skip' hk)).2 k hk (.inl Za);rw [RA,UA,hg,if_neg,if_neg,Zy,Zy]
   ·grind
   ·rintro ⟨g1,g2⟩;obtain ⟨t,t1,t2⟩:=h.old k hk (ZD _) g1;have hr:=h.rng k hk;obtain ⟨_,s0,s1,_⟩:=hc.set (ZX (l:=l) (i:=(nth a k).toNat) Za);have:=((PS s0 s1 hn hk).1 g2).2 t Za t2;omega
  ·rename_i ho
   have hoff:(nth x.orders k).off=false:=by
    grind
   have hak:nth a k<0:=Int.not_le.1 fun g=>ho (.inr g)
   have hcv:s.cov.toNat.testBit k=false:=by rw [h.cov k hk];grind
   rw [DE h.ix (by grind [FM]) (by rw [BV h.v Za,hcv]),Yv,if_neg (by rw [h.ix];omega)]
   have e2:nth (fstF x.orders.length ys) s.ix.toNat=Yj ys k:=by rw [h.ix,XU,Nc,if_pos hk]
   rw [e2,Fz (q:=KS x ys D s) fun c hm=>sT hc hD h.v h.ix hk hoff hcv hm]
   cases hfd:(Yj ys k).find? (KS x ys D s) with
   | some c =>
    have hsel:=Qw hfd;have hm:=QV hfd;simp only [KS,ZF] at hsel;obtain ⟨p1,p2,p3⟩:=J0 hc h hk hm hsel.1;have hch:=h.child hc hk p1 p3;obtain ⟨c1,c2⟩:=BT h.len p3;rw [p2] at hch c1 c2;have hg:=(Dg hc (D:=D) d (k+1) (AB s c) _ Za hch).2 k hk (.inl Za);rw [Xx (by rw [h.len];exact hk),if_pos c1] at hg;simp only;rw [GC h.ix hk hn (KQ hc hk hm).2.2.2,EO hc hD d (k+1) (AB s c) _ f Za Za hch,RA,UA,hg,if_pos ⟨Za,by rw [XU,p2];exact (KQ hc hk hm).2.2.1⟩,if_neg Za,XU,p2]
    rfl
   | none =>
    have hg:=(Dg hc (D:=D) d (k+1) (GF s) a Za (h.skip' hk)).2 k hk (.inl Za);simp only;have e3:Dr x.orders.length (mI x) s=Vo x.orders.length (mI x) (GF s):=rfl;rw [e3,EO hc hD d (k+1) (GF s) a f Za Za (h.skip' hk),RA,UA,hg,if_neg Za,if_pos ⟨hak,hoff⟩,h.ix]
    rfl
theorem Ii {l:List Col} {g:List Int} {c:Col} : ∀(d k:Nat),c∈RA l g d k↔ ∃i,k<=i/\i<k+d/\0<=nth g i/\AT (nth l (nth g i).toNat).set.toNat=(i:Int)/\c=nth l (nth g i).toNat
 | 0,k=>by simp [RA];omega
 | d+1,k=>by
  rw [RA,Xg,Ii d (k+1)]
  constructor
  ·rintro (h | ⟨i,h1,h2,h3⟩)
   ·split at h
    ·grind
    ·simp at h
   grind
  grind
theorem cN {l:List Col} {g:List Int} : ∀(d k:Nat),(RA l g d k).Pairwise fun a b=>AT a.set.toNat<AT b.set.toNat
 | 0,k=> .nil
 | d+1,k=>by
  rw [RA,ED];refine ⟨?_,cN d (k+1),fun a ha b hb=> ?_⟩
  ·split<;>simp
  ·split at ha
   ·rename_i hh;obtain ⟨i,h1,h2,h3,h4,rfl⟩:=(Ii _ _).1 hb
    grind
   ·simp at ha
theorem P1 {x:Inst} {g:List Int} : ∀(d k:Nat),UA x g (d+1) k=UA x g d k++(if nth g (k+d)<0/\(nth x.orders (k+d)).off=false then [((k+d:Nat):Int)] else [])
 | 0,k=>by simp [UA]
 | d+1,k=>by
  rw [UA,P1 d (k+1),UA,KF,show k+1+d=k+(d+1) by omega]
theorem cQ {x:Inst} {g:List Int} : ∀n,UA x g n 0=cJ x g n
 | 0=>rfl
 | n+1=>by rw [P1,cQ n,cJ,Xj]
theorem ZcC : ∀S:Fin 16,0<S.val-> ∀i:Fin 4,S.val.testBit i.val=true->((S.val:Int)%(pw i.val:Nat)=0↔AT S.val=(i.val:Int)):=by decide+kernel
theorem AJ {l:List Col} {g:List Int} {T:Nat} {c:Col} : ∀k,c∈Sl l g T k↔ ∃i,i<k/\0<=nth g i/\(nth l (nth g i).toNat).typ=T/\(nth l (nth g i).toNat).set%(pw i:Nat)=0/\c=nth l (nth g i).toNat
 | 0=>by simp [Sl]
 | k+1=>by
  rw [Sl,Xg,AJ k]
  constructor
  ·grind
  grind
theorem Ly {l:List Col} {g:List Int} {n:Nat} {c:Col} : ∀T,c∈LY l g n T↔ ∃t,t<T/\c∈Sl l g t n
 | 0=>by simp [LY]
 | T+1=>by
  rw [LY,Xg,Ly T]
  grind
theorem vY {x:Inst} (hx:InstOk x) {k:Nat} (hk:k<x.orders.length) (ho:(nth x.orders k).off=false):(0<=(nth x.orders k).penalty↔0<=skpF x k)/\(0<=skpF x k->skpF x k=skR x k):=by
 have ha:=(hx.orders.2 k hk).arg;simp only [argOk,rng,ZF,Zs] at ha
 have e:unsF x k=if (nth x.orders k).penalty= -1 then (zSco,23) else (⟨(nth x.orders k).penalty,if (nth x.orders k).now= -1 then 0 else 1,0,0⟩,0):=by
  simp_all [unsF,if_neg]
 by_cases hp:(nth x.orders k).penalty= -1
 ·simp_all [skpF]
 ·have hm:(if (nth x.orders k).now= -1 then (0:Int) else 1)=0\/(if (nth x.orders k).now= -1 then (0:Int) else 1)=1:=Za
  have e2:skpF x k=skR x k/\0<=skR x k:=by
   rw [skpF,skR,e,if_neg hp];generalize (if (nth x.orders k).now= -1 then (0:Int) else 1)=m at hm
   have:Yz ⟨(nth x.orders k).penalty,m,0,0⟩=((((nth x.orders k).penalty*16+m)*16+0)*65536+0,0):=by
    rw [Yz,if_neg (by grind),if_neg (by grind)]
   grind
  omega
theorem fM {x:Inst} {l ys:List Col} (hx:InstOk x) (hn:x.orders.length<=4) (hC:Cheap l ys) (hr: ∀c∈l,rightB x c=true) (hs: ∀c∈l,c.set<9223372036854775808):Ctx x l ys :=
 have hok:=Rj hx hn hC hr hs
 ⟨hn,hok.typ.1,hC,hr,hs,hok,fun _ hk ho=>vY hx hk ho⟩
theorem SH {l:List Col} {n:Nat} {T:Int} : ∀m,m<=n->usdI l (List.replicate n (-1)) T m=0
 | 0,_=>rfl
 | m+1,h=>by
  rw [usdI,SH m Za,K2,EI Za,JZ Za];rfl
theorem R7 (x:Inst) (l:List Col):Nd x l (List.replicate x.orders.length (-1)) zSt 0:=by
 have hz: ∀i,i<x.orders.length->nth (List.replicate x.orders.length (-1:Int)) i= -1:=fun i hi=>EI hi;refine ⟨Zb,rfl,wC _,fun i hi=> ?_,fun i hi=>by grind,fun T hT=> ?_,fun i hi h=>by grind,fun i hi _ h=>by grind,fun i hi h=>by grind⟩
 ·simp_all [zSt]
 ·rw [SH _ (ZD _)]
  have:T=0\/T=1\/T=2\/T=3\/T=4\/T=5:=Za
  rcases this with rfl | rfl | rfl | rfl | rfl | rfl<;>rfl
theorem Nd.RngA {x:Inst} {l:List Col} {a:List Int} {s:St} {k:Nat} (h:Nd x l a s k):RngA x l a:=⟨h.len,h.rng⟩
theorem MN {x:Inst} {l ys:List Col} (hc:Ctx x l ys) {D:Nat} : ∀(d k:Nat) (s:St) (a:List Int),k+d=x.orders.length->Nd x l a s k-> ∃s',Nd x l (gr x l ys D d k s a) s' x.orders.length
 | 0,k,s,a,hd,h=>⟨s,by grind [gr]⟩
 | d+1,k,s,a,hd,h=>by
  have hk:k<x.orders.length:=Za
  rw [gr]
  split
  ·exact MN hc d (k+1) _ _ Za (h.skip' hk)
  ·split
   ·rename_i c hf;have hsel:=Qw hf;simp only [KS,ZF] at hsel;obtain ⟨p1,p2,p3⟩:=J0 hc h hk (QV hf) hsel.1;have hch:=h.child hc hk p1 p3;rw [p2] at hch;exact MN hc d (k+1) _ _ Za hch
   ·exact MN hc d (k+1) _ _ Za (h.skip' hk)
theorem P6 {x:Inst} {l ys:List Col} (hc:Ctx x l ys) {D:Nat} (hD:10<D) :
  (Lx x ys D zSt<0->(D3 x l).found=false)/\(0<=Lx x ys D zSt->D3 x l=⟨true,gr x l ys D x.orders.length 0 zSt (List.replicate x.orders.length (-1)),Lx x ys D zSt⟩):=by
 have hz:=R7 x l;have hb:=B4 hc hD x.orders.length 0 zSt _ _ 0 Za hz hz KE.refl;obtain ⟨s',hg⟩:=MN hc (D:=D) x.orders.length 0 zSt _ Za hz
 constructor
 ·intro h
  have:Q6 x l x.orders.length (List.replicate x.orders.length (-1)) 0= []:=by
   cases e:Q6 x l x.orders.length (List.replicate x.orders.length (-1)) 0 with
   | nil=>rfl
   | cons q L=>grind
  rw [D3,this];rfl
 ·intro h;have hin:=RD hc hD x.orders.length 0 zSt _ 0 Za hz h;rw [Int.zero_add] at hin;refine Ic (.inl rfl) (fun q hq=> ?_) hin;obtain ⟨_,h2,h3⟩:=hb q hq;rw [Int.zero_add] at h2 h3;exact ⟨h2,fun e=>wD hg.RngA (Az _ hz.RngA q hq) (h3 e)⟩
theorem Sm {l:List Col} {g:List Int} {T n:Nat} (hdv: ∀i,i<n->0<=nth g i->((nth l (nth g i).toNat).set%(pw i:Nat)=0↔AT (nth l (nth g i).toNat).set.toNat=(i:Int))): ∀k,k<=n->(Sl l g T k).Pairwise fun a b=>pD a b<0
 | 0,_=> .nil
 | k+1,hk=>by
  rw [Sl,ED];refine ⟨Sm hdv k Za,by split<;>simp,fun a ha b hb=> ?_⟩
  split at hb
  ·rename_i hh
   obtain rfl:b=nth l (nth g k).toNat:=by grind
   obtain ⟨i,h1,h2,h3,h4,rfl⟩:=(AJ _).1 ha;rw [JB,h3,hh.2.1]
   right
   refine ⟨rfl,?_⟩
   show AT _<AT _
   grind
  ·simp at hb
theorem Sn {l:List Col} {g:List Int} {n:Nat} (hdv: ∀i,i<n->0<=nth g i->((nth l (nth g i).toNat).set%(pw i:Nat)=0↔AT (nth l (nth g i).toNat).set.toNat=(i:Int))): ∀T,(LY l g n T).Pairwise fun a b=>pD a b<0
 | 0=> .nil
 | T+1=>by
  rw [LY,ED];refine ⟨Sn hdv T,Sm hdv n (ZD _),fun a ha b hb=> ?_⟩;obtain ⟨t,h1,h2⟩:=(Ly _).1 ha;obtain ⟨i,_,_,h3,_,rfl⟩:=(AJ _).1 h2;obtain ⟨j,_,_,h5,_,rfl⟩:=(AJ _).1 hb
  simp_all [JB]
theorem aY {x:Inst} {l ys:List Col} (hc:Ctx x l ys) {g:List Int} {s:St} (hg:Nd x l g s x.orders.length) {zs:List Col} (hp:zs.Perm (RA l g x.orders.length 0)) (ha:zs.Pairwise fun a b=> ¬pD b a<0):zs=LY l g x.orders.length x.types.length:=by
 have hn:=hc.n4;have hin: ∀i,i<x.orders.length->0<=nth g i->nth l (nth g i).toNat∈l:=fun i hi h0=>ZX (by have:=hg.rng i hi;omega)
 have hdv: ∀i,i<x.orders.length->0<=nth g i->((nth l (nth g i).toNat).set%(pw i:Nat)=0↔AT (nth l (nth g i).toNat).set.toNat=(i:Int)):=fun i hi h0=>by
  obtain ⟨e,s0,s1,_⟩:=hc.set (hin i hi h0);have h16:(nth l (nth g i).toNat).set.toNat<16:=Uu s1 (Yr (n:=2) Za hn);have:=ZcC ⟨_,h16⟩ s0 ⟨i,Za⟩ (hg.own i hi h0)
  grind
 have hne:zs.Pairwise fun a b=>lo a≠lo b:=by
  have h1:(RA l g x.orders.length 0).Pairwise fun a b=>lo a≠lo b:=(cN _ _).imp fun {a b} h e=>by
   have e':AT a.set.toNat=AT b.set.toNat:=e;omega
  exact (hp.pairwise_iff fun h e=>h e.symm).2 h1
 have hz:zs.Pairwise fun a b=>pD a b<0:=(hne.and ha).imp fun {a b} h=>by
  have h1:=h.1;have h2:=h.2;rw [JB] at h2 ⊢;omega
 refine Gs (r:=fun a b=>pD a b<0) (fun a=>by rw [JB];omega) (fun a b=>by rw [JB,JB];omega) hz (Sn hdv _) fun c=> ?_;rw [hp.mem_iff,Ii,Ly]
 constructor
 ·rintro ⟨i,_,h1,h2,h3,rfl⟩;have ht:=(hc.typ (hin i Za h2)).1;exact ⟨(nth l (nth g i).toNat).typ.toNat,Za,(AJ _).2 ⟨i,Za,h2,Za,(hdv i Za h2).2 h3,rfl⟩⟩
 ·rintro ⟨t,_,h⟩;obtain ⟨i,h1,h2,h3,h4,rfl⟩:=(AJ _).1 h
  grind
theorem Mj {x:Inst} {ys:List Col} {D:Nat} (hD:D=20):Lc x ys=Lx x ys D zSt:=by subst hD;rfl
theorem ZiF {x:Inst} {l:List Col} {a e e':Int} {b:Chc} (hx:InstOk x) (hn:x.orders.length<=4) (hs: ∀c∈l,c.set<9223372036854775808) (h:Zmu x l a e) (h':cK x l b e'):a=b.price/\e=e':=by
 rcases h with ⟨g1,rfl,rfl⟩ | ⟨g1,⟨c,gc,g2⟩,rfl,rfl⟩ | ⟨g1,g2,ys,g3,rfl,rfl⟩<;>rcases h' with ⟨k1,rfl,rfl⟩ | ⟨k1,⟨c',kc,k2⟩,rfl,rfl⟩ | ⟨k1,k2,k3⟩
 ·exact ⟨rfl,rfl⟩
 ·omega
 ·omega
 ·omega
 ·exact ⟨rfl,rfl⟩
 ·grind
 ·omega
 ·grind
 ·obtain ⟨D,hD⟩: ∃D:Nat,D=20:=⟨20,rfl⟩;rw [Mj hD];obtain ⟨q1,q2⟩:=P6 (fM hx hn g3 g2 hs) (D:=D) Za;rcases k3 with ⟨f,rfl,rfl⟩ | ⟨f,rfl,rfl⟩
  ·have:Lx x ys D zSt<0:=Int.not_le.1 fun h0=>by grind
   rw [if_pos this,if_pos this];exact ⟨rfl,rfl⟩
  grind
theorem eY {x:Inst} {l:List Col} {p q:Pln} {c e c' e':Int} (hx:InstOk x) (hn:x.orders.length<=4) (hs: ∀c∈l,c.set<9223372036854775808) (h:nK x l p c e) (h':LZ x l q c' e'):c=c'/\e=e'/\p.routes=q.routes/\p.unserved=q.unserved/\p.routes.length<=24/\p.unserved.length<=24/\ ∀r∈p.routes,∃c∈l,r=c.route:=by
 obtain ⟨b,hb,h1,h2⟩:=h';have z:zPlC.routes.length<=24/\zPlC.unserved.length<=24/\ ∀r∈zPlC.routes,∃c∈l,r=c.route:=⟨by simp [zPlC],by simp [zPlC],fun r hr=>by simp [zPlC] at hr⟩;rcases h with ⟨g1,rfl,rfl,rfl⟩ | ⟨g1,⟨c,gc,g2⟩,rfl,rfl,rfl⟩ | ⟨g1,g2,ys,g3,g4,g5⟩<;>rcases hb with ⟨k1,rfl,rfl⟩ | ⟨k1,⟨c',kc,k2⟩,rfl,rfl⟩ | ⟨k1,k2,k3⟩
 ·grind
 ·omega
 ·omega
 ·omega
 ·grind
 ·grind
 ·omega
 ·grind
 ·obtain ⟨D,hD⟩: ∃D:Nat,D=20:=⟨20,rfl⟩;have hc:=fM hx hn g3 g2 hs;obtain ⟨q1,q2⟩:=P6 hc (D:=D) Za;rw [Mj hD] at g5;rcases g5 with ⟨g6,rfl,rfl,rfl⟩ | ⟨g6,rfl,rfl,zs,hp,ha,rfl⟩
  ·grind
  ·rcases k3 with ⟨f,rfl,rfl⟩ | ⟨f,rfl,rfl⟩
   ·grind
   ·obtain ⟨rfl,rfl⟩:=h2 rfl;have hz:=R7 x l;have hpk:=EO hc hD x.orders.length 0 zSt _ 20 Za Za hz;obtain ⟨s',hg⟩:=MN hc (D:=D) x.orders.length 0 zSt _ Za hz;rw [q2 g6];simp only [mI] at hpk;rw [hpk] at hp ⊢;simp only at hp ⊢;have hzs:=aY hc hg hp ha;rw [hg.len,cQ,hzs];have l1:=Lw (l:=l) (g:=gr x l ys D x.orders.length 0 zSt (List.replicate x.orders.length (-1))) (n:=x.orders.length) x.types.length;have l2:=LQ (x:=x) (g:=gr x l ys D x.orders.length 0 zSt (List.replicate x.orders.length (-1))) x.orders.length
    have l3:x.types.length*x.orders.length<=6*4:=Cr hc.t6 hn;refine ⟨trivial,trivial,rfl,rfl,by grind,Za,fun r hr=> ?_⟩;obtain ⟨c,hcm,rfl⟩:=XM.1 hr;rw [<- hzs,hp.mem_iff,Ii] at hcm;obtain ⟨i,_,i1,i2,_,rfl⟩:=hcm;exact ⟨_,ZX (by have:=hg.rng i Za;omega),rfl⟩
theorem Fy {α:Type} [DecidableEq α] {p q:α->Bool} {a:α} : ∀ {l:List α},l.Nodup->a∈l->p a=false->q a=true->(∀b∈l,b≠a->p b=q b)->(l.filter q).length=(l.filter p).length+1
 | [],_,h,_,_,_=>by simp at h
 | b::l,hn,h,hp,hq,he=>by
  rw [List.nodup_cons] at hn
  by_cases e:b=a
  ·grind [An]
  ·have ih:=Fy hn.2 (by
    grind) hp hq fun c hc=>he c (Yp _ hc)
   grind
theorem Gx {ok:List Vis->Bool} {col:List Vis->Col} {better:Col->Col->Bool} (hb: ∀a b,(better a b=true->a.price<=b.price)/\(better a b=false->b.price<=a.price)): ∀(L:List (List Vis)) (b:Col×Bool),(b.2=true->(L.foldl (XC ok col better) b).2=true/\(L.foldl (XC ok col better) b).1.price<=b.1.price) /\
  ∀m∈L,ok m=true->(L.foldl (XC ok col better) b).2=true/\(L.foldl (XC ok col better) b).1.price<=(col m).price
 | [],b=>⟨fun h=>⟨h,Int.le_refl _⟩,fun m hm=>by simp at hm⟩
 | l::L,b=>by
  rw [XL];obtain ⟨g1,g2⟩:=Gx hb L (XC ok col better b l)
  have hu:(b.2=true->(XC ok col better b l).2=true/\(XC ok col better b l).1.price<=b.1.price)/\(ok l=true->(XC ok col better b l).2=true/\(XC ok col better b l).1.price<=(col l).price):=by
   unfold XC
   split
   ·rename_i hc;refine ⟨fun h=>⟨rfl,?_⟩,fun _=>⟨rfl,Int.le_refl _⟩⟩;rcases hc.2 with h2 | h2
    ·rw [h2] at h;cases h
    ·exact (hb _ _).1 h2
   ·rename_i hc;refine ⟨fun h=>⟨h,Int.le_refl _⟩,fun h=> ?_⟩
    have h2:b.2=true:=by
     cases h3:b.2 with
     | true=>rfl
     | false=>exact absurd ⟨h,.inl h3⟩ hc
    have h4:better (col l) b.1=false:=by
     cases h3:better (col l) b.1 with
     | false=>rfl
     | true=>exact absurd ⟨h,.inr h3⟩ hc
    exact ⟨h2,(hb _ _).2 h4⟩
  refine ⟨fun h=> ?_,fun m hm hk=> ?_⟩
  ·obtain ⟨h1,h2⟩:=hu.1 h;obtain ⟨h3,h4⟩:=g1 h1;exact ⟨h3,Int.le_trans h4 h2⟩
  grind
theorem iG {x:Inst} {S:Nat} {m:List Vis} (h:Gr x S m): ∀(f k:Nat),m.length=k+f->m∈A3 (fun l=>nextU x S l x.orders.length) f (m.take k)
 | 0,k,hl=>by
  grind [A3]
 | f+1,k,hl=>by
  have hk:k<m.length:=Za
  have ha:=h.at k hk;rw [A3,if_neg (fun e=>by grind),XQ];refine ⟨nth m k,ha,?_⟩
  have e:m.take k++ [nth m k]=m.take (k+1):=by rw [X9 hk,Zh hk]
  rw [e];exact iG h f (k+1) Za
theorem No {x:Inst} {l:List Vis} (h:RightV x l):Xs l≠0:=fun e=>by
 obtain ⟨v,hv⟩: ∃v,v∈l:=by
  cases l with
  | nil=>exact absurd rfl h.ne
  | cons v l=>simp
 have hi:=h.inr v hv;have hb:=(h.bit v.order.toNat).2 ⟨v,hv,Za⟩
 grind
theorem oY (a b:Col):(Wi a b=true->a.price<=b.price)/\(Wi a b=false->b.price<=a.price):=by
 unfold Wi
 grind
theorem Ti {x:Inst} (hx:InstOk x) {k:Int} {m:List Vis} (ht:0<=(nth x.types k.toNat).opn) (hok:FY x k m=true) (z:Col×Bool) :
  Wq x.orders x.apart x.before ((Xs m:Nat):Int)=0/\(D5 x k (Xs m) z).2=true/\(D5 x k (Xs m) z).1.price<=(YG x (Q3 k m)).1:=by
 have hf:=XH hx
 have hn:x.orders.length<=60:=by have:=hf.len;omega
 have hr:RightV x m:=WA (Ug hok);have ha:=hr.alw hf;have hS:=(hr.lt hf).2;refine ⟨(Qr hn hS hf.val).2 ha,?_⟩;rw [OM hx (No hr) hS ha ht z,BR];have hg:=hr.gr hf m.length (ZD _);rw [YT] at hg;have hin:m∈A3 (Cx x (Xs m)) (WR x (Xs m)) []:=iG hg (WR x (Xs m)) 0 (by rw [hr.len hf,WR];omega)
 have hR:C3 x k (Xs m) m=true:=by
  unfold C3;rw [hok,Ug hok,hr.ord hf];simp
 exact (Gx oY _ z).2 m hin hR
theorem Gy {g:FuncId} {args:List V} {R:Pln->Int->Int->Prop} {H:List AM.Obj} {K:V->List AM.Obj->Prop} (h:ACalls Tryz.prog g args [] fun y H'=> ∃p c e,R p c e/\y= .tup [.p (JF p),.p (.int .i64 c),.p (.int .i64 e)]/\H'= []) (k: ∀p c e,R p c e->K (.tup [.p (JF p),.p (.int .i64 c),.p (.int .i64 e)]) H) (ha:Xl 0 args=true:=by rfl):ACalls Tryz.prog g args H K :=
 (h.behind ha H).mono fun x H' hq=>by
  obtain ⟨y,H1,⟨p,c,e,hr,rfl,rfl⟩,rfl,rfl⟩:=hq
  grind [shV,shVs]
theorem DK {ok:List Vis->Bool} {col:List Vis->Col} {better:Col->Col->Bool} : ∀(L:List (List Vis)) (b:Col×Bool),(L.foldl (XC ok col better) b).2=true->(b.2=true/\(L.foldl (XC ok col better) b).1=b.1)\/ ∃m∈L,ok m=true/\(L.foldl (XC ok col better) b).1=col m
 | [],b,h=> .inl ⟨h,rfl⟩
 | l::L,b,h=>by
  rw [XL] at h ⊢;rcases DK L _ h with ⟨h1,h2⟩ | ⟨m,h1,h2,h3⟩
  ·rw [h2];unfold XC at h1 ⊢
   grind
  grind
theorem Da {x:Inst} {k:Int} {S:Nat} (h:(VM x k S).2=0): ∃m,m∈RT x k S (WR x S) [] (st0 (nth x.types k.toNat))/\FY x k m=true/\(VM x k S).1=YP x k S m:=by
 unfold VM at h ⊢
 split at h
 ·rename_i hc;rw [if_pos hc];rcases DK _ _ hc.2 with ⟨h1,_⟩ | ⟨m,h1,h2,h3⟩
  ·cases h1
  ·exact ⟨m,h1,h2,h3⟩
 ·cases h
theorem Nv {one:Nat->List Col} {c:Col} : ∀q,c∈Bv one q↔ ∃S,1<=S/\S<=q/\c∈one S
 | 0=>by simp [Bv];omega
 | q+1=>by
  rw [Bv,Xg,Nv q]
  grind
theorem L9 {one:Nat->Nat->List Col} {N:Nat} {c:Col} : ∀K,c∈V9 one N K↔ ∃k S,k<K/\1<=S/\S<=N/\c∈one k S
 | 0=>by simp [V9]
 | K+1=>by
  rw [V9,Xg,L9 K,Nv]
  grind
noncomputable def XD (x:Inst):List Col:=V9 (VE x) (2^x.orders.length-1) x.types.length
theorem BL {x:Inst} {c:Col} :c∈XD x↔ ∃k S,k<x.types.length/\0<S/\S<2^x.orders.length/\(VM x (k:Int) S).2=0/\c=(VM x (k:Int) S).1:=by
 have hp1:1<=2^x.orders.length:=Nat.one_le_two_pow;rw [XD,L9]
 constructor
 ·grind [VE]
 ·rintro ⟨k,S,h1,h2,h3,h4,h5⟩;exact ⟨k,S,h1,Za,Za,by simp_all [VE]⟩
theorem dH {x:Inst} {c:Col} (h:c∈XD x): ∃(k S:Nat) (m:List Vis),k<x.types.length/\0<S/\S<2^x.orders.length/\m.length=WR x S/\FY x k m=true/\c=YP x k S m:=by
 obtain ⟨k,S,h1,h2,h3,h4,rfl⟩:=BL.1 h;obtain ⟨m,m1,m2,m3⟩:=Da h4;exact ⟨k,S,m,h1,h2,h3,by have:=Ld _ _ _ m m1;grind,m2,m3⟩
theorem Er {x:Inst} (hn:x.orders.length<=4) (h6:x.types.length<=6):(XD x).length<=96/\ ∀c∈XD x,c.set<9223372036854775808/\ZcJ c.route:=by
 have hp2:2^x.orders.length<=2^4:=Yr Za hn;refine ⟨?_,fun c hc=> ?_⟩
 ·have h1:=BK (N:=2^x.orders.length-1) (KN (x:=x)) x.types.length;have h2:x.types.length*(2^x.orders.length-1)<=6*16:=Cr Za Za;unfold XD;omega
 ·obtain ⟨k,S,m,_,_,h3,h4,_,rfl⟩:=dH hc;have:=CY x S x.orders.length;unfold WR at h4;exact ⟨by grind [YP],by grind [YP,Q3],by simp [YP,Q3]⟩
theorem tB (x:Inst) (hx:InstOk x) (hn:x.orders.length<=4) (h6:x.types.length<=6) (hbl:x.before.length<=1048576) (hal:x.apart.length<=1048576) :
  ACalls Tryz.prog 47 [.p (Zv x)] [] fun y H'=> ∃p c e,nK x (XD x) p c e/\y= .tup [.p (JF p),.p (.int .i64 c),.p (.int .i64 e)]/\H'= []:=by
 obtain ⟨hl,hc⟩:=Er hn h6;have ca:=Np x hx hn h6 hbl hal;have cc:=aG x (XD x) false hx hn Za (fun c h=>(hc c h).1) Za;rw [show V9 (VE x) (2^x.orders.length-1) x.types.length=XD x from rfl] at ca;generalize XD x=L at ca cc ⊢;refine Zf [] Tryz.func47 rfl ZhZ ?_;simp (disch:=omega) only [Tryz.f47,go_sem,seval];refine WL ca (Zc ?_);refine Gy cc fun p c e hR=>Zc ?_;exact ⟨.tup [.p (JF p),.p (.int .i64 c),.p (.int .i64 e)],[],wk,p,c,e,hR,rfl,rfl⟩
theorem bI (x:Inst) (hx:InstOk x) (hn:x.orders.length<=4) (h6:x.types.length<=6) (hbl:x.before.length<=1048576)
  (hsk: ∀k,k<x.orders.length->(nth x.orders k).off=false->0<=(nth x.orders k).penalty->0<=skR x k/\skR x k<=18014398509481984) (hus: ∀i,scoR 1152921504606846976 (unsF x i).1) :
  ACalls Tryz.prog 12 [.p (Zv x)] [] fun y H'=> ∃p c e,LZ x (XD x) p c e/\y= .tup [.p (JF p),.p (.int .i64 c),.p (.int .i64 e)]/\H'= []:=by
 obtain ⟨hl,hc⟩:=Er hn h6;have ca:=nQ x hx hn h6 hbl;have cc:=Mr x (XD x) false hn h6 Za (fun c h=>(hc c h).1) hsk hus;rw [show V9 (VE x) (2^x.orders.length-1) x.types.length=XD x from rfl] at ca;generalize XD x=L at ca cc ⊢;refine Zf [] Tryz.func12 rfl Zhz ?_;simp (disch:=omega) only [Tryz.f12,go_sem,seval];refine WL ca (Zc ?_);refine Gy cc fun p c e hR=>Zc ?_;exact ⟨.tup [.p (JF p),.p (.int .i64 c),.p (.int .i64 e)],[],wk,p,c,e,hR,rfl,rfl⟩
theorem Sg {x:Inst} {r:Rte} (h0:r.start=0) (hz:r.rests= []):YG x r=YG x (Q3 r.typ r.visits):=by
 cases r
 simp only at h0 hz;subst h0;subst hz;rfl
theorem fJ {x:Inst} (hx:InstOk x) {r:Rte} (he:(YG x r).2=0) (hty:0<=r.typ/\r.typ<(x.types.length:Int)) (h0:r.start=0) (hz:r.rests= []) :
  ∃j,j<(XD x).length/\(nth (XD x) j).typ=r.typ/\(nth (XD x) j).set=((Xs r.visits:Nat):Int)/\(nth (XD x) j).price<=(YG x r).1:=by
 obtain ⟨k,hk⟩: ∃k:Nat,r.typ=(k:Int):=⟨r.typ.toNat,Za⟩
 have hkl:k<x.types.length:=Za
 have hok:FY x (k:Int) r.visits=true:=by
  grind [FY,Sg]
 have hr:RightV x r.visits:=WA (r:=Q3 (k:Int) r.visits) (Ug hok)
 have hopn:0<=(nth x.types (k:Int).toNat).opn:=by
  simp_all [WK]
 obtain ⟨g1,g2,g3⟩:=Ti hx (k:=(k:Int)) (m:=r.visits) hopn hok (Ww,false)
 have hv:VM x (k:Int) (Xs r.visits)=((D5 x (k:Int) (Xs r.visits) (Ww,false)).1,0):=by
  simp_all [VM]
 have hS:Xs r.visits<2^x.orders.length:=by
  rcases Nat.div_eq_zero_iff.1 (hr.lt (XH hx)).2 with h | h
  ·grind [pw]
  ·exact h
 have hmem:(VM x (k:Int) (Xs r.visits)).1∈XD x:=BL.2 ⟨k,Xs r.visits,hkl,Nat.pos_of_ne_zero (No hr),hS,by rw [hv],rfl⟩;obtain ⟨m,_,_,m3⟩:=Da (x:=x) (k:=(k:Int)) (S:=Xs r.visits) (by rw [hv]);obtain ⟨j,hj,e⟩:=List.getElem_of_mem hmem;refine ⟨j,hj,?_⟩;rw [Zh hj,e];refine ⟨by rw [m3,hk];rfl,by rw [m3];rfl,?_⟩
 grind [Sg]
theorem rK {x:Inst} {t:Typ} {sp:List Stp} {k:Nat} {L:Lab} {b:Bool} (hT:TrpOk x t sp) (hk:k<sp.length) (he:(nxtF x t sp k L b).2=0):L.ready<=(nxtF x t sp k L b).1.ready:=by
 have hrs:=hT.rst
 have hd:L.ready<=ZJ t L b:=by grind [ZJ]
 have hgo:(YY x t sp k (ZJ t L b)).2.2=0->ZJ t L b<=(YY x t sp k (ZJ t L b)).1:=fun e=>iF hT.net e;have hst:=hT.stp _ (ZX hk);unfold nxtF at he ⊢
 generalize YY x t sp k (ZJ t L b)=g at *
 generalize ZJ t L b=d at *
 generalize WQ L b=s at *
 generalize XW k d b L.she=m at *
 have hk2: ¬k=sp.length:=Za
 unfold Wx at he ⊢
 grind
theorem rJ {x:Inst} {t:Typ} {sp:List Stp} {L:Lab} {b:Bool} (hT:TrpOk x t sp) (he:(nxtF x t sp sp.length L b).2=0):L.ready<=(nxtF x t sp sp.length L b).1.she.fin/\(nxtF x t sp sp.length L b).1.she.fin<=t.cls:=by
 have hrs:=hT.rst
 have hd:L.ready<=ZJ t L b:=by grind [ZJ]
 have hgo:(YY x t sp sp.length (ZJ t L b)).2.2=0->ZJ t L b<=(YY x t sp sp.length (ZJ t L b)).1:=fun e=>iF hT.net e;unfold nxtF at he ⊢
 generalize YY x t sp sp.length (ZJ t L b)=g at *
 generalize ZJ t L b=d at *
 generalize WQ L b=s at *
 generalize XW sp.length d b L.she=m at *
 unfold Wx at he ⊢
 grind
theorem So {x:Inst} {t:Typ} {sp:List Stp} (hT:TrpOk x t sp): ∀(bs:List Bool) (k:Nat) (L:Lab),k+bs.length=sp.length+1->0<bs.length->(Xb x t sp k L bs).2=0->L.ready<=(Xb x t sp k L bs).1.she.fin/\(Xb x t sp k L bs).1.she.fin<=t.cls
 | [],k,L,_,h3,_=>by simp at h3
 | b::bs,k,L,h2,_,h=>by
  rw [Xb] at h ⊢
  by_cases h4:(nxtF x t sp k L b).2=0
  ·simp only [h4,if_true] at h ⊢
   cases bs with
   | nil =>
    simp_all [Xb,rJ]
   | cons b2 bs =>
    simp at h2;have h5:=So hT (b2::bs) (k+1) _ (by simp;omega) Zb h;have h6:=rK hT (show k<sp.length by omega) h4;omega
  grind
theorem IU {x:Inst} {r:Rte} (hx:InstOk x) (h:Xv x r=0):(ZC x r).opn<=(X4 x r).fin/\(X4 x r).fin<=(ZC x r).cls:=by
 obtain ⟨hty,h0,hs⟩:=U0 (Uc h)
 have e:X4 x r=(Xu x r).1:=by rw [X4,if_pos h]
 have ee:(Xu x r).2=0:=by rw [Xv,if_pos (Uc h)] at h;exact h
 have hT:=K0 hx hty (VK h0);obtain ⟨bs,hb1,hb2,hb3⟩:=Hb (by grind [Ya]) ee;have hb3:(Xu x r).1=_:=hb3;rw [e,hb3];have h1:=So hT bs 0 _ Za Za hb2
 grind [labF]
def D7 (l:List Vis) (N:Nat):Nat:=(List.range N).countP fun i:Nat=>hasO l (i:Int)
theorem Ts {l m:List Vis} {N:Nat} (h: ∀v∈l,v∈m):D7 l N<=D7 m N:=List.countP_mono_left fun i _ hi=>by
 grind [W1]
theorem Rk {x:Inst} {l:List Vis} {t:Int} (hi:Inr x l): ∀n,n<=l.length->(0<=(chgF x l t n).1/\(chgF x l t n).1<=(D7 (l.take n) x.orders.length:Int))/\(0<=(chgF x l t n).2/\(chgF x l t n).2<=(D7 (l.take n) x.orders.length:Int))
 | 0,_=>by simp [chgF]
 | n+1,h=>by
  have ih:=Rk (t:=t) hi n Za
  have hn:n<l.length:=Za
  have hv:=hi _ (ZX hn)
  have htk:l.take (n+1)=l.take n++ [nth l n]:=by rw [X9 hn,Zh hn]
  have hmono:D7 (l.take n) x.orders.length<=D7 (l.take (n+1)) x.orders.length:=Ts fun v hv=>by grind
  have hap: ∀i:Int,hasO (l.take (n+1)) i=(hasO (l.take n) i||decide ((nth l n).order=i)):=fun i=>by grind [hasO]
  rw [chgF]
  split
  ·rename_i hf
   have hadd:D7 (l.take (n+1)) x.orders.length=D7 (l.take n) x.orders.length+1:=by
    unfold D7;rw [List.countP_eq_length_filter,List.countP_eq_length_filter]
    have ei:(((nth l n).order.toNat:Nat):Int)=(nth l n).order:=Za
    refine Fy (a:=(nth l n).order.toNat) List.nodup_range (ZL.2 Za) ?_ ?_ fun b _ hb=> ?_
    ·rw [ei];simp only [Us,XT] at hf;exact hf
    ·grind
    grind
   omega
  ·omega
theorem Bi {x:Inst} {r:Rte} (hx:InstOk x) (h:Xv x r=0):aH (Wa x r)/\(Wa x r).cost<=22000000/\(Wa x r).moved<=(D7 r.visits x.orders.length:Int)/\(Wa x r).other<=(D7 r.visits x.orders.length:Int)/\(Wa x r).work<=4096:=by
 have hg:=MA hx h;have hf:=IU hx h;obtain ⟨hty,_,_⟩:=U0 (Uc h);have hnum:=WK hx (show r.typ.toNat<x.types.length by omega);have htyp:nth x.types r.typ.toNat=ZC x r:=rfl;rw [htyp] at hnum
 have e:(Xu x r).1=X4 x r:=by rw [X4,if_pos h]
 have hch:=Rk (t:=r.typ) (WA h).inr r.visits.length (ZD _);rw [YT] at hch;rw [Wa,if_pos h,e];unfold DC aH
 generalize X4 x r=s at *
 generalize ZC x r=t at *
 have p1:0<=t.perMile*s.miles/\t.perMile*s.miles<=100*210000:=⟨Uw Za Za,VB Za Za Za Za⟩
 have hW:0<=s.fin-t.opn/\s.fin-t.opn<=4096:=Za
 have p2:0<=t.perTick*(s.fin-t.opn)/\t.perTick*(s.fin-t.opn)<=100*4096:=⟨Uw Za Za,VB Za Za Za Za⟩
 have p3:0<=(s.fin-t.opn).tdiv 64/\(s.fin-t.opn).tdiv 64<=64:=by
  grind
 have p4:0<=(s.fin-t.opn).tdiv 64*(s.fin-t.opn).tdiv 64/\(s.fin-t.opn).tdiv 64*(s.fin-t.opn).tdiv 64<=64*64:=⟨Uw p3.1 p3.1,VB p3.2 p3.2 p3.1 Za⟩
 grind
theorem HR {x:Inst} (hx:InstOk x) (hn:x.orders.length<=4): ∀c∈XD x,rightB x c=true:=fun c hc=>by
 obtain ⟨k,S,h1,h2,h3,h4,h5⟩:=BL.1 hc;obtain ⟨m,m1,m2,m3⟩:=Da h4;have hp4:2^x.orders.length<=2^4:=Yr Za hn
 have hal:Wq x.orders x.apart x.before ((S:Nat):Int)=0:=by
  grind [VM]
 have hf:=XH hx;have ha:Alw x S:=(Qr Za (by rw [Nat.div_eq_zero_iff];exact .inr h3) hf.val).1 hal
 have hw:PX S (Yt x x.orders.length)=true:=by
  rw [N7 hn Za,ZF,Zs,Zz];refine ⟨h3,fun i hi=> ?_⟩
  cases hb:S.testBit i with
  | false=>rfl
  | true=>rw [ha.off i (ZL.1 hi) hb];rfl
 have he:=Ug m2;have hfn:=Bi hx he
 have hcn:D7 (Q3 (k:Int) m).visits x.orders.length<=x.orders.length:=by
  have:=List.countP_le_length (p:=fun i:Nat=>hasO (Q3 (k:Int) m).visits (i:Int)) (l:=List.range x.orders.length);rw [List.length_range] at this;exact this
 have hpr:(YG x (Q3 k m)).1=(((Wa x (Q3 k m)).cost*16+(Wa x (Q3 k m)).moved)*16+(Wa x (Q3 k m)).other)*65536+(Wa x (Q3 k m)).work:=by
  rw [YG,if_pos he]
  grind [mS,N6]
 have hp:=Ns x (Q3 k m)
 have h6:(YP x k S m).price<=18014398509481984:=by
  show (YG x (Q3 k m)).1<=_
  omega
 rw [h5,m3];simp only [rightB,ZF,Zs];refine ⟨?_,?_,?_,?_,?_,h6⟩
 ·show (0:Int)<=(k:Int);omega
 ·show (k:Int)<_;omega
 ·show (0:Int)<(S:Int);omega
 ·show PX ((S:Nat):Int).toNat _=true
  grind
 ·exact hp.1
theorem aI {x:Inst} {r:Rte} (h:(YG x r).2=0):Xv x r=0:=by
 grind [YG]
end Go.Proofs.YtenjikkmmibffaaGreatDoor.K
