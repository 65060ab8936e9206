/- Declarations that the closing texts need, part 16: joined by tools/slim.py. -/
import Derived.Test.YtenjikkmmibffaaGreatDoorY15
import Derived.Shelf.SlSortCmp.NoneTotal
set_option linter.unusedVariables false
set_option linter.unusedSimpArgs false
namespace Go.AM
open Go.RowKit Go.Shelf Go.Lib Go.Sort Go.Proofs
theorem jP {W w':World} {H':List AM.Obj} {ι':List (Option Nat)} (g:Good A5 [] [] W H' ι' w'): ∃q os',w'=grow (W.drewN q) os':=by
 refine ⟨w'.drawn-W.drawn,w'.heap.extract W.heap.size w'.heap.size,?_⟩
 have h1:w'.heap=W.heap++w'.heap.extract W.heap.size w'.heap.size:=by
  apply Array.ext_getElem?;intro i
  by_cases hi:i<W.heap.size
  ·rw [DA hi];exact g.keep i hi Zb
  ·rw [Array.getElem?_append_right Za];have:=g.size;rw [Array.getElem?_extract]
   split
   ·congr 1;omega
   ·rw [Array.getElem?_eq_none Za]
 have h2:W.drawn<=w'.drawn:=g.tape.2.resolve_right fun h=>h;have h3:=g.tape.1;have h4:=g.os;have h5:=g.output
 cases w'
 simp only [grow,World.drewN] at *
 congr 1
 omega
def P5 (c:Array Value) (k i:Nat):List Value:=(List.range k).map fun j=>c.getD (i*k+j) undef
theorem Gb (c k i):(P5 c k i).length=k:=by simp [P5]
theorem CZ {c k i j} (h:j<k):(P5 c k i)[j]! =c.getD (i*k+j) undef:=by
 rw [List.getElem!_eq_getElem?_getD,P5,Xk,List.getElem?_range h];rfl
theorem ACalls.sortFunc {P : Program} {ρ : Ren} (L : SlLaysF0.n6 P ρ) (hg : Zj P (ρ.f 6)) (k : Nat) (aE : ∀ w, (isAgg (ρ.t 24)).run P w = .ok true w) (zE : ∀ w, (Go.sizeOf (ρ.t 24)).run P w = .ok k w)
    {β : Type} [Inhabited β] (f : β -> PV) (hf : ∀ x, ∃ cs, f x = .agg cs /\ cs.length = k /\ cs.all (·.one) = true) (cf : β -> β -> Int) (hO : SWO (ltOf cf)) (g : FuncId)
    (hcmp : ∀ x y, ACalls P g [.p (f x), .p (f y)] [] fun r H' => r = .p (.int .i64 (cf x y)) /\ H' = []) (xs : List β) (hlen : xs.length < 4611686018427387904) {H : List AM.Obj} {o : Nat} (hHo : H[o]? = some (.elems k (xs.map f))) :
    ACalls P (ρ.f 6) [.sl o 0 xs.length xs.length, .fn (.func g) [] []] H fun y H' => y = .tup [] /\ ∃ ys : List β, ys.Perm xs /\ ys.Pairwise (fun a b => ¬ cf b a < 0) /\ H' = H.set o (.elems k (ys.map f)) := by
  refine ⟨hg, fun F ι w vs hr hv => ?_⟩;obtain ⟨hv1, hv2⟩ := hv;have h0 := hv2 0 _ rfl;have h1 := hv2 1 _ rfl
  have hvs : vs = #[vs.getD 0 undef, vs.getD 1 undef] := by
    apply Array.ext
    · simpa using hv1
    · intro i h2 h3
      have : i = 0 \/ i = 1 := by simp at hv1; omega
      rcases this with rfl | rfl <;> simp [Array.getD, h2]
  rw [hvs];generalize vs.getD 0 undef = v0 at h0 ⊢;generalize vs.getD 1 undef = v1 at h1 ⊢;clear hvs hv1 hv2
  cases h1 with | fn _ _ _ a e hs ht _ _ =>
  have ea : a = #[] := EE (by simpa using hs);have ee : e = #[] := EE (by simpa using ht);subst ea; subst ee;generalize hL : xs.length = n at h0 hlen
  by_cases hz : n = 0
  · subst hz
    obtain rfl : xs = [] := List.length_eq_zero_iff.1 hL
    have e1 : H.set o (.elems k (([] : List β).map f)) = H := by
      apply JW;intro i;rw [Ja]
      split
      · rename_i hi; subst hi; rw [hHo]; simp [(ZU.1 hHo).1]
      · rfl
    obtain ⟨ad, cap, rfl⟩ : ∃ ad cap, v0 = .slice ad 0 cap := by
      cases h0 with
      | slNil => exact ⟨_, _, rfl⟩
      | sl => exact ⟨_, _, rfl⟩
      | slD _ _ _ _ _ hd => rw [hHo] at hd; cases hd
      | slS _ _ _ _ _ S2 xs2 hd hne => rw [hHo] at hd; simp at hd; obtain ⟨_, rfl⟩ := hd; simp at hne
      | slC _ _ _ _ _ _ hd => rw [hHo] at hd; cases hd
    refine (AnyF.slices_SortFunc_none L ad cap _ w).mono ?_;rintro e w' ⟨rfl, rfl⟩;exact ⟨.tup [], _, ι, _, rfl, ⟨rfl, [], .refl _, .nil, e1.symm⟩, Good.refl hr, .tup [] #[] Zb Zb⟩
  have hn : 0 < n := Za
  cases h0 with
  | slNil => omega
  | slD _ _ _ _ _ hd => rw [hHo] at hd; cases hd
  | slS _ _ _ _ _ S ys hd hlt => rw [hHo] at hd; simp at hd; obtain ⟨_, rfl⟩ := hd; simp at hlt; omega
  | slC _ _ _ _ _ _ hd => rw [hHo] at hd; cases hd
  | sl _ _ _ _ b S cap t ys c hι hH ht2 hw hcap hl hle hm =>
  rw [hHo] at hH;simp at hH;obtain ⟨rfl, rfl⟩ := hH;rcases hr.elm o k (xs.map f) hHo with ⟨e1, _⟩ | ⟨b2, c2, t2, cap2, e1, e2, e3, e4, e5, e6, e7⟩
  · rw [hι] at e1; cases e1
  rw [hι] at e1;simp at e1; subst e1;rw [hw] at e2;simp at e2;obtain ⟨rfl, rfl⟩ := e2;have hbs : b < w.heap.size := (hr.avo o b hι).2;have hbF : ¬ F b := (hr.avo o b hι).1
  -- an index, made one that there is
  let ix : Nat -> Nat := fun i => if i < n then i else 0
  have hix : ∀ i, ix i < n := fun i => by simp only [ix]; split <;> omega
  have hixe : ∀ i, i < n -> ix i = i := fun i hi => by simp only [ix]; rw [if_pos hi]
  let enc : Nat -> List Value := fun i => P5 c k (ix i)
  have hk : ∀ x, (enc x).length = k := fun x => Gb _ _ _
  -- one cell of an element
  have cell : ∀ i, i < n -> ∃ cs, f (nth xs i) = .agg cs /\ cs.length = k /\ ∀ (j : Nat) (y : PV), cs[j]? = some y -> y.one = true /\ RP (Own F ι) w y (c.getD (i * k + j) undef) := fun i hi => by
    obtain ⟨cs, q1, q2, q3⟩ := hf (nth xs i);refine ⟨cs, q1, q2, fun j y hj => ⟨ZA.1 q3 y (XB hj), ?_⟩⟩;refine e7 i (f (nth xs i)) j y ?_ (by rw [q1]; exact hj);rw [Xk, J2 Za, Zh Za]; rfl
  have one : ∀ x, ∀ v ∈ enc x, v.oneCell' = true := fun x v hv => by
    obtain ⟨j, hj, rfl⟩ := ZN.1 hv
    have hjk : j < k := by rw [hk] at hj; exact hj
    obtain ⟨cs, q1, q2, q3⟩ := cell (ix x) (hix x);have hg := q3 j (cs[j]'(Za)) Zb
    have e9 : (enc x)[j] = c.getD (ix x * k + j) undef := by
      have := CZ (c := c) (i := ix x) hjk;rw [List.getElem!_eq_getElem?_getD, J2 (by rw [Gb]; exact hjk)] at this;exact this
    rw [e9];exact hg.2.oneCell hg.1
  let d : Array Nat := Array.range n
  have hd : d.size = n := by simp [d]
  let cf' : Nat -> Nat -> Int := fun i j => cf (nth xs (ix i)) (nth xs (ix j))
  have hO' : SWO (ltOf cf') := ⟨fun x => hO.irrefl _, fun x y z h1 h2 => hO.trans _ _ _ h1 h2, fun x y z h1 h2 => hO.ntrans _ _ _ h1 h2⟩
  have hsz : n * k <= c.size := by
    rw [e3]; exact Yr k (by simpa [hL] using e4)
  have hcell : ∀ j, j < c.size -> w.cell? ⟨b, j, none⟩ = some (c.getD j undef) := fun j hj => by
    simp [World.cell?, hw, hj]
  have hHolds : HoldsK enc k w b (0 * k) d := fun j hj => by
    have hj2 : j < n * k := by simpa [hd] using hj
    have k0 : 0 < k := by rcases Nat.eq_zero_or_pos k with h | h; · subst h; simp at hj2
                          · exact h
    rw [get_flatK enc k d j (by rw [hd]; exact hj2)];have hdj : j / k < n := Nat.div_lt_of_lt_mul (by rw [AH]; exact hj2)
    have hde : d[j / k]! = j / k := by simp [d, hdj]
    rw [hde]
    have e9 : (enc (j / k))[j % k]! = c.getD j undef := by
      show (P5 c k (ix (j / k)))[j % k]! = _
      rw [hixe _ hdj, CZ (Nat.mod_lt _ k0), Nat.div_add_mod']
    rw [e9, Nat.zero_mul, Xl];exact ⟨hcell j Za, by simp [World.frozen?, hw]⟩
  have hcmp' : CmpLays P g #[] enc k cf' b (0 * k) d.size w := fun m os dk hdk x y => by
    generalize hW : sortWorldK enc k w b (0 * k) m dk os = W
    have hKeep : Keeps (Own F ι) w A5 W := fun b' hb' hs' => by
      have hne : b' ≠ b := fun e => hb' (.inr (e ▸ XB hι));refine ⟨fun h => h, ?_, ?_⟩
      · rw [<- hW]; simp [sortWorldK, grow, putRowK, putRow, mapBlock, ahead]; omega
      · rw [<- hW]
        simp only [sortWorldK, grow, putRowK, putRow, mapBlock, ahead];rw [DA (by simpa using hs'), EI, if_neg (fun e => hne e.symm)]
        rfl
    have heW : Env A5 [] W := (hr.env.of (w' := W) (ι' := ι) (by rw [<- hW]; simp [sortWorldK, grow, putRowK, putRow, mapBlock, ahead]) (fun b' hb' hni => by
      have hne : b' ≠ b := fun e => hni (e ▸ XB hι);rw [<- hW];simp only [sortWorldK, grow, putRowK, putRow, mapBlock, ahead];rw [DA (by simpa using hb'), EI, if_neg (fun e => hne e.symm)]
      rfl) (fun _ _ h => h)).noth
    have arg : ∀ i, RV A5 [] [] W (.p (f (nth xs (ix i)))) (.agg (enc i).toArray) := fun i => by
      obtain ⟨cs, q1, q2, q3⟩ := cell (ix i) (hix i);refine .p _ _ ?_;rw [q1]
      refine (RP.agg cs (enc i).toArray (by simp [hk, q2]) fun j y hj => ?_ : RP A5 W _ _).weaker fun b hb => by
        rcases hb with hb | hb
        · exact hb
        · simp at hb
      have hjk : j < k := by rw [<- q2]; exact (ZU.1 hj).1
      have e9 : (enc i).toArray.getD j undef = c.getD (ix i * k + j) undef := by
        have := CZ (c := c) (i := ix i) hjk;rw [List.getElem!_eq_getElem?_getD, J2 (by rw [Gb]; exact hjk)] at this;simp only [XG, Cz];rw [J2 (by rw [hk]; exact hjk), JX];rw [JX] at this;simpa only [XG] using this
      rw [e9];exact (q3 j y hj).2.ext hKeep
    refine ((hcmp (nth xs (ix x)) (nth xs (ix y))).2 A5 [] W _ (Ge heW) ⟨rfl, fun j q hj => ?_⟩).mono ?_
    · cases j with
      | zero => simp at hj; subst hj; exact arg x
      | succ j => cases j with
        | zero => simp at hj; subst hj; exact arg y
        | succ j => simp at hj
    · rintro e' w' ⟨x', H', ι', v, rfl, ⟨rfl, rfl⟩, gd, rv⟩
      cases rv with | p _ _ rp =>
      rw [rp.int_inv];exact ⟨rfl, jP gd⟩
  have eg := (hcmp default default).1;have main := AnyQ.slices_SortFunc L k aE zE enc hk one cf' hO' g #[] b (0 * k) cap d w (fun args w => eg args w) hcmp' hHolds hbs (by rw [hd]; exact hlen);rw [hd] at main;refine main.mono ?_;rintro e' w' ⟨rfl, d', m, os, hp, hso, rfl⟩;obtain ⟨p1, _, p3⟩ := hp;rw [hd] at p1
  have hperm : d'.toList.Perm (List.range n) := by
    have e8 : (d'.extract 0 n).toList = d'.toList := by rw [<- p1]; simp
    have e9 : (d.extract 0 n).toList = List.range n := by
      have : d.extract 0 n = d := by rw [<- hd]; simp
      rw [this]; simp [d]
    rw [e8, e9] at p3; exact p3
  have hlt : ∀ i ∈ d'.toList, i < n := fun i hi => by simpa using hperm.mem_iff.1 hi
  have hlt2 : ∀ i, i < n -> d'.toList[i]?.isSome = true := fun i hi => by simp [p1, hi]
  have hget : ∀ i (hi : i < n), d'[i]! = d'.toList[i]'(by simp [p1, hi]) := fun i hi => by
    rw [getElem!_pos d' i Za]; simp
  let ys : List β := d'.toList.map (nth xs)
  have hyl : ys.length = n := by simp [ys, p1]
  have hys : ∀ i (hi : i < n), ys[i]'(Za) = nth xs d'[i]! := fun i hi => by
    simp only [ys, List.getElem_map]; rw [hget i hi]
  have hdl : ∀ i, i < n -> d'[i]! < n := fun i hi => by rw [hget i hi]; exact hlt _ (Az _)
  have yperm : ys.Perm xs := by
    have h9 : (List.range n).map (nth xs) = xs := by
      refine Jc (by simp [hL]) fun i h1 h2 => ?_;simp only [List.getElem_map, List.getElem_range];rw [Zh h2]
    have := hperm.map (nth xs);rw [h9] at this; exact this
  have ysort : ys.Pairwise fun a b => ¬ cf b a < 0 := by
    rw [Q9];intro i j hi hj hij;rw [hys i Za, hys j Za];have h9 := hso i j (JZ _) hij Za;simp only [ltOf, cf', XH] at h9;rwa [hixe _ (hdl j Za), hixe _ (hdl i Za)] at h9
  let c' : Array Value := putCells id (0 * k) (flatK enc k d') c
  have hcs : c'.size = c.size := by simp [c', putCells]
  have hat : (sortWorldK enc k w b (0 * k) m d' os).heap[b]? = some (.cells c' t (0, 0)) := by
    simp only [sortWorldK, grow, putRowK, putRow, mapBlock, ahead];rw [DA (by simpa using hbs), EI, if_pos rfl]
    show Option.map _ w.heap[b]? = _
    rw [hw]; rfl
  have hoth : ∀ q, q < w.heap.size -> q ≠ b -> (sortWorldK enc k w b (0 * k) m d' os).heap[q]? = w.heap[q]? := fun q hq hne => by
    simp only [sortWorldK, grow, putRowK, putRow, mapBlock, ahead];rw [DA (by simpa using hq), EI, if_neg (fun e => hne e.symm)]
    rfl
  have hc' : ∀ i j, i < n -> j < k -> c'.getD (i * k + j) undef = c.getD (d'[i]! * k + j) undef := fun i j hi hj => by
    have hb1 : i * k + j < n * k := by
      have := Yr k (show i + 1 <= n from hi);rw [XJ, WS] at this; omega
    have e8 : (flatK enc k d')[i * k + j]! = c.getD (d'[i]! * k + j) undef := by
      rw [get_flatK enc k d' _ (by rw [p1]; exact hb1)]
      have q1 : (i * k + j) / k = i := by rw [AH, Nat.mul_add_div Za, QH hj]; omega
      have q2 : (i * k + j) % k = j := by rw [AH, Nat.mul_add_mod, CH hj]
      rw [q1, q2]
      show (P5 c k (ix d'[i]!))[j]! = _
      rw [CZ hj, hixe _ (hdl i hi)]
    have e9 : c'[i * k + j]? = some ((flatK enc k d')[i * k + j]!) := by
      simp only [c', putCells, Array.getElem?_mapIdx];rw [Array.getElem?_eq_getElem Za];simp only [AB, Nat.zero_mul, JZ, true_and, Xl, size_flatK, p1, hb1, if_true, Nat.sub_zero, id]
    rw [XG, e9, JX, e8]
  have good := YO (w' := sortWorldK enc k w b (0 * k) m d' os) (c := c') (t := t) (xs' := ys.map f) (cap := cap2) (b' := b) hr (o := o) (S := k) (xs := xs.map f) hHo rfl (Tp.of rfl (by simp [sortWorldK, grow, putRowK, putRow, mapBlock, ahead])) rfl
    (fun c0 t0 h => by rw [hw] at h; simp at h; obtain ⟨rfl, rfl⟩ := h; exact ⟨rfl, hcs⟩) (by simp [sortWorldK, grow, putRowK, putRow, mapBlock, ahead]) hat hoth (.inl ⟨hι, .inl ⟨by simp [hyl, hL], fun c0 t0 h => by rw [hw] at h; simp at h; obtain ⟨rfl, rfl⟩ := h; exact ⟨rfl, hcs⟩⟩⟩)
    (by rw [hcs]; exact e3) (by simp only [ZY, hyl]; simpa [hL] using e4) e5
    (fun i x hi => by
      rw [Xk, ZV] at hi;obtain ⟨y, _, rfl⟩ := hi;obtain ⟨cs, q1, q2, _⟩ := hf y
      rw [q1]; exact q2)
    (fun i x j y hi hj => by
      rw [Xk, ZV] at hi;obtain ⟨z, hz, rfl⟩ := hi
      have hin : i < n := by have := (ZU.1 hz).1; omega
      have e8 : z = nth xs d'[i]! := by
        obtain ⟨h9, h10⟩ := ZU.1 hz;rw [<- h10]; exact hys i hin
      obtain ⟨cs, q1, q2, q3⟩ := cell _ (hdl i hin);rw [e8, q1] at hj
      have hjk : j < k := by rw [<- q2]; exact (ZU.1 hj).1
      rw [hc' i j hin hjk]
      exact (q3 j y hj).2)
  have ZT : ι.set o (some b) = ι := by
    refine JW fun i => ?_;rw [Ja]
    split
    · rename_i e; subst e
      have := (ZU.1 hι).1;rw [if_pos this, hι]
    · rfl
  rw [ZT] at good;exact ⟨.tup [], _, ι, .tuple #[], rfl, ⟨rfl, ys, yperm, ysort, rfl⟩, good, .tup [] #[] rfl (fun j c hj => by simp at hj)⟩
end Go.AM
namespace Go.Proofs.YtenjikkmmibffaaGreatDoor.K
open Go Go.AM Go.Proofs
set_option maxRecDepth 8000
set_option maxHeartbeats 8000000
deriving instance DecidableEq for Itm
theorem JU {v w:Itm} :v=w↔v.kind=w.kind/\v.a=w.a:=by cases v;cases w;simp
def Qf (a b:Itm):Int:=if YP a.kind b.kind=0 then YP a.a b.a else YP a.kind b.kind
theorem D7 (a b:Itm):PC 66 [.p (Yb a),.p (Yb b)] (.int .i64 (Qf a b)):=by
 refine Zd Tryz.func66 rfl Zi0 ?_;simp (disch:=omega) only [Tryz.f66,go_sem,seval];refine Xe (Zc ?_);refine Zo (B8 a.kind b.kind) (Zc ?_);refine Zo (B8 a.a b.a) (Zc ?_);refine Zo (tC [YP a.kind b.kind,YP a.a b.a] false Zb) (Zc ?_);rw [ES,Qf]
theorem Np (a b:Itm):PC 70 [.p (Yb a),.p (Yb b)] (.bool (decide (Qf a b<0))):=by
 refine Zd Tryz.func70 rfl Zi2 ?_;simp (disch:=omega) only [Tryz.f70,go_sem,seval];refine (D7 a b).use ?_;simp (disch:=omega) only [go_sem,seval]
theorem cG (a b:Itm):PC 71 [.p (Yb a),.p (Yb b)] (.bool (decide (Qf a b<0))):=by
 refine Zd Tryz.func71 rfl Zi3 ?_;simp (disch:=omega) only [Tryz.f71,go_sem,seval]
 repeat' (first | (refine Vv (fun hq=> ?_) (fun hq=> ?_)<;>(try simp only [Zs,XH,Z5] at hq)<;>simp (disch:=omega) only [Sh.out hq,go_sem,seval]) | (refine Uf (fun hq=> ?_) (fun hq=> ?_)<;>(try simp only [Zs,XH,Z5] at hq)<;>simp (disch:=omega) only [Sh.out hq,go_sem,seval]) | (refine UV (fun hq=> ?_) (fun hq=> ?_)<;>(try simp only [Zs,XH,Z5] at hq)<;>simp (disch:=omega) only [Sh.out hq,go_sem,seval]))
 ·have:Qf a b<0:=by simp [Qf,YP,hq]
  simp [this]
 ·rename_i h1
  have:Qf a b=YP a.a b.a:=by simp [Qf,YP,hq]
  rw [this]
  by_cases h2:a.a<b.a
  ·simp [YP,h2]
  ·by_cases h3:b.a<a.a<;>simp [YP,h2,h3]
 ·rename_i h1
  have h2:b.kind<a.kind:=Za
  have: ¬Qf a b<0:=by simp [Qf,YP,h1,h2]
  simp [this]
def LF (x:Inst) (o:Int):Bool:=decide (o<0)||decide ((x.orders.length:Int)<=o)||(nth x.orders o.toNat).off
theorem LD (x:Inst) (o:Int) (hl:x.orders.length<=1048576):PC 64 [.p (Zv x),.p (.int .i64 o)] (.bool (LF x o)):=by
 refine Zd Tryz.func64 rfl ZiY ?_;simp (disch:=omega) only [Tryz.f64,go_sem,seval];refine gF ?_ ?_<;>intro h<;>simp (disch:=omega) only [Sh.out h,go_sem,seval,↓reduceIte]
 ·simp [LF,h]
 ·refine gF ?_ ?_<;>intro h2<;>simp (disch:=omega) only [Sh.out h2,go_sem,seval,↓reduceIte]
  ·simp [LF,h2]
  grind [LF]
def kE (x:Inst) (i:Nat):List Itm:=if (nth x.orders i).off=true then [] else
 (if (nth x.orders i).pick.place≠ -1 then [⟨1,i⟩] else [])++(if (nth x.orders i).drp.place≠ -1 then [⟨2,i⟩] else [])++(if (nth x.orders i).skills≠0 then [⟨4,i⟩] else [])++(if (nth x.orders i).penalty= -1 then [⟨10,i⟩] else [])
def Dx (x:Inst) (k:Nat):List Itm:=(List.range k).flatMap (kE x)
theorem HF (x k):Dx x (k+1)=Dx x k++kE x k:=by simp [Dx,Ye]
theorem sD (x i):(kE x i).length<=4:=by
 unfold kE
 split
 ·simp
 ·simp only [ZG]
  grind
theorem Cp (x): ∀k,(Dx x k).length<=4*k
 | 0=>by simp [Dx]
 | k+1=>by
  have h1:=Cp x k;have h2:=sD x k;rw [HF,ZG];omega
def hO (x:Inst) (m:List Itm) (i:Nat):List AM.Obj:= [Zi x,.cells [.sl 2 0 m.length m.length],.elems 2 (m.map Yb),.cells [.p (.int .i64 (i:Nat))]]
theorem Ew (x:Inst) (m:List Itm) (i:Nat) (has:Bool) (kind:Int) (hm:m.length<=1048576):ACalls Tryz.prog 95 [.p (.bool has),.p (.int .i64 kind),.ptr 1 0,.ptr 3 0] (hO x m i) fun y H'=>y= .tup []/\H'=hO x (if has=true then m++ [⟨kind,i⟩] else m) i:=by
 refine Zf [] Tryz.func95 rfl Zjm ?_
 cases has with
 | true =>
  simp (disch:=omega) only [Tryz.f95,hO,Zi,go_sem,seval];exact ⟨.tup [],hO x (m++ [⟨kind,i⟩]) i,Weak.mk (by simp (disch:=omega) only [hO,Zi,go_sem,seval]),rfl,by simp [hO,Zi,Yb]⟩
 | false =>
  simp (disch:=omega) only [Tryz.f95,hO,Zi,go_sem,seval];exact ⟨.tup [],hO x m i,Weak.mk (by simp (disch:=omega) only [hO,Zi,go_sem,seval]),rfl,by rfl⟩
theorem LC (x:Inst) (hl:x.orders.length<=1000):ACalls Tryz.prog 63 [.p (Zv x)] [] fun y H'=> ∃m:List Itm,m=Dx x x.orders.length/\y= .sl 0 0 m.length m.length/\H'= [.elems 2 (m.map Yb)]:=by
 refine ZQ [2] Tryz.func63 rfl ZiX ?_;simp (disch:=omega) only [Tryz.f63,go_sem,seval];refine Zp (Weak.nilC (o:=1) (j:=0) 2 rfl rfl Zb) ?_;refine Zg [] _ _ _ _ ?_;simp (disch:=omega) only [Z1,ZW,ZL,Zz,go_sem,seval];refine Zl [3,8,9] (fun q:Nat×List Itm=> [(10,.p (.int .i64 q.1))]) (fun q=> [Zi x,.cells [.sl 2 0 q.2.length q.2.length],.elems 2 (q.2.map Yb)]) (fun q=>q.1<=x.orders.length/\q.2=Dx x q.1) (fun q=>x.orders.length-q.1) (0,[]) ⟨Zb,by simp [Dx]⟩ (Weak.mk ?_) ?_
 ·simp (disch:=omega) only [Zi,go_sem,seval]
 ·rintro ⟨i,m⟩ ⟨hi,hm⟩;simp only at hi hm
  have hml:m.length<=4*i:=by grind [Cp]
  have hsc:=HF x i;refine Ya ?_;refine cD ?_ ?_<;>intro h<;>simp (disch:=omega) only [Sh.out h,go_sem,seval,↓reduceIte]
  ·have hi2:i<x.orders.length:=Za
   refine ZR ?_ ?_<;>intro h2
   ·exact ⟨(i+1,m),⟨Za,by simp_all [kE]⟩,Za,wk⟩
   ·have c1:=Ew x m i (decide ((nth x.orders i).pick.place≠ -1)) 1 Za
    have ifl: ∀ {c:Prop} [Decidable c] (m:List Itm) (v:Itm),(if decide c=true then m++ [v] else m)=m++(if c then [v] else []):=fun {c} _ m v=>by grind
    have ifn: ∀ {c:Prop} [Decidable c] (v:Itm),(if c then [v] else []).length<=1:=fun {c} _ v=>by grind
    rw [ifl] at c1;refine c1.useP (L:= [_]) (by rfl) ?_ (by rfl) (by rfl);have n1:=ifn (c:=(nth x.orders i).pick.place≠ -1) ⟨1,i⟩;have n2:=ifn (c:=(nth x.orders i).drp.place≠ -1) ⟨2,i⟩;have n3:=ifn (c:=(nth x.orders i).skills≠0) ⟨4,i⟩;have n4:=ifn (c:=(nth x.orders i).penalty= -1) ⟨10,i⟩
    have hit:kE x i=(if (nth x.orders i).pick.place≠ -1 then [⟨1,i⟩] else [])++(if (nth x.orders i).drp.place≠ -1 then [⟨2,i⟩] else [])++(if (nth x.orders i).skills≠0 then [⟨4,i⟩] else [])++(if (nth x.orders i).penalty= -1 then [⟨10,i⟩] else []):=by simp_all [kE]
    generalize hA:(if (nth x.orders i).pick.place≠ -1 then [(⟨1,i⟩:Itm)] else [])=A at hit n1 c1 ⊢;have c2:=Ew x (m++A) i (decide ((nth x.orders i).drp.place≠ -1)) 2 (by simp;omega);rw [ifl] at c2;generalize (if (nth x.orders i).drp.place≠ -1 then [(⟨2,i⟩:Itm)] else [])=B at hit n2 c2;have c3:=Ew x (m++A++B) i (decide ((nth x.orders i).skills≠0)) 4 (by simp;omega);rw [ifl] at c3;generalize (if (nth x.orders i).skills≠0 then [(⟨4,i⟩:Itm)] else [])=C at hit n3 c3;have c4:=Ew x (m++A++B++C) i (decide ((nth x.orders i).penalty= -1)) 10 (by simp;omega)
    rw [ifl] at c4;generalize (if (nth x.orders i).penalty= -1 then [(⟨10,i⟩:Itm)] else [])=D at hit n4 c4;generalize hm1:m++A=m1 at c2 c3 c4 ⊢;generalize hm2:m1++B=m2 at c2 c3 c4 ⊢;generalize hm3:m2++C=m3 at c3 c4 ⊢;generalize hm4:m3++D=m4 at c4;simp (disch:=omega) only [hO,Zi,go_sem,seval];refine c2.useP (L:= [_]) (by rfl) ?_ (by rfl) (by rfl);simp (disch:=omega) only [hO,Zi,go_sem,seval];refine c3.useP (L:= [_]) (by rfl) ?_ (by rfl) (by rfl);simp (disch:=omega) only [hO,Zi,go_sem,seval];refine c4.useP (L:= [_]) (by rfl) ?_ (by rfl) (by rfl);simp (disch:=omega) only [hO,Zi,go_sem,seval];refine ⟨(i+1,m4),⟨Za,?_⟩,Za,wk⟩
    grind
  ·have hin:i=x.orders.length:=Za
   subst hin;exact ⟨m,hm,2,by simp (disch:=omega) only [go_sem,seval]⟩
def kF (k:Nat):List Itm:=(List.range k).flatMap fun (i:Nat)=> [⟨3,i⟩,⟨7,i⟩,⟨8,i⟩,⟨9,i⟩]
def G8 (x:Inst) (i:Nat):List Itm:=if (!LF x (nth x.apart i).1&& !LF x (nth x.apart i).2)=true then [⟨5,i⟩] else []
def kC (x:Inst) (k:Nat):List Itm:=(List.range k).flatMap (G8 x)
def Lm (x:Inst) (i:Nat):List Itm:=if (!LF x (nth x.before i).2)=true then [⟨6,i⟩] else []
def kD (x:Inst) (k:Nat):List Itm:=(List.range k).flatMap (Lm x)
def LI (x:Inst):List Itm:=Dx x x.orders.length++kF x.types.length++kC x x.apart.length++kD x x.before.length
theorem Nm (k):kF (k+1)=kF k++ [⟨3,k⟩,⟨7,k⟩,⟨8,k⟩,⟨9,k⟩]:=by simp [kF,Ye]
theorem Co (x k):kC x (k+1)=kC x k++G8 x k:=by simp [kC,Ye]
theorem FP (x k):kD x (k+1)=kD x k++Lm x k:=by simp [kD,Ye]
theorem Lo : ∀k,(kF k).length=4*k
 | 0=>by simp [kF]
 | k+1=>by rw [Nm,ZG,Lo k];simp;omega
theorem Ll (x): ∀k,(kC x k).length<=k
 | 0=>by simp [kC]
 | k+1=>by
  have h1:=Ll x k
  have h2:(G8 x k).length<=1:=by unfold G8;split<;>simp
  rw [Co,ZG];omega
theorem Ln (x): ∀k,(kD x k).length<=k
 | 0=>by simp [kD]
 | k+1=>by
  have h1:=Ln x k
  have h2:(Lm x k).length<=1:=by unfold Lm;split<;>simp
  rw [FP,ZG];omega
theorem YJ {a b:Itm} :Qf a b<0↔a.kind<b.kind\/(a.kind=b.kind/\a.a<b.a):=by
 grind [Qf,Ah,RR]
theorem gW : Go.Sort.SWO (ltOf Qf) where
 irrefl x:=by grind [ltOf,YJ]
 trans x y z h1 h2:=by simp only [ltOf,Zs,YJ] at *;omega
 ntrans x y z h1 h2:=by grind [ltOf,YJ]
theorem Ol (xs:List Itm) (hne:xs≠ []) (hl:xs.length<=1048576) {H:List AM.Obj} {o:Nat} (hH:H[o]? =some (.elems 2 (xs.map Yb))) :
  ACalls Tryz.prog 65 [.sl o 0 xs.length xs.length,.fn (.func 66) [] []] H fun y H'=>y= .tup []/\ ∃ys:List Itm,ys.Perm xs/\ys.Pairwise (fun a b=> ¬Qf b a<0)/\H'=H.set o (.elems 2 (ys.map Yb)) :=
 ACalls.sortFunc cX ZiZ 2 Tryz.isAgg32 Tryz.sizeOf32 Yb (fun x=>⟨_,rfl,rfl,rfl⟩) Qf gW 66 D7 xs Za hH
theorem K3 {P Q:Prop} (h:Q) (e:Q->P:=by intro h;simp (disch:=omega) only [Z1,ZW,go_sem,seval];exact h):P:=e h
theorem aL (x:Inst) (ho:x.orders.length<=1000) (ht:0<x.types.length/\x.types.length<=1000) (ha:x.apart.length<=1000) (hb:x.before.length<=1000):ACalls Tryz.prog 35 [.p (Zv x)] [] fun y H'=> ∃m:List Itm,(m.Perm (LI x)/\m.Pairwise (fun a b=> ¬Qf b a<0))/\y= .sl 0 0 m.length m.length/\H'= [.elems 2 (m.map Yb)]:=by
 refine ZQ [] Tryz.func35 rfl Ziy ?_;simp (disch:=omega) only [Tryz.f35,go_sem,seval];obtain ⟨os,hos⟩: ∃os,os=Dx x x.orders.length:=⟨_,rfl⟩;have hosl:=Cp x x.orders.length;rw [<- hos] at hosl;refine ACalls.useF (S:=2) (n:=os.length) (xs:=os.map Yb) ((LC x ho).mono fun y H' ⟨m,hm,h1,h2⟩=>by grind) (Zc ?_);obtain ⟨ks,hks⟩: ∃ks:List Int,ks= [3,7,8,9]:=⟨_,rfl⟩
 have hkl:ks.length=4:=by rw [hks];rfl
 have hke:(ks.map eI).length=ks.length:=Zb
 refine Zl [1,15] (fun q:Nat×List Itm=> [(3,.sl 1 0 q.2.length q.2.length),(16,.p (.int .i64 q.1))]) (fun q=> [Zi x,.elems 2 (q.2.map Yb)]) (fun q=>q.1<=x.types.length/\q.2=os++kF q.1) (fun q=>x.types.length-q.1) (0,os) ⟨Zb,by simp [kF]⟩ (Weak.mk ?_) ?_
 ·simp (disch:=omega) only [Zi,go_sem,seval]
 ·rintro ⟨i,m⟩ ⟨hi,hm⟩;simp only at hi hm
  have hml:m.length=os.length+4*i:=by grind [Lo]
  refine Ya ?_;refine cD ?_ ?_<;>intro h<;>simp (disch:=omega) only [Sh.out h,go_sem,seval,↓reduceIte]
  ·have hi2:i<x.types.length:=Za
   refine Zl [1,4,15,16,20] (fun q:Nat×List Itm=> [(3,.sl 1 0 q.2.length q.2.length),(19,.sl 2 0 ks.length ks.length),(21,.p (.int .i64 q.1))]) (fun q=> [Zi x,.elems 2 (q.2.map Yb),.elems 1 (ks.map eI)]) (fun q=>q.1<=4/\q.2=m++(ks.take q.1).map fun c=>(⟨c,i⟩:Itm)) (fun q=>4-q.1) (0,m) ⟨Zb,Zb⟩ (Weak.mk ?_) ?_
   ·rw [hks];simp (disch:=omega) only [Zi,Zq,Zn,ZD,ZF,go_sem,seval]
   ·rintro ⟨k,m2⟩ ⟨hk,hm2⟩;simp only at hk hm2
    have hm2l:m2.length=m.length+k:=by grind
    refine Ya ?_;refine cD ?_ ?_<;>intro h2<;>simp (disch:=omega) only [Sh.out h2,Vz,go_sem,seval]
    ·have hk2:k<ks.length:=Za
     have htk:ks.take (k+1)=ks.take k++ [nth ks k]:=by rw [X0 hk2,Zh hk2]
     simp (disch:=omega) only [hk2,go_sem,seval];exact ⟨(k+1,m2++ [⟨nth ks k,i⟩]),⟨Za,by grind⟩,Za,wk⟩
    ·have hk4:k=4:=Za
     subst hk4;refine ⟨(i+1,m2),⟨Za,?_⟩,Za,wk⟩
     simp_all [Nm]
  ·have hin:i=x.types.length:=Za
   subst hin;clear hi h;refine Zl [1,34,35] (fun q:Nat×List Itm=> [(3,.sl 1 0 q.2.length q.2.length),(36,.p (.int .i64 q.1))]) (fun q=> [Zi x,.elems 2 (q.2.map Yb)]) (fun q=>q.1<=x.apart.length/\q.2=m++kC x q.1) (fun q=>x.apart.length-q.1) (0,m) ⟨Zb,by simp [kC]⟩ (Weak.mk ?_) ?_
   ·simp (disch:=omega) only [Zi,go_sem,seval]
   ·rintro ⟨i,m2⟩ ⟨hi,hm2⟩;simp only at hi hm2
    have hm2l:m2.length<=m.length+i:=by grind [Ll]
    refine Ya ?_;refine cD ?_ ?_<;>intro h<;>simp (disch:=omega) only [Sh.out h,go_sem,seval,↓reduceIte]
    ·have hi2:i<x.apart.length:=Za
     refine (LD x (nth x.apart i).1 Za).use (Zc ?_);refine Q1 ?_ ?_<;>intro h2
     ·refine (LD x (nth x.apart i).2 Za).use (Zc ?_);refine ZR ?_ ?_<;>intro h3
      ·exact ⟨(i+1,m2++ [⟨5,i⟩]),⟨Za,by simp_all [Co,G8]⟩,Za,wk⟩
      ·exact ⟨(i+1,m2),⟨Za,by grind [Co,G8]⟩,Za,wk⟩
     ·exact ⟨(i+1,m2),⟨Za,by grind [Co,G8]⟩,Za,wk⟩
    ·have hin:i=x.apart.length:=Za
     subst hin;clear hi h;refine Zl [1,60,61] (fun q:Nat×List Itm=> [(3,.sl 1 0 q.2.length q.2.length),(62,.p (.int .i64 q.1))]) (fun q=> [Zi x,.elems 2 (q.2.map Yb)]) (fun q=>q.1<=x.before.length/\q.2=m2++kD x q.1) (fun q=>x.before.length-q.1) (0,m2) ⟨Zb,by simp [kD]⟩ (Weak.mk ?_) ?_
     ·simp (disch:=omega) only [Zi,go_sem,seval]
     ·rintro ⟨i,m3⟩ ⟨hi,hm3⟩;simp only at hi hm3
      have hm3l:m3.length<=m2.length+i:=by grind [Ln]
      refine Ya ?_;refine cD ?_ ?_<;>intro h<;>simp (disch:=omega) only [Sh.out h,go_sem,seval,↓reduceIte]
      ·have hi2:i<x.before.length:=Za
       refine (LD x (nth x.before i).2 Za).use (Zc ?_);refine ZR ?_ ?_<;>intro h2
       ·exact ⟨(i+1,m3++ [⟨6,i⟩]),⟨Za,by simp_all [FP,Lm]⟩,Za,wk⟩
       ·exact ⟨(i+1,m3),⟨Za,by grind [FP,Lm]⟩,Za,wk⟩
      ·have hin:i=x.before.length:=Za
       subst hin
       have hpre:m3=LI x:=by rw [hm3,hm2,hm,hos];rfl
       have hne:m3≠ []:=fun e=>by grind
       refine (Ol m3 hne Za (H:=_) (o:=1) rfl).mono ?_;rintro y H' ⟨rfl,ys,h1,h2,rfl⟩;have hyl:ys.length=m3.length:=h1.length_eq;refine K3 ?_;rw [<- hyl];exact ⟨ys,⟨by grind,h2⟩,1,by simp (disch:=omega) only [go_sem,seval]⟩
def UW (x:Inst) (i:Int):Bool:=decide (0<=i)&&decide (i<(x.orders.length:Int))&& !(nth x.orders i.toNat).off
theorem NH {x o} :LF x o= !UW x o:=by
 grind [LF,UW]
def CP (o:Ord) (kind:Int):Bool:=if kind=1 then decide (0<=o.pick.place) else if kind=2 then decide (0<=o.drp.place) else if kind=4 then decide (o.skills≠0) else decide (o.penalty= -1)
def XN (x:Inst) (v:Itm):Bool :=
 if v.kind=1\/v.kind=2\/v.kind=4\/v.kind=10 then UW x v.a&&CP (nth x.orders v.a.toNat) v.kind
 else if v.kind=3\/v.kind=7\/v.kind=8\/v.kind=9 then decide (0<=v.a)&&decide (v.a<(x.types.length:Int))
 else if v.kind=5 then decide (0<=v.a)&&decide (v.a<(x.apart.length:Int))&&UW x (nth x.apart v.a.toNat).1&&UW x (nth x.apart v.a.toNat).2
 else if v.kind=6 then decide (0<=v.a)&&decide (v.a<(x.before.length:Int))&&UW x (nth x.before v.a.toNat).2
 else false
theorem Sx {x i} {v:Itm} :v∈kE x i↔(nth x.orders i).off=false/\v.a=(i:Int)/\((v.kind=1/\(nth x.orders i).pick.place≠ -1)\/(v.kind=2/\(nth x.orders i).drp.place≠ -1)\/(v.kind=4/\(nth x.orders i).skills≠0)\/(v.kind=10/\(nth x.orders i).penalty= -1)):=by
 have one: ∀(c:Prop) [Decidable c] (w:Itm),v∈(if c then [w] else [])↔c/\v.kind=w.kind/\v.a=w.a:=fun c _ w=>by
  grind [JU]
 unfold kE
 split
 ·grind
 ·rename_i h;simp only [Xi,one]
  grind
theorem Sy {n} {v:Itm} :v∈kF n↔(v.kind=3\/v.kind=7\/v.kind=8\/v.kind=9)/\0<=v.a/\v.a<(n:Int):=by
 simp only [kF,XU,ZM,Z3,Y7,Wq,JU]
 constructor
 ·omega
 ·rintro ⟨h,h1,h2⟩;refine ⟨v.a.toNat,Za,?_⟩;omega
theorem Sv {x n} {v:Itm} :v∈kC x n↔v.kind=5/\0<=v.a/\v.a<(n:Int)/\UW x (nth x.apart v.a.toNat).1=true/\UW x (nth x.apart v.a.toNat).2=true:=by
 simp only [kC,XU,ZM,G8,NH,Bool.not_not,ZH]
 constructor
 ·grind
 ·rintro ⟨h,h1,h2,h3⟩;refine ⟨v.a.toNat,Za,?_⟩;rw [if_pos h3];simp only [Z3,Y7,Wq,JU];omega
theorem Sw {x n} {v:Itm} :v∈kD x n↔v.kind=6/\0<=v.a/\v.a<(n:Int)/\UW x (nth x.before v.a.toNat).2=true:=by
 simp only [kD,XU,ZM,Lm,NH,Bool.not_not]
 constructor
 ·grind
 ·rintro ⟨h,h1,h2,h3⟩;refine ⟨v.a.toNat,Za,?_⟩;rw [if_pos h3];simp only [Z3,Y7,Wq,JU];omega
theorem Nz {x:Inst} (hp:Plc x) {v:Itm} :v∈Dx x x.orders.length↔(v.kind=1\/v.kind=2\/v.kind=4\/v.kind=10)/\UW x v.a=true/\CP (nth x.orders v.a.toNat) v.kind=true:=by
 simp only [Dx,XU,ZM,Sx]
 constructor
 ·rintro ⟨i,hi,h0,ha,h⟩
  have e:v.a.toNat=i:=Za
  have hpl:=hp _ (Zt hi);rw [e];refine ⟨?_,by simp_all [UW],?_⟩
  ·omega
  grind [CP]
 ·rintro ⟨hk,ha,ho⟩;simp only [UW,ZH,Zs,XQ] at ha
  grind [CP]
theorem NA {x:Inst} (hp:Plc x) {v:Itm} :v∈LI x↔XN x v=true:=by
 simp only [LI,Xi,Nz hp,Sy,Sv,Sw,XN]
 grind
theorem aK (x i):(kE x i).Nodup:=by
 unfold kE
 split
 ·simp
 ·split<;>split<;>split<;>split<;>simp
theorem JP {f:Nat->List Itm} {n:Nat} (h: ∀i,(f i).Nodup) (ha: ∀i,∀v∈f i,v.a=(i:Int)):((List.range n).flatMap f).Nodup:=by
 grind [List.nodup_range]
theorem F8 {x:Inst} (hp:Plc x):(LI x).Nodup:=by
 have n1:(Dx x x.orders.length).Nodup:=JP (aK x) fun i v hv=>(Sx.1 hv).2.1
 have n2:(kF x.types.length).Nodup:=JP (fun i=>Zb) fun i v hv=>by
  grind
 have n3:(kC x x.apart.length).Nodup:=JP (fun i=>by grind [G8]) fun i v hv=>by
  grind [G8]
 have n4:(kD x x.before.length).Nodup:=JP (fun i=>by grind [Lm]) fun i v hv=>by
  grind [Lm]
 rw [LI,CG,CG,CG]
 grind [Nz,Sy,Sv,Sw]
def LM (x:Inst) (k:Nat) (a:Nat):List Itm:=if XN x ⟨k+1,a⟩=true then [⟨k+1,a⟩] else []
def Eu (x:Inst) (k n:Nat):List Itm:=(List.range n).flatMap (LM x k)
def KO (x:Inst):Nat:=max (max (max x.orders.length x.types.length) x.apart.length) x.before.length
def YM (x:Inst) (n:Nat):List Itm:=(List.range n).flatMap fun k=>Eu x k (KO x)
theorem H8 (x k n):Eu x k (n+1)=Eu x k n++LM x k n:=by simp [Eu,Ye]
theorem H7 (x n):YM x (n+1)=YM x n++Eu x n (KO x):=by simp [YM,Ye]
theorem NB {x k a} {v:Itm} :v∈LM x k a↔XN x v=true/\v.kind=(k:Int)+1/\v.a=(a:Int):=by
 unfold LM
 constructor
 ·grind
 ·rintro ⟨h1,h2,h3⟩;have:v=⟨(k:Int)+1,a⟩:=JU.2 ⟨h2,h3⟩
  grind
theorem W8 {x:Inst} {v:Itm} :v∈YM x 10↔XN x v=true:=by
 simp only [YM,Eu,XU,ZM,NB]
 constructor
 ·grind
 ·intro h
  have hk:1<=v.kind/\v.kind<=10/\0<=v.a/\v.a<(KO x:Int):=by
   unfold XN at h;unfold KO
   split at h
   ·simp only [UW,ZH,Zs] at h;omega
   grind
  exact ⟨(v.kind-1).toNat,Za,v.a.toNat,Za,h,Za,Za⟩
theorem KX (x:Inst) (n:Nat):(YM x n).Pairwise fun a b=>Qf a b<0:=by
 rw [YM,List.pairwise_flatMap]
 grind [List.Pairwise.imp,List.pairwise_lt_range,Eu,LM,NB,YJ]
theorem K2 {α:Type} {R:α->α->Prop} (asym: ∀a b,R a b-> ¬R b a): ∀ {l m:List α},l.Pairwise R->m.Pairwise R->(∀v,v∈l↔v∈m)->l=m
 | [],[],_,_,_=>rfl
 | [],b::m,_,_,h=>absurd ((h b).2 Zb) Zb
 | a::l,[],_,_,h=>absurd ((h a).1 Zb) Zb
 | a::l,b::m,hl,hm,h=>by
  rw [List.pairwise_cons] at hl hm
  have e:a=b:=by
   rcases Z3.1 ((h a).1 Zb) with e | e
   ·exact e
   ·rcases Z3.1 ((h b).2 Zb) with e2 | e2
    ·exact e2.symm
    ·exact absurd (hl.1 b e2) (asym _ _ (hm.1 a e))
  subst e;have irr: ¬R a a:=fun h=>asym a a h h;rw [K2 asym hl.2 hm.2 fun v=>⟨fun hv=> ?_,fun hv=> ?_⟩]
  ·rcases Z3.1 ((h v).1 (by simp [hv])) with e | e
   ·subst e;exact absurd (hl.1 _ hv) irr
   ·exact e
  ·rcases Z3.1 ((h v).2 (by simp [hv])) with e | e
   ·subst e;exact absurd (hm.1 _ hv) irr
   ·exact e
theorem kG {x:Inst} (hp:Plc x) {m:List Itm} (h1:m.Perm (LI x)) (h2:m.Pairwise fun a b=> ¬Qf b a<0):m=YM x 10:=by
 refine K2 (R:=fun a b=>Qf a b<0) (fun a b h k=> ?_) ?_ (KX x 10) fun v=> ?_
 ·grind [YJ]
 ·have h3:m.Nodup:=h1.nodup_iff.2 (F8 hp);have h4:=List.Pairwise.and h2 h3;refine h4.imp ?_;rintro a b ⟨h5,h6⟩;rw [YJ] at h5 ⊢
  grind [JU]
 grind [NA,W8]
theorem sE (x:Inst) (hp:Plc x) (ho:x.orders.length<=1000) (ht:0<x.types.length/\x.types.length<=1000) (ha:x.apart.length<=1000) (hb:x.before.length<=1000):PC 35 [.p (Zv x)] (.list false ((YM x 10).map Yb)):=by
 refine ACalls.frozen (S:=2) (n:=(YM x 10).length) Zb ?_;refine (aL x ho ht ha hb).mono ?_
 grind [kG]
def L6 (l:List Itm) (v:Itm):Int:=match l.findIdx? (fun w=>decide (v=w)) with | some i=>(i:Int) | none=> -1
theorem Rk {l:List Itm} {v:Itm} {k:Nat} (hk:k<l.length) (h:v=nth l k) (hno: ∀j,j<k-> ¬v=nth l j):L6 l v=(k:Int):=by
 have:l.findIdx? (fun w=>decide (v=w))=some k:=by
  grind [UE,Zh]
 simp [L6,this]
theorem nS {l:List Itm} {v:Itm} (hno: ∀j,j<l.length-> ¬v=nth l j):L6 l v= -1:=by
 have:l.findIdx? (fun w=>decide (v=w))=none:=by
  rw [List.findIdx?_eq_none_iff];intro x hx;obtain ⟨j,hj,rfl⟩:=ZN.1 hx
  grind [Zh]
 simp [L6,this]
theorem Ud {l:List Itm} {v:Itm} :0<=L6 l v↔v∈l:=by
 grind [L6]
theorem aH (l:List Itm) (c:Bool) (v:Itm) (hl:l.length<=1048576):PC 79 [.p (.list c (l.map Yb)),.p (Yb v)] (.int .i64 (L6 l v)):=by
 refine Zd Tryz.func79 rfl Zjb ?_;simp (disch:=omega) only [Tryz.f79,go_sem,seval];refine Zl [0,3,7] (fun k:Nat=> [(8,.p (.int .i64 k))]) (fun _=> [.cells [.p (.int .i64 v.kind),.p (.int .i64 v.a)]]) (fun k=>k<=l.length/\ ∀j,j<k-> ¬v=nth l j) (fun k=>l.length-k) 0 Zb (Weak.mk ?_) ?_
 ·simp (disch:=omega) only [go_sem,seval,↓reduceIte]
 ·rintro k ⟨hk,hno⟩;refine Zc ?_;refine cD ?_ ?_<;>intro h<;>simp (disch:=omega) only [Sh.out h,go_sem,seval,↓reduceIte]
  ·have hk2:k<l.length:=Za
   refine Xe (Zc ?_);refine cD ?_ ?_<;>intro h2<;>simp (disch:=omega) only [Sh.out h2,go_sem,seval,↓reduceIte]
   ·grind [JU,Rk]
   ·have: ¬v=nth l k:=by grind
    exact ⟨k+1,⟨Za,Zr.2 ⟨hno,this⟩⟩,Za,wk⟩
  grind [nS]
theorem UY (l:List Itm) (c:Bool) (v:Itm) (hl:l.length<=1048576):PC 46 [.p (.list c (l.map Yb)),.p (Yb v)] (.bool (decide (v∈l))):=by
 refine Zd Tryz.func46 rfl ZiJ ?_;simp (disch:=omega) only [Tryz.f46,go_sem,seval];refine (aH l c v hl).use (Zc ?_);simp only [Ud]
theorem G0 (l:List Typ) (c:Bool) (hl:l.length<=1048576):ACalls Tryz.prog 58 [.p (.list c (l.map X4))] [] fun y H'=>y= .sl 0 0 l.length l.length/\H'= [.elems 14 (l.map X4)]:=by
 refine Zf [1] Tryz.func58 rfl ZiT ?_;simp (disch:=omega) only [Tryz.f58,go_sem,seval];refine YI (Fj (e:=71) (cl:=c) (xs:=l.map X4) Tryz.underlying26 (by rfl) Zb fun b hb=> ?_);refine Zg [] _ _ _ _ (Zc ?_);refine cD ?_ ?_<;>intro h<;>simp (disch:=omega) only [Sh.out h,go_sem,seval]
 ·have:l= []:=by simp_all
  subst this;exact ⟨_,_,Weak.nil 0 14 rfl Zb,rfl,rfl⟩
 ·refine Zg [] _ _ _ _ (Zc ?_);exact we
theorem GZ (l:List Ord) (c:Bool) (hl:l.length<=1048576):ACalls Tryz.prog 59 [.p (.list c (l.map Yj))] [] fun y H'=>y= .sl 0 0 l.length l.length/\H'= [.elems 16 (l.map Yj)]:=by
 refine Zf [1] Tryz.func59 rfl ZiU ?_;simp (disch:=omega) only [Tryz.f59,go_sem,seval];refine YI (Fj (e:=75) (cl:=c) (xs:=l.map Yj) Tryz.underlying27 (by rfl) Zb fun b hb=> ?_);refine Zg [] _ _ _ _ (Zc ?_);refine cD ?_ ?_<;>intro h<;>simp (disch:=omega) only [Sh.out h,go_sem,seval]
 ·have:l= []:=by simp_all
  subst this;exact ⟨_,_,Weak.nil 0 16 rfl Zb,rfl,rfl⟩
 ·refine Zg [] _ _ _ _ (Zc ?_);exact we
def Y4 (l:List (Int×Int)) (w:List Itm) (kind:Int) (k:Nat):List (Int×Int):=(List.range k).flatMap fun (i:Nat)=>if (⟨kind,i⟩:Itm)∈w then [] else [nth l i]
theorem JV (l w kind k):Y4 l w kind (k+1)=Y4 l w kind k++if (⟨kind,k⟩:Itm)∈w then [] else [nth l k]:=by simp [Y4,Ye]
theorem Dy (l w kind): ∀k,(Y4 l w kind k).length<=k
 | 0=>by simp [Y4]
 | k+1=>by
  have:=Dy l w kind k;rw [JV,ZG]
  split<;>simp<;>omega
theorem HW (l:List (Int×Int)) (w:List Itm) (kind:Int) (c d:Bool) (hl:l.length<=1048576) (hw:w.length<=1048576):PC 62 [.p (.list c (l.map eP)),.p (.list d (w.map Yb)),.p (.int .i64 kind)] (.list false ((Y4 l w kind l.length).map eP)):=by
 refine ACalls.frozen (S:=2) (n:=(Y4 l w kind l.length).length) Zb ?_
 suffices hh:ACalls Tryz.prog 62 [.p (.list c (l.map eP)),.p (.list d (w.map Yb)),.p (.int .i64 kind)] [] fun y H'=> ∃m:List (Int×Int),m=Y4 l w kind l.length/\y= .sl 0 0 m.length m.length/\H'= [.elems 2 (m.map eP)] by
  grind
 refine ZQ [2] Tryz.func62 rfl ZiW ?_;simp (disch:=omega) only [Tryz.f62,go_sem,seval];refine Zp (Weak.ofNil 7 2 (by simp (disch:=omega) only [go_sem,seval]) Zb (Weak.refl _ _ _)) ?_;refine Zg [] _ _ _ _ (Zc ?_);refine Zl [1,2,10,11] (fun q:Nat×List (Int×Int)=> [(7,.sl 0 0 q.2.length q.2.length),(12,.p (.int .i64 q.1))]) (fun q=> [.elems 2 (q.2.map eP)]) (fun q=>q.1<=l.length/\q.2=Y4 l w kind q.1) (fun q=>l.length-q.1) (0,[]) ⟨Zb,by simp [Y4]⟩ (Weak.mk ?_) ?_
 ·simp (disch:=omega) only [go_sem,seval]
 ·rintro ⟨k,m⟩ ⟨hk,hm⟩;simp only at hk hm;have hml:=Dy l w kind k;rw [<- hm] at hml;have hs:=JV l w kind k;refine Zc ?_;refine cD ?_ ?_<;>intro h<;>simp (disch:=omega) only [Sh.out h,go_sem,seval,↓reduceIte]
  ·have hk2:k<l.length:=Za
   refine (UY w d ⟨kind,k⟩ hw).use (Zc ?_);refine ZR ?_ ?_<;>intro h2
   ·have h3: ¬(⟨kind,k⟩:Itm)∈w:=Za
    exact ⟨(k+1,m++ [nth l k]),⟨Za,by grind⟩,Za,wk⟩
   ·have h3:(⟨kind,k⟩:Itm)∈w:=by grind
    exact ⟨(k+1,m),⟨Za,by grind⟩,Za,wk⟩
  ·have hkl:k=l.length:=Za
   subst hkl;exact ⟨m,hm,0,by simp (disch:=omega) only [go_sem,seval]⟩
def G9 (o:Ord) (kind:Int):Ord :=
 if kind=1 then { o with pick:= { o.pick with cls:=4096 } }
 else if kind=2 then { o with drp:= { o.drp with cls:=4096 } }
 else if kind=4 then { o with skills:=0 }
 else if kind=10 then { o with penalty:=0 }
 else o
theorem AW {α β:Type} {f:α->β} {l:List α} {i:Nat} {a:α} :(l.map f).set i (f a)=(l.set i a).map f:=Zb
theorem sX (os:List Ord) (i:Nat) (hi:i<os.length):ACalls Tryz.prog 93 [.ep 0 i 2 os.length] [.elems 16 (os.map Yj)] fun y H'=>y= .tup []/\H'= [.elems 16 ((os.set i (G9 (nth os i) 1)).map Yj)]:=by
 refine Zf [] Tryz.func93 rfl wS ?_;simp (disch:=omega) only [Tryz.f93,go_sem,seval];exact ⟨_,_,Weak.refl _ _ _,rfl,by rw [<- AW];rfl⟩
theorem sW (os:List Ord) (i:Nat) (hi:i<os.length):ACalls Tryz.prog 93 [.ep 0 i 6 os.length] [.elems 16 (os.map Yj)] fun y H'=>y= .tup []/\H'= [.elems 16 ((os.set i (G9 (nth os i) 2)).map Yj)]:=by
 refine Zf [] Tryz.func93 rfl wS ?_;simp (disch:=omega) only [Tryz.f93,go_sem,seval];exact ⟨_,_,Weak.refl _ _ _,rfl,by rw [<- AW];rfl⟩
theorem kZ {α:Type} [Inhabited α] {l:List α} {i:Nat} (h:i<l.length):l.set i (nth l i)=l:=by
 grind [Zh,List.set_getElem_self]
theorem AR (os:List Ord) (i:Nat) (k:Int) (hi:i<os.length):ACalls Tryz.prog 60 [.ep 0 i 0 os.length,.p (.int .i64 k)] [.elems 16 (os.map Yj)] fun y H'=>y= .tup []/\H'= [.elems 16 ((os.set i (G9 (nth os i) k)).map Yj)]:=by
 refine Zf [] Tryz.func60 rfl ZiV ?_;simp (disch:=omega) only [Tryz.f60,go_sem,seval];refine cD ?_ ?_<;>intro h1<;>simp (disch:=omega) only [Sh.out h1,go_sem,seval,↓reduceIte]
 ·subst h1;refine (sX os i hi).useH (Zc ?_);exact ⟨_,_,Weak.refl _ _ _,rfl,rfl⟩
 ·refine cD ?_ ?_<;>intro h2<;>simp (disch:=omega) only [Sh.out h2,go_sem,seval,↓reduceIte]
  ·subst h2;refine (sW os i hi).useH (Zc ?_);exact ⟨_,_,Weak.refl _ _ _,rfl,rfl⟩
  ·refine cD ?_ ?_<;>intro h3<;>simp (disch:=omega) only [Sh.out h3,go_sem,seval,↓reduceIte]
   ·subst h3;exact ⟨_,_,Weak.refl _ _ _,rfl,by rw [<- AW];rfl⟩
   ·refine cD ?_ ?_<;>intro h4<;>simp (disch:=omega) only [Sh.out h4,go_sem,seval,↓reduceIte]
    ·subst h4;exact ⟨_,_,Weak.refl _ _ _,rfl,by rw [<- AW];rfl⟩
    ·have:G9 (nth os i) k=nth os i:=by simp_all [G9]
     rw [this,kZ hi];exact ⟨_,_,Weak.refl _ _ _,rfl,rfl⟩
theorem Ik {α:Type} {cs:List α} {j:Nat} {v:α} (h:j<cs.length):List.take 1 (List.drop j (cs.set j v))= [v]:=by
 grind [VF]
theorem nT {α:Type} {cs:List α} {j:Nat} {v:α} (h:cs[j]? =some v):List.take 1 (List.drop j cs)= [v]:=by
 grind [VF]
theorem L5 {α:Type} : ∀ {cs:List α} {j:Nat},Jj cs j []=cs
 | [],_=>rfl
 | _::_,0=>rfl
 | _::_,_+1=>by simp [Jj,L5]
theorem EZ {α:Type} : ∀ {cs:List α} {j:Nat} {v:α},Jj cs j [v]=cs.set j v
 | [],_,_=>rfl
 | x::l,0,v=>by simp [Jj,L5]
 | x::l,j+1,v=>by simp [Jj,EZ (cs:=l)]
theorem E3 {H:List AM.Obj} {n:Nat} {x x':V} (hx:D1 H n x x'): ∀ {cs:List V} {j:Nat},(∀v∈cs,refB n v=true)->ON H n (cs.set j x) (cs.set j x')
 | [],_,_=>by simp [ON]
 | y::l,0,h=>⟨hx,GN l fun j c hc=>h c (Yq _ (XB hc))⟩
 | y::l,j+1,h=>⟨.inr (.inl ⟨rfl,h y Zb⟩),E3 hx fun v hv=>h v (Yq _ hv)⟩
theorem dI (cs:List V) (b:Nat) (l:List Int) (c:Bool) (hb:b+14<=cs.length) (hp: ∀n,∀v∈cs,refB n v=true) (h4:cs[b+4]? =some (.p (.list c (l.map eI)))) (hl:l.length<=1048576):ACalls Tryz.prog 61 [.ptr 0 b,.p (.int .i64 3)] [.cells cs] fun y H'=>y= .tup []/\H'= [.cells (cs.set (b+4) (.p (.list false ((List.replicate l.length (1000:Int)).map eI))))]:=by
 refine Zf [] Tryz.func61 rfl wO ?_;have h5:=nT h4
 have h6:b+4+1<=cs.length:=Za
 simp (disch:=omega) only [Tryz.f61,h5,h6,go_sem,seval];refine ACalls.useF (S:=1) (n:=l.length) (xs:=l.map eI) (GY l c hl) ?_;simp (disch:=omega) only [h6,EZ,Ik,U0,go_sem,seval];refine Zl [0,20] (fun q:Nat×List Int=> [(21,.p (.int .i64 q.1))]) (fun q=> [.cells (cs.set (b+4) (.sl 1 0 l.length l.length)),.elems 1 (q.2.map eI)]) (fun q=>q.1<=l.length/\q.2=List.replicate q.1 (1000:Int)++l.drop q.1) (fun q=>l.length-q.1) (0,l) Zb (Weak.mk ?_) ?_
 ·refine Zc ?_;exact E3 (by simp (disch:=omega) only [go_sem,seval]) (hp 2)
 ·rintro ⟨k,m⟩ ⟨hk,hm⟩;simp only at hk hm
  have hml:m.length=l.length:=by grind
  rw [<- hml] at hk ⊢
  have hme:(m.map eI).length=m.length:=Zb
  refine Zc ?_;refine cD ?_ ?_<;>intro h<;>simp (disch:=omega) only [Sh.out h,go_sem,seval,↓reduceIte]
  ·have hk2:k<m.length:=Za
   simp (disch:=omega) only [h6,EZ,Ik,U0,go_sem,seval];refine ⟨(k+1,m.set k 1000),⟨Za,?_⟩,Za,Weak.mk ?_⟩
   ·rw [hm]
    have hkl:k<l.length:=Za
    simp only;rw [Aq _ _ Zb,VF hkl,EK,J6];simp only [CB,AI,ZW,ZL,Zz]
   ·simp (disch:=omega) only [kO,ZW,List.headD_cons,go_sem,seval];refine ⟨E3 ?_ (hp 2),?_⟩
    ·simp (disch:=omega) only [go_sem,seval]
    grind [AW,eI]
  ·have hkl:k=m.length:=Za
   subst hkl
   have hm2:m=List.replicate m.length (1000:Int):=by grind
   rw [<- hm2];refine ⟨_,_,?_,rfl,rfl⟩;refine Weak.mk (Zc ?_);refine E3 ?_ (hp 1);simp (disch:=omega) only [go_sem,seval]
theorem GJ (cs:List V) (b:Nat) (k:Int) (j:Nat) (v:Int) (hk:(k=7/\j=8/\v=4096)\/(k=8/\j=9/\v=4096)\/(k=9/\j=1/\v=10)) (hb:b+14<=cs.length) (hp: ∀n,∀v∈cs,refB n v=true):ACalls Tryz.prog 61 [.ptr 0 b,.p (.int .i64 k)] [.cells cs] fun y H'=>y= .tup []/\H'= [.cells (cs.set (b+j) (.p (.int .i64 v)))]:=by
 refine Zf [] Tryz.func61 rfl wO ?_
 have h6:b+j+1<=cs.length:=Za
 rcases hk with ⟨rfl,rfl,rfl⟩ | ⟨rfl,rfl,rfl⟩ | ⟨rfl,rfl,rfl⟩ <;>
 ·simp (disch:=omega) only [Tryz.f61,h6,EZ,go_sem,seval,↓reduceIte];exact ⟨_,_,Weak.refl _ _ _,rfl,rfl⟩
def Mb (t:Typ) (kind:Int):Typ :=
 if kind=3 then { t with cap_c:=false,cap:=List.replicate t.cap.length 1000 }
 else if kind=7 then { t with cls:=4096 }
 else if kind=8 then { t with drive:=4096 }
 else if kind=9 then { t with count:=10 }
 else t
theorem Hz {S:Nat} {x' v:PV} {j:Nat} : ∀ {xs:List PV} {i:Nat} (h:i<xs.length),(∀x∈xs,x.cells.length=S)->j<S->x'.cells=(xs[i]).cells.set j v->VW (xs.set i x')=(VW xs).set (i*S+j) v
 | [],_,h,_,_,_=>absurd h Zb
 | x::xs,0,_,hS,hj,he=>by
  simp_all [VW]
 | x::xs,i+1,h,hS,hj,he=>by
  have hx:=hS x Zb;have:=Hz (xs:=xs) (i:=i) (by simpa using h) (fun y hy=>hS y (by simp [hy])) hj (by simpa using he)
  simp only [VW,Z1,Qj] at *
  rw [this,Aq _ _ (by rw [hx,XJ];omega),hx]
  congr 2
  rw [XJ];omega
theorem QU (ts:List Typ) (i:Nat) (k:Int) (hk:k=3\/k=7\/k=8\/k=9) (hi:i<ts.length) (hc:(nth ts i).cap.length<=1048576) {H:List AM.Obj} {o:Nat} (hH:H[o]? =some (.elems 14 (ts.map X4))):ACalls Tryz.prog 61 [.ep o i 0 ts.length,.p (.int .i64 k)] H fun y H'=>y= .tup []/\H'=H.set o (.elems 14 ((ts.set i (Mb (nth ts i) k)).map X4)):=by
 have hS: ∀(us:List Typ),∀x∈us.map X4,x.cells.length=14:=fun us x hx=>by
  obtain ⟨t,_,rfl⟩:=XC.1 hx
  rfl
 have hlen:(ts.map X4).length=ts.length:=Zb
 have hg:=Zh hi
 have main: ∀(j:Nat) (v:PV),j<14->(X4 (Mb (nth ts i) k)).cells=(X4 (nth ts i)).cells.set j v->(∀cs:List V,i*14+14<=cs.length->(∀n,∀v∈cs,refB n v=true)->cs[i*14+4]? =some (.p (.list (nth ts i).cap_c ((nth ts i).cap.map eI)))->ACalls Tryz.prog 61 [.ptr 0 (i*14),.p (.int .i64 k)] [.cells cs] fun y H'=>y= .tup []/\H'= [.cells (cs.set (i*14+j) (.p v))]) ->
   ACalls Tryz.prog 61 [.ep o i 0 ts.length,.p (.int .i64 k)] H fun y H'=>y= .tup []/\H'=H.set o (.elems 14 ((ts.set i (Mb (nth ts i) k)).map X4)):=fun j v hj he h=>by
  rw [<- hlen];refine ACalls.atF (S:=14) (ps:= [.int .i64 k]) hH (hS _) (hS _) (fun sp=> ?_) Zb;have hfl:=Al (hS ts);have h4:(VW (ts.map X4))[i*14+4]? =some (.list (nth ts i).cap_c ((nth ts i).cap.map eI)):=Ds (S:=14) (hS ts) i (X4 (nth ts i)) 4 _ (by grind) rfl;have h4l:=(ZU.1 h4).1;refine (h _ (by grind) (fun n v hv=> ?_) ?_).mono ?_
  ·rcases Xi.1 hv with hv | hv
   ·obtain ⟨y,_,rfl⟩:=XC.1 hv
    rfl
   ·rw [List.eq_of_mem_replicate hv];rfl
  ·grind
  ·rintro y H' ⟨h1,rfl⟩;refine ⟨h1,List.replicate sp .junk,Zb,?_⟩;have hf:=Hz (S:=14) (x':=X4 (Mb (nth ts i) k)) (v:=v) (j:=j) (xs:=ts.map X4) (i:=i) Za (hS ts) hj (by grind);rw [AW] at hf
   grind [V4]
 rcases hk with rfl | rfl | rfl | rfl
 ·exact main 4 _ Za rfl fun cs h1 h2 h3=>dI cs _ _ _ h1 h2 h3 hc
 ·exact main 8 _ Za rfl fun cs h1 h2 _=>GJ cs _ 7 8 4096 Zb h1 h2
 ·exact main 9 _ Za rfl fun cs h1 h2 _=>GJ cs _ 8 9 4096 Zb h1 h2
 ·exact main 1 _ Za rfl fun cs h1 h2 _=>GJ cs _ 9 1 10 Zb h1 h2
structure ISz (x:Inst):Prop where
 plc:Plc x
 ord:x.orders.length<=1000
 typ0:0<x.types.length
 typ:x.types.length<=1000
 ap:x.apart.length<=1000
 be:x.before.length<=1000
theorem Uu {x:Inst} (h:ISz x):(YM x 10).length<=1048576:=by
 have e:(YM x 10).Perm (LI x):=by
  refine (List.perm_ext_iff_of_nodup ?_ (F8 h.plc)).2 fun v=>by rw [W8,NA h.plc]
  exact (KX x 10).imp fun {a b} hh e=>by grind [YJ]
 rw [e.length_eq];have h1:=Cp x x.orders.length;have h2:=Lo (k:=x.types.length);have h3:=Ll x x.apart.length;have h4:=Ln x x.before.length;have:=h.ord;have:=h.typ;have:=h.ap;have:=h.be
 grind [LI]
theorem Lp (x:Inst) (h:ISz x):PC 35 [.p (Zv x)] (.list false ((YM x 10).map Yb)):=sE x h.plc h.ord ⟨h.typ0,h.typ⟩ h.ap h.be
theorem sA (x:Inst) (h:ISz x) (v:Itm):PC 22 [.p (Zv x),.p (Yb v)] (.bool (XN x v)):=by
 refine Zd Tryz.func22 rfl Zil ?_;simp (disch:=omega) only [Tryz.f22,go_sem,seval];refine Xe (Zc ?_);refine Zo (Lp x h) (Zc ?_);refine Zo (UY (YM x 10) false v (Uu h)) (Zc ?_);simp [W8]
theorem Kb (o:Ord) (k:Int) (hk:k=1\/k=2\/k=4\/k=10):PC 49 [.p (Yj o),.p (.int .i64 k)] (.bool (CP o k)):=by
 refine Zd Tryz.func49 rfl ZiM ?_;rcases hk with rfl | rfl | rfl | rfl
 ·simp (disch:=omega) only [Tryz.f49,CP,go_sem,seval,↓reduceIte]
 ·simp (disch:=omega) only [Tryz.f49,CP,go_sem,seval,↓reduceIte]
 ·simp (disch:=omega) only [Tryz.f49,CP,go_sem,seval,↓reduceIte]
 ·simp (disch:=omega) only [Tryz.f49,CP,go_sem,seval,↓reduceIte]
theorem Qr (x:Inst) (i:Int) (hl:x.orders.length<=1048576):PC 48 [.p (Zv x),.p (.int .i64 i)] (.bool (UW x i)):=by
 refine Zd Tryz.func48 rfl ZiL ?_;simp (disch:=omega) only [Tryz.f48,go_sem,seval];refine gT ?_ ?_<;>intro h<;>simp (disch:=omega) only [Sh.out h,go_sem,seval,↓reduceIte]
 ·refine gT ?_ ?_<;>intro h2<;>simp (disch:=omega) only [Sh.out h2,go_sem,seval,↓reduceIte]
  ·simp [UW,h,h2]
  ·simp [UW,h2]
 ·simp [UW,h]
theorem NV (x:Inst) (h:ISz x) (v:Itm):PC 25 [.p (Zv x),.p (Yb v)] (.bool (XN x v)):=by
 have s1:=h.ord;have s2:=h.typ;have s3:=h.ap;have s4:=h.be;refine Zd Tryz.func25 rfl Zio ?_;obtain ⟨k,a⟩:=v
 have gO: ∀k:Int,(k=1\/k=2\/k=4\/k=10)->XN x ⟨k,a⟩=(UW x a&&CP (nth x.orders a.toNat) k):=fun k h=>by simp_all [XN]
 by_cases h1:k=1\/k=2\/k=4\/k=10
 ·rw [gO k h1];rcases h1 with rfl | rfl | rfl | rfl
  ·simp (disch:=omega) only [Tryz.f25,go_sem,seval];refine Xe (Zc ?_);refine Zo (Qr x a Za) (Zc ?_);refine gT ?_ ?_<;>intro h<;>simp (disch:=omega) only [Sh.out h,go_sem,seval,↓reduceIte]
   ·have h2:0<=a/\a<(x.orders.length:Int):=by simp_all [UW]
    refine Zc ?_;refine Zo (Kb (nth x.orders a.toNat) 1 Za) (Zc ?_);simp [h]
  ·simp (disch:=omega) only [Tryz.f25,go_sem,seval];refine Xe (Zc ?_);refine Zo (Qr x a Za) (Zc ?_);refine gT ?_ ?_<;>intro h<;>simp (disch:=omega) only [Sh.out h,go_sem,seval,↓reduceIte]
   ·have h2:0<=a/\a<(x.orders.length:Int):=by simp_all [UW]
    refine Zc ?_;refine Zo (Kb (nth x.orders a.toNat) 2 Za) (Zc ?_);simp [h]
  ·simp (disch:=omega) only [Tryz.f25,go_sem,seval];refine Xe (Zc ?_);refine Zo (Qr x a Za) (Zc ?_);refine gT ?_ ?_<;>intro h<;>simp (disch:=omega) only [Sh.out h,go_sem,seval,↓reduceIte]
   ·have h2:0<=a/\a<(x.orders.length:Int):=by simp_all [UW]
    refine Zc ?_;refine Zo (Kb (nth x.orders a.toNat) 4 Za) (Zc ?_);simp [h]
  ·simp (disch:=omega) only [Tryz.f25,go_sem,seval];refine Xe (Zc ?_);refine Zo (Qr x a Za) (Zc ?_);refine gT ?_ ?_<;>intro h<;>simp (disch:=omega) only [Sh.out h,go_sem,seval,↓reduceIte]
   ·have h2:0<=a/\a<(x.orders.length:Int):=by simp_all [UW]
    refine Zc ?_;refine Zo (Kb (nth x.orders a.toNat) 10 Za) (Zc ?_);simp [h]
 ·by_cases h2:k=3\/k=7\/k=8\/k=9
  ·rcases h2 with rfl | rfl | rfl | rfl
   ·simp (disch:=omega) only [Tryz.f25,go_sem,seval];refine gT ?_ ?_<;>intro hq<;>simp (disch:=omega) only [Sh.out hq,go_sem,seval,↓reduceIte]
    ·simp [XN,hq]
    ·simp [XN,hq]
   ·simp (disch:=omega) only [Tryz.f25,go_sem,seval];refine gT ?_ ?_<;>intro hq<;>simp (disch:=omega) only [Sh.out hq,go_sem,seval,↓reduceIte]
    ·simp [XN,hq]
    ·simp [XN,hq]
   ·simp (disch:=omega) only [Tryz.f25,go_sem,seval];refine gT ?_ ?_<;>intro hq<;>simp (disch:=omega) only [Sh.out hq,go_sem,seval,↓reduceIte]
    ·simp [XN,hq]
    ·simp [XN,hq]
   ·simp (disch:=omega) only [Tryz.f25,go_sem,seval];refine gT ?_ ?_<;>intro hq<;>simp (disch:=omega) only [Sh.out hq,go_sem,seval,↓reduceIte]
    ·simp [XN,hq]
    ·simp [XN,hq]
  ·by_cases h3:k=5
   ·subst h3;simp (disch:=omega) only [Tryz.f25,go_sem,seval];refine Xe (Zc ?_);refine gT ?_ ?_<;>intro hq<;>simp (disch:=omega) only [Sh.out hq,go_sem,seval,↓reduceIte]
    ·refine gT ?_ ?_<;>intro hq2<;>simp (disch:=omega) only [Sh.out hq2,go_sem,seval,↓reduceIte]
     ·refine Zo (Qr x (nth x.apart a.toNat).1 Za) (Zc ?_);refine gT ?_ ?_<;>intro hq3<;>simp (disch:=omega) only [Sh.out hq3,go_sem,seval,↓reduceIte]
      ·refine Zo (Qr x (nth x.apart a.toNat).2 Za) (Zc ?_)
       grind [XN]
      ·simp [XN,hq3]
     ·simp [XN,hq2]
    ·simp [XN,hq]
   ·by_cases h4:k=6
    ·subst h4;simp (disch:=omega) only [Tryz.f25,go_sem,seval];refine Xe (Zc ?_);refine gT ?_ ?_<;>intro hq<;>simp (disch:=omega) only [Sh.out hq,go_sem,seval,↓reduceIte]
     ·refine gT ?_ ?_<;>intro hq2<;>simp (disch:=omega) only [Sh.out hq2,go_sem,seval,↓reduceIte]
      ·refine Zo (Qr x (nth x.before a.toNat).2 Za) (Zc ?_)
       grind [XN]
      ·simp [XN,hq2]
     ·simp [XN,hq]
    ·have e1: ¬k=1:=Za
     have e2: ¬k=2:=Za
     have e3: ¬k=3:=Za
     have e4: ¬k=4:=Za
     have e7: ¬k=7:=Za
     have e8: ¬k=8:=Za
     have e9: ¬k=9:=Za
     have e10: ¬k=10:=Za
     simp (disch:=omega) only [Tryz.f25,XN,e1,e2,e3,e4,h3,h4,e7,e8,e9,e10,go_sem,seval,↓reduceIte]
theorem XV (l:List Itm) (c:Bool) (v:Itm) (hl:l.length<=1048576):PC 26 [.p (.list c (l.map Yb)),.p (Yb v)] (.int .i64 (L6 l v)):=by
 refine Zd Tryz.func26 rfl Ziq ?_;simp (disch:=omega) only [Tryz.f26,go_sem,seval];refine Zl [0,3] (fun k:Nat=> [(5,.p (.int .i64 k))]) (fun _=> [.cells [.p (.int .i64 v.kind),.p (.int .i64 v.a)]]) (fun k=>k<=l.length/\ ∀j,j<k-> ¬v=nth l j) (fun k=>l.length-k) 0 Zb (Weak.mk ?_) ?_
 ·simp (disch:=omega) only [go_sem,seval,↓reduceIte]
 ·rintro k ⟨hk,hno⟩;refine Zc ?_;refine cD ?_ ?_<;>intro h<;>simp (disch:=omega) only [Sh.out h,go_sem,seval,↓reduceIte]
  ·have hk2:k<l.length:=Za
   refine Xe (Zc ?_);refine cD ?_ ?_<;>intro h2<;>simp (disch:=omega) only [Sh.out h2,go_sem,seval,↓reduceIte]
   ·grind [JU,Rk]
   ·have: ¬v=nth l k:=by grind
    exact ⟨k+1,⟨Za,Zr.2 ⟨hno,this⟩⟩,Za,wk⟩
  grind [nS]
theorem S5 {l:List Itm} {v:Itm} :L6 l v<0↔ ¬v∈l:=by rw [<- Ud];omega
theorem Gh (l:List (Int×Int)) (w:List Itm) (kind:Int) (c d:Bool) (hl:l.length<=1048576) (hw:w.length<=1048576):PC 27 [.p (.list c (l.map eP)),.p (.list d (w.map Yb)),.p (.int .i64 kind)] (.list false ((Y4 l w kind l.length).map eP)):=by
 refine ACalls.frozen (S:=2) (n:=(Y4 l w kind l.length).length) Zb ?_
 suffices hh:ACalls Tryz.prog 27 [.p (.list c (l.map eP)),.p (.list d (w.map Yb)),.p (.int .i64 kind)] [] fun y H'=> ∃m:List (Int×Int),m=Y4 l w kind l.length/\y= .sl 0 0 m.length m.length/\H'= [.elems 2 (m.map eP)] by
  grind
 refine ZQ [2] Tryz.func27 rfl Zir ?_;simp (disch:=omega) only [Tryz.f27,go_sem,seval];refine Zp (Weak.ofNil 7 2 (by simp (disch:=omega) only [go_sem,seval]) Zb (Weak.refl _ _ _)) ?_;refine Zg [] _ _ _ _ (Zc ?_);refine Zl [0,1,2] (fun q:Nat×List (Int×Int)=> [(7,.sl 0 0 q.2.length q.2.length),(8,.p (.int .i64 q.1))]) (fun q=> [.elems 2 (q.2.map eP)]) (fun q=>q.1<=l.length/\q.2=Y4 l w kind q.1) (fun q=>l.length-q.1) (0,[]) ⟨Zb,by simp [Y4]⟩ (Weak.mk ?_) ?_
 ·simp (disch:=omega) only [go_sem,seval,↓reduceIte]
 ·rintro ⟨k,m⟩ ⟨hk,hm⟩;simp only at hk hm;have hml:=Dy l w kind k;rw [<- hm] at hml;have hs:=JV l w kind k;refine Zc ?_;refine cD ?_ ?_<;>intro h<;>simp (disch:=omega) only [Sh.out h,go_sem,seval,↓reduceIte]
  ·have hk2:k<l.length:=Za
   refine (XV w d ⟨kind,k⟩ hw).use (Zc ?_);refine cD ?_ ?_<;>intro h2<;>simp (disch:=omega) only [Sh.out h2,go_sem,seval,↓reduceIte]
   ·have h3: ¬(⟨kind,k⟩:Itm)∈w:=S5.1 h2;exact ⟨(k+1,m++ [nth l k]),⟨Za,by grind⟩,Za,wk⟩
   ·have h3:(⟨kind,k⟩:Itm)∈w:=by simp_all [S5]
    exact ⟨(k+1,m),⟨Za,by grind⟩,Za,wk⟩
  ·have hkl:k=l.length:=Za
   subst hkl;exact ⟨m,hm,0,by simp (disch:=omega) only [go_sem,seval]⟩
theorem Gd (x k): ∀n,(Eu x k n).length<=n
 | 0=>by simp [Eu]
 | n+1=>by
  have h1:=Gd x k n
  have h2:(LM x k n).length<=1:=by unfold LM;split<;>simp
  rw [H8,ZG];omega
theorem H6 (x): ∀n,(YM x n).length<=n*KO x
 | 0=>by simp [YM]
 | n+1=>by
  have h1:=H6 x n;have h2:=Gd x n (KO x);rw [H7,ZG,XJ];omega
theorem NW (x:Inst) (h:ISz x):PC 38 [.p (Zv x)] (.list false ((YM x 10).map Yb)):=by
 have s1:=h.ord;have s2:=h.typ;have s3:=h.ap;have s4:=h.be;have hrl:=Uu h;refine ACalls.frozen (S:=2) (n:=(YM x 10).length) Zb ?_
 suffices hh:ACalls Tryz.prog 38 [.p (Zv x)] [] fun y H'=> ∃m:List Itm,m=YM x 10/\y= .sl 0 0 m.length m.length/\H'= [.elems 2 (m.map Yb)] by
  grind
 have hm1:KO x<=1000:=by unfold KO;omega
 have hmost:max (max (max (x.orders.length:Int) x.types.length) x.apart.length) x.before.length=(KO x:Int):=by unfold KO;omega
 refine ZQ [1] Tryz.func38 rfl ZiB ?_;simp (disch:=omega) only [Tryz.f38,go_sem,seval];refine YI (qG 12 (by rfl) (by rfl) (Zc ?_));refine ⟨_,bV rfl rfl rfl rfl rfl,?_⟩;rw [hmost];have hrn:=H6 x;have hsK:=H8 x;have hsI:=H7 x;have hlK:=Gd x;generalize KO x=M at hm1 hrn hsI;refine Zg [3] _ _ _ _ (Zc ?_);refine Zp (Weak.ofNil 4 2 (by simp (disch:=omega) only [go_sem,seval]) Zb (Weak.refl _ _ _)) ?_;refine Zg [] _ _ _ _ (Zc ?_);refine Zl [1,3] (fun q:Nat×List Itm=> [(4,.sl 1 0 q.2.length q.2.length),(5,.p (.int .i64 (q.1+1)))]) (fun q=> [Zi x,.elems 2 (q.2.map Yb)]) (fun q=>q.1<=10/\q.2=YM x q.1) (fun q=>10-q.1) (0,[]) ⟨Zb,by simp [YM]⟩ (Weak.mk ?_) ?_
 ·simp (disch:=omega) only [Zi,go_sem,seval]
 ·rintro ⟨k,m⟩ ⟨hk,hm⟩;simp only at hk hm;have hml:=hrn k;rw [<- hm] at hml;have hml2:k*M<=10*1000:=AC hk hm1;refine Ya ?_;refine cD ?_ ?_<;>intro hq<;>simp (disch:=omega) only [Sh.out hq,go_sem,seval,↓reduceIte]
  ·have hk2:k<10:=Za
   refine Zl [1,3,5] (fun q:Nat×List Itm=> [(4,.sl 1 0 q.2.length q.2.length),(6,.p (.int .i64 q.1))]) (fun q=> [Zi x,.elems 2 (q.2.map Yb)]) (fun q=>q.1<=M/\q.2=m++Eu x k q.1) (fun q=>M-q.1) (0,m) ⟨Zb,by simp [Eu]⟩ (Weak.mk ?_) ?_
   ·simp (disch:=omega) only [Zi,go_sem,seval]
   ·rintro ⟨a,m2⟩ ⟨ha,hm2⟩;simp only at ha hm2;have hm2l:=hlK k a
    have hm2l2:m2.length=m.length+(Eu x k a).length:=by grind
    have hs:=hsK k a;refine Ya ?_;refine ZR ?_ ?_<;>intro h2
    ·have ha2:a<M:=Za
     refine (NV x h ⟨(k:Int)+1,a⟩).use (Zc ?_);refine ZR ?_ ?_<;>intro h3
     ·exact ⟨(a+1,m2++ [⟨(k:Int)+1,a⟩]),⟨Za,by simp_all [LM]⟩,Za,wk⟩
     ·exact ⟨(a+1,m2),⟨Za,by grind [LM]⟩,Za,wk⟩
    ·have haM:a=M:=Za
     subst haM;exact ⟨(k+1,m2),⟨Za,by grind⟩,Za,wk⟩
  ·have hk10:k=10:=Za
   subst hk10;exact ⟨m,hm,1,by simp (disch:=omega) only [go_sem,seval]⟩
def VU (o:Ord) (at':Int) (l:List Itm):Ord:= { o with
 pick:= { o.pick with cls:=if (⟨1,at'⟩:Itm)∈l then 4096 else o.pick.cls }
 drp:= { o.drp with cls:=if (⟨2,at'⟩:Itm)∈l then 4096 else o.drp.cls }
 skills:=if (⟨4,at'⟩:Itm)∈l then 0 else o.skills
 penalty:=if (⟨10,at'⟩:Itm)∈l then 0 else o.penalty }
def Va (t:Typ) (at':Int) (l:List Itm):Typ:= { t with
 cap_c:=if (⟨3,at'⟩:Itm)∈l then false else t.cap_c
 cap:=if (⟨3,at'⟩:Itm)∈l then List.replicate t.cap.length 1000 else t.cap
 cls:=if (⟨7,at'⟩:Itm)∈l then 4096 else t.cls
 drive:=if (⟨8,at'⟩:Itm)∈l then 4096 else t.drive
 count:=if (⟨9,at'⟩:Itm)∈l then 10 else t.count }
theorem lK (o a):VU o a []=o:=by simp [VU]
theorem nV (o a):Va o a []=o:=by simp [Va]
theorem HT (o a l) (v:Itm):VU o a (l++ [v])=if v.a=a then G9 (VU o a l) v.kind else VU o a l:=by
 obtain ⟨k,b⟩:=v
 by_cases h:b=a
 ·grind [VU,G9]
 grind [VU]
theorem Im (o a l) (v:Itm):Va o a (l++ [v])=if v.a=a then Mb (Va o a l) v.kind else Va o a l:=by
 obtain ⟨k,b⟩:=v
 by_cases h:b=a
 ·subst h
  grind [Va,Mb]
 grind [Va]
def Xm (os:List Ord) (w:List Itm):List Ord:=(List.range os.length).map fun (i:Nat)=>VU (nth os i) i w
def Xo (ts:List Typ) (w:List Itm):List Typ:=(List.range ts.length).map fun (i:Nat)=>Va (nth ts i) i w
theorem WT (os w):(Xm os w).length=os.length:=by simp [Xm]
theorem Vr (os w):(Xo os w).length=os.length:=by simp [Xo]
theorem Bg {α:Type} [Inhabited α] {f:Nat->α} {n i:Nat} (h:i<n):nth ((List.range n).map f) i=f i:=by
 grind [Zh]
theorem Z6 {os w i} (h:i<os.length):nth (Xm os w) i=VU (nth os i) i w:=Bg h
theorem Wl {os w i} (h:i<os.length):nth (Xo os w) i=Va (nth os i) i w:=Bg h
theorem Be {α:Type} [Inhabited α] (l:List α):(List.range l.length).map (fun i=>nth l i)=l:=by
 apply Jc
 ·simp
 grind [Zh]
theorem bK (os):Xm os []=os:=by simp_all [Xm,lK,Be]
theorem dG (os):Xo os []=os:=by simp_all [Xo,nV,Be]
theorem PP {o:Ord} {k:Int} (h:k=3\/k=7\/k=8\/k=9\/k=5\/k=6):G9 o k=o:=by
 unfold G9
 grind
theorem Rm {o:Typ} {k:Int} (h:k=1\/k=2\/k=4\/k=10\/k=5\/k=6):Mb o k=o:=by
 unfold Mb
 grind
theorem AS {os:List Ord} {w:List Itm} {v:Itm} {i:Nat} (hi:i<os.length) (hv:v.a=(i:Int)):(Xm os w).set i (G9 (nth (Xm os w) i) v.kind)=Xm os (w++ [v]):=by
 rw [Z6 hi];apply Jc
 ·simp [Xm]
 grind [Xm,HT]
theorem A1 {os:List Typ} {w:List Itm} {v:Itm} {i:Nat} (hi:i<os.length) (hv:v.a=(i:Int)):(Xo os w).set i (Mb (nth (Xo os w) i) v.kind)=Xo os (w++ [v]):=by
 rw [Wl hi];apply Jc
 ·simp [Xo]
 grind [Xo,Im]
theorem Ur {os:List Ord} {w:List Itm} {v:Itm} (h:v.kind=3\/v.kind=7\/v.kind=8\/v.kind=9\/v.kind=5\/v.kind=6):Xm os (w++ [v])=Xm os w:=by
 simp_all [Xm,HT,PP]
theorem Uy {os:List Typ} {w:List Itm} {v:Itm} (h:v.kind=1\/v.kind=2\/v.kind=4\/v.kind=10\/v.kind=5\/v.kind=6):Xo os (w++ [v])=Xo os w:=by
 simp_all [Xo,Im,Rm]
def Zm (x:Inst) (l:List Itm):Inst:=⟨x.net,false,Xo x.types l,false,Xm x.orders l,false,Y4 x.apart l 5 x.apart.length,false,Y4 x.before l 6 x.before.length⟩
def WC (x:Inst) (l:List Itm) (i:Nat):Int:=if XN x (nth l i)=true then (if nth l i∈l.take i then 6 else 0) else 7
def VT (x:Inst) (l:List Itm):Int:=(((List.range l.length).map (WC x l)).find? fun e=>decide (e≠0)).getD 0
theorem Aj {x:Inst} {l:List Itm} {k:Nat} (hk:k<l.length) (h0: ∀j,j<k->WC x l j=0) (h:WC x l k≠0):VT x l=WC x l k:=by
 have:((List.range l.length).map (WC x l)).find? (fun e=>decide (e≠0))=some (WC x l k):=by
  grind [EF]
 grind [VT]
theorem I6 {x:Inst} {l:List Itm} (h: ∀j,j<l.length->WC x l j=0):VT x l=0:=by
 have:((List.range l.length).map (WC x l)).find? (fun e=>decide (e≠0))=none:=by
  grind
 grind [VT]
theorem V1 {x l i} :WC x l i=0↔XN x (nth l i)=true/\nth l i ∉ l.take i:=by
 grind [WC]
theorem T3 {x:Inst} {l:List Itm} :VT x l=0↔ ∀j,j<l.length->WC x l j=0:=by
 refine ⟨fun h j hj=> ?_,I6⟩
 induction j using Nat.strongRecOn with
 | ind j ih =>
  grind [Aj]
theorem Fx {x:Inst} {l:List Itm} :VT x l=0↔(∀v∈l,XN x v=true)/\l.Nodup:=by
 rw [T3]
 constructor
 ·intro h;refine ⟨fun v hv=> ?_,?_⟩
  ·obtain ⟨j,hj,rfl⟩:=ZN.1 hv
   grind [V1,Zh]
  grind [Q9,V1,Zh,ZN]
 grind [V1,ZN,Q9,Zh]
def Ku (x:Inst) (l:List Itm):Inst:=if VT x l=0 then Zm x l else zeroI
theorem rU {n word sm l i} :R4 n word sm l i= []↔bC n (nth l i)=true/\(l.take i).any (sm (nth l i))=false:=by
 grind [R4]
theorem iW {n word sm l} :Js n word sm l l.length= []↔l.length<=16/\(∀p∈l,bC n p=true)/\l.Pairwise (fun p q=>sm q p=false):=by
 rw [Js,V3,List.flatMap_eq_nil_iff];refine and_congr (by grind [G6]) ?_;simp only [ZM,rU]
 constructor
 ·intro h;refine ⟨fun p hp=> ?_,?_⟩
  ·obtain ⟨i,hi,rfl⟩:=ZN.1 hp
   grind [Zh]
  ·rw [Q9]
   grind [Zh,ZN]
 ·rintro ⟨h1,h2⟩ i hi;refine ⟨h1 _ (Zt hi),?_⟩;rw [Vh];intro p hp;obtain ⟨j,hj,rfl⟩:=ZN.1 hp
  grind [Q9,Zh]
theorem I0 {n:Int} {ap be:List (Int×Int)} :chk n ap be= []↔(ap.length<=16/\(∀p∈ap,bC n p=true)/\ap.Pairwise (fun p q=>decide (q=p\/(q.1=p.2/\q.2=p.1))=false))/\(be.length<=16/\(∀p∈be,bC n p=true)/\be.Pairwise (fun p q=>decide (q=p)=false)):=by
 grind [chk,V3,iW]
theorem HG (l w kind): ∀k,k<=l.length->(Y4 l w kind k).Sublist (l.take k)
 | 0,_=>by simp [Y4]
 | k+1,h=>by
  rw [JV,X0 Za];refine (HG l w kind k Za).append ?_
  split
  ·simp
  ·rw [Zh Za];exact List.Sublist.refl _
theorem Bx (l w kind):(Y4 l w kind l.length).Sublist l:=by
 have:=HG l w kind l.length (ZB _)
 grind
theorem C0 {n lo hi:Int} :rng n lo hi=true↔lo<=n/\n<=hi:=by simp [rng]
theorem Dq {l:List Int} {d:Int} :Vy l d=true↔(1<=l.length/\l.length<=3)/\(l.length:Int)=d/\ ∀n∈l,0<=n/\n<=1000:=by
 simp only [Vy,ZH,Zs,ZA,C0]
 grind
theorem Ma (t a l):(Va t a l).cap.length=t.cap.length:=by grind [Va]
theorem Rl {t a l d} (h:Vy t.cap d=true):Vy (Va t a l).cap d=true:=by
 grind [Dq,Va]
theorem JM (ts l):dimsOf (Xo ts l)=dimsOf ts:=by
 grind [dimsOf,Vr,Wl,Ma]
theorem Tb {n:Net} {ts:List Typ} {l:List Itm} {i:Nat} (hi:i<ts.length) (h:Ux n ts i):Ux n (Xo ts l) i:=by
 unfold Ux at h ⊢;rw [Wl hi,JM]
 grind [Rl,Wl,Va,C0]
theorem Ii {s:Stp} (h:stpOk s=true) (hp:0<=s.place):stpOk { s with cls:=4096 } =true:=by
 grind [dD]
theorem FK {x:Inst} {k a:Int} (hk:k=1\/k=2\/k=4\/k=10):XN x ⟨k,a⟩=true↔UW x a=true/\CP (nth x.orders a.toNat) k=true:=by
 simp_all [XN]
theorem oW {np:Nat} {d ty:Int} {os:List Ord} {l:List Itm} {i:Nat} (hi:i<os.length) (h:OrdOk np d ty os i) (h1:(⟨1,i⟩:Itm)∈l->0<=(nth os i).pick.place) (h2:(⟨2,i⟩:Itm)∈l->0<=(nth os i).drp.place):OrdOk np d ty (Xm os l) i:=by
 constructor
 ·rw [Z6 hi];exact h.name
 ·intro j hj;rw [Z6 hi,Z6 Za];exact h.twin j hj
 ·rw [Z6 hi];exact h.load
 ·rw [Z6 hi];exact h.pick
 ·rw [Z6 hi];exact h.drp
 ·rw [Z6 hi];exact h.one
 ·rw [Z6 hi];simp only [VU];split
  ·rename_i hm;exact Ii h.pstp (h1 hm)
  ·exact h.pstp
 ·rw [Z6 hi];simp only [VU];split
  ·rename_i hm;exact Ii h.dstp (h2 hm)
  ·exact h.dstp
 ·rw [Z6 hi];have:=h.skills;grind [VU]
 ·rw [Z6 hi];have:=h.arg;simp only [argOk,ZH,Zs,C0] at this ⊢;refine ⟨⟨?_,this.1.2⟩,this.2⟩
  grind [VU]
theorem V9 {x:Inst} {l:List Itm} (h:InstOk x) (hI: ∀v∈l,XN x v=true):InstOk (Zm x l):=by
 have ht:=h.types;have ho:=h.orders;obtain ⟨⟨a1,a2,a3⟩,b1,b2,b3⟩:=I0.1 h.rules;refine ⟨h.net,⟨?_,fun i hi=> ?_⟩,⟨?_,fun i hi=> ?_⟩,?_⟩
 ·show rng (Xo x.types l).length 1 6=true
  rw [Vr];exact ht.1
 ·have hi2:i<x.types.length:=by grind [Zm,Vr]
  exact Tb hi2 (ht.2 i hi2)
 ·show (Xm x.orders l).length<=10
  rw [WT];exact ho.1
 ·have hi2:i<x.orders.length:=by grind [Zm,WT]
  show OrdOk x.net.places.length (dimsOf (Xo x.types l)) (Xo x.types l).length (Xm x.orders l) i
  rw [JM,Vr];refine oW hi2 (ho.2 i hi2) (fun hm=> ?_) (fun hm=> ?_)
  ·grind [FK,CP]
  grind [FK,CP]
 ·show chk ((Xm x.orders l).length:Int) (Y4 x.apart l 5 x.apart.length) (Y4 x.before l 6 x.before.length)= []
  grind [WT,I0,Bx]
theorem Ua {x:Inst} (h:InstOk x):ISz x:=by
 have hf:=XK h;have ht:=C0.1 h.types.1;obtain ⟨⟨a1,_,_⟩,b1,_,_⟩:=I0.1 h.rules;have:=h.orders.1;exact ⟨hf.plc,Za,Za,Za,Za,Za⟩
theorem Nk {x:Inst} (h:InstOk x): ∀t∈x.types,t.cap.length<=1048576:=fun t hm=>by
 obtain ⟨i,hi,rfl⟩:=ZN.1 hm;have:=h.types.2 i hi;have h5:=(Dq.1 this.1.1.1.1.2).1
 grind [Zh]
theorem DW {P Q:Prop} (h:Q) (e:Q->P:=by intro h;simp (disch:=omega) only [Zi,zeroI,Zn,go_sem,seval];exact h):P:=e h
theorem tW (x:Inst) (hs:ISz x) (hcap: ∀t∈x.types,t.cap.length<=1048576) (l:List Itm) (c:Bool) (hl:l.length<=1048576):PT 34 [.p (Zv x),.p (.list c (l.map Yb))] [.p (Zv (Ku x l)),.p (.int .i64 (VT x l))]:=by
 have s1:=hs.ord;have s2:=hs.typ;have s3:=hs.ap;have s4:=hs.be;have hrl:=Uu hs;refine Zf [27] Tryz.func34 rfl Zix ?_;simp (disch:=omega) only [Tryz.f34,go_sem,seval];refine (Lp x hs).use (Zc ?_);have zI:Zv zeroI= .agg [.list true [],.list true [],.list true [],.list true [],.list true [],.list true []]:=rfl;refine Z0 [10] [1,2,4,6,13,14] (fun k:Nat=> [(15,.p (.int .i64 k))]) (fun _=> [Zi x,Zi zeroI]) (fun k=>k<=l.length/\ ∀j,j<k->WC x l j=0) (fun k=>l.length-k) 0 Zb (Weak.mk ?_) ?_
 ·simp (disch:=omega) only [Zi,zeroI,Zn,go_sem,seval]
 ·rintro k ⟨hk,hno⟩;refine DW ?_;refine cD ?_ ?_<;>intro h<;>simp (disch:=omega) only [Sh.out h,go_sem,seval,↓reduceIte]
  ·have hk2:k<l.length:=Za
   refine (UY (YM x 10) false (nth l k) hrl).use (Zc ?_);refine cD ?_ ?_<;>intro h2<;>simp (disch:=omega) only [Sh.out h2,go_sem,seval,↓reduceIte]
   ·have h3:XN x (nth l k)=false:=by grind [W8]
    have e0:WC x l k=7:=by rw [WC,h3];rfl
    have e:VT x l=7:=by grind [Aj]
    have r:Ku x l=zeroI:=by rw [Ku,e];rfl
    simp only [e,r,zeroI,Zn];exact we
   ·have h3:XN x (nth l k)=true:=by simp_all [W8]
    refine Xe (Zc ?_);refine Zo (UY (l.take k) _ (nth l k) (by simp;omega)) (Zc ?_);refine ZR ?_ ?_<;>intro h4
    ·have e0:WC x l k=6:=by simp_all [WC]
     have e:VT x l=6:=by grind [Aj]
     have r:Ku x l=zeroI:=by rw [Ku,e];rfl
     simp only [e,r,zeroI,Zn];exact we
    ·exact ⟨k+1,⟨Za,Zr.2 ⟨hno,V1.2 ⟨h3,h4⟩⟩⟩,Za,wk⟩
  ·have hkl:k=l.length:=Za
   subst hkl;have e:VT x l=0:=I6 hno
   have r:Ku x l=Zm x l:=by rw [Ku,if_pos e]
   rw [e,r];clear hk h;refine TI [1,2,4] (fun _:Unit=> []) (fun _=> [.cells [.p (.list x.net.places_c (x.net.places.map eS)),.p (.list x.net.arcs_c (x.net.arcs.map VS)),.sl 2 0 x.types.length x.types.length,.sl 3 0 x.orders.length x.orders.length,.p (.list x.apart_c (x.apart.map eP)),.p (.list x.before_c (x.before.map eP))],Zi zeroI,.elems 14 (x.types.map X4),.elems 16 (x.orders.map Yj)]) (fun _=>True) ?_ ?_
   ·refine Fk (.cons 0 (.cons 1 (.cons 2 (.cons 3 (.cons 4 (.cons 5 (.cons 6 (.cons 7 (.cons 8 (.cons 9 .nil .nil) .nil) .nil) .nil) (.cons 6 (.cons 5 (.cons 7 (.cons 8 (.cons 9 .nil .nil) .nil) .nil) .nil) .nil)) .nil) .nil) (.cons 3 (.cons 2 (.cons 4 (.cons 5 (.cons 6 (.cons 7 (.cons 8 (.cons 9 .nil .nil) .nil) .nil) .nil) (.cons 6 (.cons 5 (.cons 7 (.cons 8 (.cons 9 .nil .nil) .nil) .nil) .nil) .nil)) .nil) (.cons 4 (.cons 2 (.cons 5 (.cons 6 (.cons 7 (.cons 8 (.cons 9 .nil .nil) .nil) .nil) .nil) (.cons 6 (.cons 5 (.cons 7 (.cons 8 (.cons 9 .nil .nil) .nil) .nil) .nil) .nil)) .nil) .nil)) .nil)) (.cons 3 (.cons 1 (.cons 2 (.cons 4 (.cons 5 (.cons 6 (.cons 7 (.cons 8 (.cons 9 .nil .nil) .nil) .nil) .nil) (.cons 6 (.cons 5 (.cons 7 (.cons 8 (.cons 9 .nil .nil) .nil) .nil) .nil) .nil)) .nil) (.cons 4 (.cons 2 (.cons 5 (.cons 6 (.cons 7 (.cons 8 (.cons 9 .nil .nil) .nil) .nil) .nil) (.cons 6 (.cons 5 (.cons 7 (.cons 8 (.cons 9 .nil .nil) .nil) .nil) .nil) .nil)) .nil) .nil)) (.cons 4 (.cons 1 (.cons 2 (.cons 5 (.cons 6 (.cons 7 (.cons 8 (.cons 9 .nil .nil) .nil) .nil) .nil) (.cons 6 (.cons 5 (.cons 7 (.cons 8 (.cons 9 .nil .nil) .nil) .nil) .nil) .nil)) .nil) .nil) .nil)) .nil)) (.cons 3 (.cons 0 (.cons 1 (.cons 2 (.cons 4 (.cons 5 (.cons 6 (.cons 7 (.cons 8 (.cons 9 .nil .nil) .nil) .nil) .nil) (.cons 6 (.cons 5 (.cons 7 (.cons 8 (.cons 9 .nil .nil) .nil) .nil) .nil) .nil)) .nil) (.cons 4 (.cons 2 (.cons 5 (.cons 6 (.cons 7 (.cons 8 (.cons 9 .nil .nil) .nil) .nil) .nil) (.cons 6 (.cons 5 (.cons 7 (.cons 8 (.cons 9 .nil .nil) .nil) .nil) .nil) .nil)) .nil) .nil)) (.cons 4 (.cons 1 (.cons 2 (.cons 5 (.cons 6 (.cons 7 (.cons 8 (.cons 9 .nil .nil) .nil) .nil) .nil) (.cons 6 (.cons 5 (.cons 7 (.cons 8 (.cons 9 .nil .nil) .nil) .nil) .nil) .nil)) .nil) .nil) .nil)) (.cons 4 (.cons 0 (.cons 1 (.cons 2 (.cons 5 (.cons 6 (.cons 7 (.cons 8 (.cons 9 .nil .nil) .nil) .nil) .nil) (.cons 6 (.cons 5 (.cons 7 (.cons 8 (.cons 9 .nil .nil) .nil) .nil) .nil) .nil)) .nil) .nil) .nil) .nil)) .nil)) mixed Ze ?_
    have cT:ACalls Tryz.prog 58 [.p (.list x.types_c (x.types.map X4))] [] fun y H'=>y= .sl 0 0 x.types.length x.types.length/\H'= [.elems 14 (x.types.map X4)]:=G0 x.types x.types_c Za;have cO:ACalls Tryz.prog 59 [.p (.list x.orders_c (x.orders.map Yj))] [] fun y H'=>y= .sl 0 0 x.orders.length x.orders.length/\H'= [.elems 16 (x.orders.map Yj)]:=GZ x.orders x.orders_c Za
    repeat' first
     | refine Dl ?_ ?_
     | (refine cT.useF ?_;simp (disch:=omega) only [go_sem,seval,↓reduceIte])
     | (refine cO.useF ?_;simp (disch:=omega) only [go_sem,seval,↓reduceIte])
     | exact ⟨(),Weak.mk (by simp (disch:=omega) only [Zi,zeroI,Zn,go_sem,seval])⟩
     | simp (disch:=omega) only [go_sem,seval]
   ·rintro _ _;refine DW ?_;have lT:=Vr x.types;have lO:=WT x.orders
    have hcap2: ∀k i,i<x.types.length->(nth (Xo x.types (l.take k)) i).cap.length<=1048576:=fun k i hi=>by
     grind [Wl,Zt,Va]
    refine Z0 [26,27] [1,2,4,42,43] (fun k:Nat=> [(44,.p (.int .i64 k))]) (fun k=> [.cells [.p (.list x.net.places_c (x.net.places.map eS)),.p (.list x.net.arcs_c (x.net.arcs.map VS)),.sl 2 0 x.types.length x.types.length,.sl 3 0 x.orders.length x.orders.length,.p (.list x.apart_c (x.apart.map eP)),.p (.list x.before_c (x.before.map eP))],Zi zeroI,.elems 14 ((Xo x.types (l.take k)).map X4),.elems 16 ((Xm x.orders (l.take k)).map Yj)]) (fun k=>k<=l.length) (fun k=>l.length-k) 0 Zb (Weak.mk ?_) ?_
    ·simp (disch:=omega) only [Zi,zeroI,Zn,Ql,dG,bK,go_sem,seval]
    ·rintro k hk;refine DW ?_;have hhas:k<l.length->XN x (nth l k)=true:=fun h=>(V1.1 (hno k h)).1
     have hsn:k<l.length->l.take (k+1)=l.take k++ [nth l k]:=fun h=>by rw [X0 h,Zh h]
     refine cD ?_ ?_<;>intro h<;>simp (disch:=omega) only [Sh.out h,go_sem,seval,↓reduceIte]
     ·have hk2:k<l.length:=Za
      have hhas:=hhas hk2;have hsn:=hsn hk2
      have hgo: ∀kd a,nth l k=⟨kd,a⟩->(kd=1\/kd=2\/kd=4\/kd=10)/\(0<=a/\a<(x.orders.length:Int))\/(kd=3\/kd=7\/kd=8\/kd=9)/\(0<=a/\a<(x.types.length:Int))\/kd=5\/kd=6:=fun kd a e=>by
       rw [e] at hhas;unfold XN at hhas;simp only at hhas
       split at hhas
       ·simp_all [UW]
       grind
      generalize hv:nth l k=v at hgo hsn ⊢;obtain ⟨kd,a⟩:=v;rcases hgo kd a rfl with ⟨hkd,ha⟩ | ⟨hkd,ha⟩ | hkd
      ·rcases hkd with rfl | rfl | rfl | rfl
       ·have hmO:((Xm x.orders (l.take k)).map Yj).length=x.orders.length:=by grind
        have c9:=AR (Xm x.orders (l.take k)) a.toNat 1 (by grind);rw [AS Za (v:=⟨1,a⟩) (by grind),<- hsn,lO,<- hmO] at c9
        have eT:Xo x.types (l.take (k+1))=Xo x.types (l.take k):=by grind [Uy]
        refine Zc ?_;refine ZC 7 mixed Ze Ze (Zc ?_);rw [<- hmO];refine (ACalls.atE (ps:= [.int .i64 1]) (o:=3) rfl c9 (by simp [lO])).useH (K3 ?_);refine ⟨k+1,Za,Za,Weak.mk ?_⟩
        try simp only [lO]
        simp (disch:=omega) only [eT,go_sem,seval]
       ·have hmO:((Xm x.orders (l.take k)).map Yj).length=x.orders.length:=by grind
        have c9:=AR (Xm x.orders (l.take k)) a.toNat 2 (by grind);rw [AS Za (v:=⟨2,a⟩) (by grind),<- hsn,lO,<- hmO] at c9
        have eT:Xo x.types (l.take (k+1))=Xo x.types (l.take k):=by grind [Uy]
        refine Zc ?_;refine ZC 7 mixed Ze Ze (Zc ?_);rw [<- hmO];refine (ACalls.atE (ps:= [.int .i64 2]) (o:=3) rfl c9 (by simp [lO])).useH (K3 ?_);refine ⟨k+1,Za,Za,Weak.mk ?_⟩
        try simp only [lO]
        simp (disch:=omega) only [eT,go_sem,seval]
       ·have hmO:((Xm x.orders (l.take k)).map Yj).length=x.orders.length:=by grind
        have c9:=AR (Xm x.orders (l.take k)) a.toNat 4 (by grind);rw [AS Za (v:=⟨4,a⟩) (by grind),<- hsn,lO,<- hmO] at c9
        have eT:Xo x.types (l.take (k+1))=Xo x.types (l.take k):=by grind [Uy]
        refine Zc ?_;refine ZC 7 mixed Ze Ze (Zc ?_);rw [<- hmO];refine (ACalls.atE (ps:= [.int .i64 4]) (o:=3) rfl c9 (by simp [lO])).useH (K3 ?_);refine ⟨k+1,Za,Za,Weak.mk ?_⟩
        try simp only [lO]
        simp (disch:=omega) only [eT,go_sem,seval]
       ·have hmO:((Xm x.orders (l.take k)).map Yj).length=x.orders.length:=by grind
        have c9:=AR (Xm x.orders (l.take k)) a.toNat 10 (by grind);rw [AS Za (v:=⟨10,a⟩) (by grind),<- hsn,lO,<- hmO] at c9
        have eT:Xo x.types (l.take (k+1))=Xo x.types (l.take k):=by grind [Uy]
        refine Zc ?_;refine ZC 7 mixed Ze Ze (Zc ?_);rw [<- hmO];refine (ACalls.atE (ps:= [.int .i64 10]) (o:=3) rfl c9 (by simp [lO])).useH (K3 ?_);refine ⟨k+1,Za,Za,Weak.mk ?_⟩
        try simp only [lO]
        simp (disch:=omega) only [eT,go_sem,seval]
      ·rcases hkd with rfl | rfl | rfl | rfl
       ·have hmT:((Xo x.types (l.take k)).map X4).length=x.types.length:=by grind
        have c9:=fun (H:List AM.Obj) (hH:H[2]? =some (.elems 14 ((Xo x.types (l.take k)).map X4)))=>QU (Xo x.types (l.take k)) a.toNat 3 Zb (by grind) (hcap2 k a.toNat Za) hH;rw [A1 Za (v:=⟨3,a⟩) (by grind),<- hsn,lT,<- hmT] at c9
        have eO:Xm x.orders (l.take (k+1))=Xm x.orders (l.take k):=by grind [Ur]
        refine Zc ?_;refine ZC 7 mixed Ze Ze (Zc ?_);rw [<- hmT];refine (c9 _ rfl).useH (K3 ?_);refine ⟨k+1,Za,Za,Weak.mk ?_⟩
        try simp only [lT]
        simp (disch:=omega) only [eO,go_sem,seval]
       ·have hmT:((Xo x.types (l.take k)).map X4).length=x.types.length:=by grind
        have c9:=fun (H:List AM.Obj) (hH:H[2]? =some (.elems 14 ((Xo x.types (l.take k)).map X4)))=>QU (Xo x.types (l.take k)) a.toNat 7 Zb (by grind) (hcap2 k a.toNat Za) hH;rw [A1 Za (v:=⟨7,a⟩) (by grind),<- hsn,lT,<- hmT] at c9
        have eO:Xm x.orders (l.take (k+1))=Xm x.orders (l.take k):=by grind [Ur]
        refine Zc ?_;refine ZC 7 mixed Ze Ze (Zc ?_);rw [<- hmT];refine (c9 _ rfl).useH (K3 ?_);refine ⟨k+1,Za,Za,Weak.mk ?_⟩
        try simp only [lT]
        simp (disch:=omega) only [eO,go_sem,seval]
       ·have hmT:((Xo x.types (l.take k)).map X4).length=x.types.length:=by grind
        have c9:=fun (H:List AM.Obj) (hH:H[2]? =some (.elems 14 ((Xo x.types (l.take k)).map X4)))=>QU (Xo x.types (l.take k)) a.toNat 8 Zb (by grind) (hcap2 k a.toNat Za) hH;rw [A1 Za (v:=⟨8,a⟩) (by grind),<- hsn,lT,<- hmT] at c9
        have eO:Xm x.orders (l.take (k+1))=Xm x.orders (l.take k):=by grind [Ur]
        refine Zc ?_;refine ZC 7 mixed Ze Ze (Zc ?_);rw [<- hmT];refine (c9 _ rfl).useH (K3 ?_);refine ⟨k+1,Za,Za,Weak.mk ?_⟩
        try simp only [lT]
        simp (disch:=omega) only [eO,go_sem,seval]
       ·have hmT:((Xo x.types (l.take k)).map X4).length=x.types.length:=by grind
        have c9:=fun (H:List AM.Obj) (hH:H[2]? =some (.elems 14 ((Xo x.types (l.take k)).map X4)))=>QU (Xo x.types (l.take k)) a.toNat 9 Zb (by grind) (hcap2 k a.toNat Za) hH;rw [A1 Za (v:=⟨9,a⟩) (by grind),<- hsn,lT,<- hmT] at c9
        have eO:Xm x.orders (l.take (k+1))=Xm x.orders (l.take k):=by grind [Ur]
        refine Zc ?_;refine ZC 7 mixed Ze Ze (Zc ?_);rw [<- hmT];refine (c9 _ rfl).useH (K3 ?_);refine ⟨k+1,Za,Za,Weak.mk ?_⟩
        try simp only [lT]
        simp (disch:=omega) only [eO,go_sem,seval]
      ·have eT:Xo x.types (l.take (k+1))=Xo x.types (l.take k):=by grind [Uy]
       have eO:Xm x.orders (l.take (k+1))=Xm x.orders (l.take k):=by grind [Ur]
       rcases hkd with rfl | rfl
       ·simp (disch:=omega) only [Zn,go_sem,seval];exact ⟨k+1,Za,Za,Weak.mk (by simp (disch:=omega) only [eT,eO,go_sem,seval])⟩
       ·simp (disch:=omega) only [Zn,go_sem,seval];exact ⟨k+1,Za,Za,Weak.mk (by simp (disch:=omega) only [eT,eO,go_sem,seval])⟩
     ·have hkl:k=l.length:=Za
      subst hkl;rw [Yd];have cA:=HW x.apart l 5 x.apart_c c Za hl;have cB:=HW x.before l 6 x.before_c c Za hl;refine ZC 9 mixed Ze Ze (Zc ?_);refine Zo (cA) (Zc ?_);refine Zo (cB) (Zc ?_);rw [<- lT l,<- lO l];refine Zp (Weak.fz (o:=2) (by rfl)) ?_;refine Zp (Weak.fz (o:=3) (by rfl)) (Zg [] _ _ _ _ (US ?_));exact we (by simp (disch:=omega) only [Zm,go_sem,seval])
theorem LN (o:Ord) (a:Int) (w:List Itm) (d:Bool) (hw:w.length<=1048576):PC 28 [.p (Yj o),.p (.int .i64 a),.p (.list d (w.map Yb))] (Yj (VU o a w)):=by
 refine Zd Tryz.func28 rfl Zis ?_;have n1:(0<=L6 w ⟨1,a⟩)=((⟨1,a⟩:Itm)∈w):=propext Ud;have n2:(0<=L6 w ⟨2,a⟩)=((⟨2,a⟩:Itm)∈w):=propext Ud;have n4:(0<=L6 w ⟨4,a⟩)=((⟨4,a⟩:Itm)∈w):=propext Ud;have n10:(0<=L6 w ⟨10,a⟩)=((⟨10,a⟩:Itm)∈w):=propext Ud
 by_cases h1:(⟨1,a⟩:Itm)∈w<;>by_cases h2:(⟨2,a⟩:Itm)∈w<;>by_cases h4:(⟨4,a⟩:Itm)∈w<;>by_cases h10:(⟨10,a⟩:Itm)∈w
 all_goals
  simp (disch:=omega) only [Tryz.f28,go_sem,seval,↓reduceIte];refine (XV w d ⟨1,a⟩ hw).use ?_;simp (disch:=omega) only [n1,h1,go_sem,seval,↓reduceIte];refine (XV w d ⟨2,a⟩ hw).use ?_;simp (disch:=omega) only [n2,h2,go_sem,seval,↓reduceIte];refine (XV w d ⟨4,a⟩ hw).use ?_;simp (disch:=omega) only [n4,h4,go_sem,seval,↓reduceIte];refine (XV w d ⟨10,a⟩ hw).use ?_;simp (disch:=omega) only [n10,h10,VU,h1,h2,h4,go_sem,seval,↓reduceIte]
def oI : Typ:=⟨[],0,0,0,true,[],0,0,0,0,0,0,0,0,0⟩
theorem NZ (t:Typ) (a:Int) (w:List Itm) (d:Bool) (hw:w.length<=1048576) (hc:t.cap.length<=1048576):PC 29 [.p (X4 t),.p (.int .i64 a),.p (.list d (w.map Yb))] (X4 (Va t a w)):=by
 refine UU [3,8] Tryz.func29 rfl Zit ?_;have n3:(0<=L6 w ⟨3,a⟩)=((⟨3,a⟩:Itm)∈w):=propext Ud;have n7:(0<=L6 w ⟨7,a⟩)=((⟨7,a⟩:Itm)∈w):=propext Ud;have n8:(0<=L6 w ⟨8,a⟩)=((⟨8,a⟩:Itm)∈w):=propext Ud;have n9:(0<=L6 w ⟨9,a⟩)=((⟨9,a⟩:Itm)∈w):=propext Ud
 by_cases h3:(⟨3,a⟩:Itm)∈w
 ·simp (disch:=omega) only [Tryz.f29,go_sem,seval];refine (XV w d ⟨3,a⟩ hw).use ?_;simp (disch:=omega) only [n3,h3,go_sem,seval];refine Zp (Weak.ofNil 7 1 (by simp (disch:=omega) only [go_sem,seval]) Zb (Weak.refl _ _ _)) ?_;refine Zg [] _ _ _ _ (Zc ?_);refine Z0 [] [1,2,3,6] (fun k:Nat=> [(7,.sl 2 0 (List.replicate k (1000:Int)).length (List.replicate k (1000:Int)).length),(8,.p (.int .i64 k))]) (fun k=> [Yh t,Yh oI,.elems 1 ((List.replicate k (1000:Int)).map eI)]) (fun k=>k<=t.cap.length) (fun k=>t.cap.length-k) 0 Zb (Weak.mk ?_) ?_
  ·simp (disch:=omega) only [Yh,oI,go_sem,seval]
  ·intro k hk
   have hlr:(List.replicate k (1000:Int)).length=k:=Zb
   have hsn:List.replicate (k+1) (1000:Int)=List.replicate k (1000:Int)++ [1000]:=by rw [EK]
   generalize hm:List.replicate k (1000:Int)=m at hlr hsn ⊢;simp (disch:=omega) only [Yh,oI,go_sem,seval];refine ZR ?_ ?_<;>intro h
   ·exact ⟨k+1,Za,Za,Weak.mk (by rw [hsn];simp (disch:=omega) only [go_sem,seval])⟩
   ·have hk2:k=t.cap.length:=Za
    subst hk2;subst hm;refine Zp (Weak.fz (o:=2) (by rfl)) (Zg [] _ _ _ _ (US ?_))
    by_cases h7:(⟨7,a⟩:Itm)∈w<;>by_cases h8:(⟨8,a⟩:Itm)∈w<;>by_cases h9:(⟨9,a⟩:Itm)∈w
    all_goals
     refine (XV w d ⟨7,a⟩ hw).use ?_;simp (disch:=omega) only [n7,h7,go_sem,seval,↓reduceIte];refine (XV w d ⟨8,a⟩ hw).use ?_;simp (disch:=omega) only [n8,h8,go_sem,seval,↓reduceIte];refine (XV w d ⟨9,a⟩ hw).use ?_;simp (disch:=omega) only [n9,h9,Va,h3,h7,h8,go_sem,seval,↓reduceIte]
 ·simp (disch:=omega) only [Tryz.f29,go_sem,seval];refine (XV w d ⟨3,a⟩ hw).use ?_;simp (disch:=omega) only [n3,h3,go_sem,seval];refine Zg [] _ _ _ _ (Zc ?_)
  by_cases h7:(⟨7,a⟩:Itm)∈w<;>by_cases h8:(⟨8,a⟩:Itm)∈w<;>by_cases h9:(⟨9,a⟩:Itm)∈w
  all_goals
   refine (XV w d ⟨7,a⟩ hw).use ?_;simp (disch:=omega) only [n7,h7,go_sem,seval,↓reduceIte];refine (XV w d ⟨8,a⟩ hw).use ?_;simp (disch:=omega) only [n8,h8,go_sem,seval,↓reduceIte];refine (XV w d ⟨9,a⟩ hw).use ?_;simp (disch:=omega) only [n9,h9,Va,h3,h7,h8,go_sem,seval,↓reduceIte]
theorem Ot {l:List Itm} {k:Nat} (hk:k<l.length):L6 l (nth l k)=(k:Int)↔nth l k ∉ l.take k:=by
 constructor
 ·grind [ZN,L6,UE]
 ·intro h;refine Rk hk rfl fun j hj e=>h ?_
  grind [Zh,ZN]
theorem LV (x:Inst) (hs:ISz x) (hcap: ∀t∈x.types,t.cap.length<=1048576) (l:List Itm) (c:Bool) (hl:l.length<=1048576):PT 11 [.p (Zv x),.p (.list c (l.map Yb))] [.p (Zv (Ku x l)),.p (.int .i64 (VT x l))]:=by
 have s1:=hs.ord;have s2:=hs.typ;have s3:=hs.ap;have s4:=hs.be;refine Zf [9,13,17] Tryz.func11 rfl Zic ?_;simp (disch:=omega) only [Tryz.f11,go_sem,seval];have zI:Zv zeroI= .agg [.list true [],.list true [],.list true [],.list true [],.list true [],.list true []]:=rfl;refine Zl [1,2,4] (fun k:Nat=> [(6,.p (.int .i64 k))]) (fun _=> [Zi x,Zi zeroI]) (fun k=>k<=l.length/\ ∀j,j<k->WC x l j=0) (fun k=>l.length-k) 0 Zb (Weak.mk ?_) ?_
 ·simp (disch:=omega) only [Zi,zeroI,Zn,go_sem,seval]
 ·rintro k ⟨hk,hno⟩;refine DW ?_;refine cD ?_ ?_<;>intro h<;>simp (disch:=omega) only [Sh.out h,go_sem,seval,↓reduceIte]
  ·have hk2:k<l.length:=Za
   refine Xe (Zc ?_);refine Zo (NV x hs (nth l k)) (Zc ?_);refine cD ?_ ?_<;>intro h2<;>simp (disch:=omega) only [Sh.out h2,go_sem,seval,↓reduceIte]
   ·have h3:XN x (nth l k)=false:=by grind
    have e0:WC x l k=7:=by rw [WC,h3];rfl
    have e:VT x l=7:=by grind [Aj]
    have r:Ku x l=zeroI:=by rw [Ku,e];rfl
    simp only [e,r,zeroI,Zn];exact we
   ·have h3:XN x (nth l k)=true:=by grind
    refine (XV l c (nth l k) hl).use (Zc ?_);refine ZR ?_ ?_<;>intro h4
    ·have h5:nth l k∈l.take k:=J0 fun h=>h4 ((Ot hk2).2 h)
     have e0:WC x l k=6:=by simp_all [WC]
     have e:VT x l=6:=by grind [Aj]
     have r:Ku x l=zeroI:=by rw [Ku,e];rfl
     simp only [e,r,zeroI,Zn];exact we
    ·have h5:nth l k ∉ l.take k:=(Ot hk2).1 (Z5.1 h4);exact ⟨k+1,⟨Za,Zr.2 ⟨hno,V1.2 ⟨h3,h5⟩⟩⟩,Za,wk⟩
  ·have hkl:k=l.length:=Za
   subst hkl;have e:VT x l=0:=I6 hno
   have r:Ku x l=Zm x l:=by rw [Ku,if_pos e]
   rw [e,r];clear hk h;refine O2 11 12 _ [.cells [.p (.list true []),.p (.list true []),.p (.list true []),.p (.list true []),.p (.list true []),.p (.list true [])]] (.ptr 2 0) mixed Ze Ze (by decide) rfl rfl Zb (fun fr'=>by simp (disch:=omega) only [go_sem,seval]) (Zc ?_);refine Zo (Gh x.apart l 5 x.apart_c c Za hl) (Zc ?_);refine Zo (Gh x.before l 6 x.before_c c Za hl) (Zc ?_);refine Zp (Weak.nilC (o:=2) (j:=3) 16 rfl rfl Zb) ?_;refine Zg [13,17] _ _ _ _ ?_
   simp (disch:=omega) only [Z1,ZW,ZL,Zz,go_sem,seval];obtain ⟨os,hos⟩: ∃os,os=Xm x.orders l:=⟨_,rfl⟩
   have hol:os.length=x.orders.length:=by rw [hos,WT]
   refine Z0 [] [1,2,4,7] (fun q:Nat×List Ord=> [(8,.p (.int .i64 q.1))]) (fun q=> [Zi x,Zi zeroI,.cells [.p (.list x.net.places_c (x.net.places.map eS)),.p (.list x.net.arcs_c (x.net.arcs.map VS)),.p (.list true []),.sl 3 0 q.2.length q.2.length,.p (.list false ((Y4 x.apart l 5 x.apart.length).map eP)),.p (.list false ((Y4 x.before l 6 x.before.length).map eP))],.elems 16 (q.2.map Yj)]) (fun q=>q.1<=x.orders.length/\q.2=os.take q.1) (fun q=>x.orders.length-q.1) (0,[]) ⟨Zb,Zb⟩ (Weak.mk ?_) ?_
   ·simp (disch:=omega) only [Zi,zeroI,Zn,go_sem,seval]
   ·rintro ⟨k,m⟩ ⟨hk,hm⟩;simp only at hk hm
    have hml:m.length=k:=by grind
    refine DW ?_;refine cD ?_ ?_<;>intro h<;>simp (disch:=omega) only [Sh.out h,go_sem,seval,↓reduceIte]
    ·have hk2:k<x.orders.length:=Za
     have htk:os.take (k+1)=os.take k++ [VU (nth x.orders k) k l]:=by
      rw [X0 Za]
      congr 2
      rw [<- Zh Za,hos,Z6 hk2]
     refine ZC 11 mixed Ze Ze (Zc ?_);refine Zo (LN (nth x.orders k) k l c hl) (Zc ?_);exact ⟨(k+1,m++ [VU (nth x.orders k) k l]),⟨Za,by grind⟩,Za,Weak.mk (by simp (disch:=omega) only [Zn,go_sem,seval])⟩
    ·have hkl:k=x.orders.length:=Za
     have hmo:m=os:=by grind
     subst hmo;clear hm hk h;refine Zp (Weak.nilC (o:=2) (j:=2) 14 rfl rfl Zb) ?_;refine Zg [17] _ _ _ _ ?_;simp (disch:=omega) only [Z1,ZW,ZL,Zz,go_sem,seval];obtain ⟨ts,hts⟩: ∃ts,ts=Xo x.types l:=⟨_,rfl⟩
     have htl:ts.length=x.types.length:=by rw [hts,Vr]
     refine Z0 [] [1,2,4,7] (fun q:Nat×List Typ=> [(9,.p (.int .i64 q.1))]) (fun q=> [Zi x,Zi zeroI,.cells [.p (.list x.net.places_c (x.net.places.map eS)),.p (.list x.net.arcs_c (x.net.arcs.map VS)),.sl 4 0 q.2.length q.2.length,.sl 3 0 m.length m.length,.p (.list false ((Y4 x.apart l 5 x.apart.length).map eP)),.p (.list false ((Y4 x.before l 6 x.before.length).map eP))],.elems 16 (m.map Yj),.elems 14 (q.2.map X4)]) (fun q=>q.1<=x.types.length/\q.2=ts.take q.1) (fun q=>x.types.length-q.1) (0,[]) ⟨Zb,Zb⟩ (Weak.mk ?_) ?_
     ·simp (disch:=omega) only [Zi,zeroI,Zn,go_sem,seval]
     ·rintro ⟨i,n⟩ ⟨hi,hn⟩;simp only at hi hn
      have hnl:n.length=i:=by grind
      refine DW ?_;refine cD ?_ ?_<;>intro h<;>simp (disch:=omega) only [Sh.out h,go_sem,seval,↓reduceIte]
      ·have hi2:i<x.types.length:=Za
       have htk:ts.take (i+1)=ts.take i++ [Va (nth x.types i) i l]:=by
        rw [X0 Za]
        congr 2
        rw [<- Zh Za,hts,Wl hi2]
       refine ZC 11 mixed Ze Ze (Zc ?_);refine Zo (NZ (nth x.types i) i l c hl (hcap _ (Zt hi2))) (Zc ?_);exact ⟨(i+1,n++ [Va (nth x.types i) i l]),⟨Za,by grind⟩,Za,Weak.mk (by simp (disch:=omega) only [Zn,go_sem,seval])⟩
      ·have hin:i=x.types.length:=Za
       have hnt:n=ts:=by grind
       subst hnt;clear hn hi h;refine Zp (Weak.fz (o:=3) (by rfl)) ?_;refine Zp (Weak.fz (o:=4) (by rfl)) (Zg [] _ _ _ _ (US ?_));exact we (by simp (disch:=omega) only [Zm,hos,hts,go_sem,seval])
theorem kY {α:Type} [Inhabited α] {l:List α} {i:Nat} (h: ¬i<l.length):nth l i=default:=by grind [nth]
theorem ZdJ {os:List Ord} {l:List Itm} (i:Nat):ZX (Xm os l) i=ZX os i:=by
 unfold ZX
 by_cases h:i<os.length
 ·rw [Z6 h];rfl
 grind [kY,WT]
theorem Ob {x:Inst} {l:List Itm} {v:List Vis} (h:Xg x v=0):Xg (Zm x l) v=0:=by
 have hsub1:=Bx x.apart l 5;have hsub2:=Bx x.before l 6
 have e1:v.any (W2 (Zm x l))=v.any (W2 x):=by
  congr 1;funext w;simp [W2,Zm,WT]
 unfold Xg at h ⊢;rw [e1]
 split at h
 ·simp at h
 ·rename_i c1;rw [if_neg c1]
  have hin: ∀w∈v,w.order.toNat<x.orders.length:=fun w hw=>by
   have h5: ¬(v.any (W2 x))=true:=fun e=>c1 (.inr e)
   have h6:W2 x w=false:=by
    cases hb:W2 x w with
    | false=>rfl
    | true=>exact absurd (WH.2 ⟨w,hw,hb⟩) h5
   simp [W2] at h6;omega
  have e2:(v.any fun w=>(nth (Zm x l).orders w.order.toNat).off)=v.any fun w=>(nth x.orders w.order.toNat).off:=by
   rw [Wp,WH,WH]
   constructor
   ·rintro ⟨w,hw,h⟩;exact ⟨w,hw,by rw [show (Zm x l).orders=Xm x.orders l from rfl,Z6 (hin w hw)] at h;exact h⟩
   ·rintro ⟨w,hw,h⟩;exact ⟨w,hw,by rw [show (Zm x l).orders=Xm x.orders l from rfl,Z6 (hin w hw)];exact h⟩
  rw [e2]
  split at h
  ·simp at h
  ·rename_i c2;rw [if_neg c2]
   split at h
   ·simp at h
   ·rename_i c3;rw [if_neg c3]
    have e3:v.all (pairB (Zm x l).orders v)=v.all (pairB x.orders v):=by
     congr 1;funext w;simp only [pairB];rw [show (Zm x l).orders=Xm x.orders l from rfl,ZdJ]
    rw [e3]
    split at h
    ·simp at h
    ·rename_i c4;rw [if_neg c4]
     split at h
     ·simp at h
     ·rename_i c5
      have c5': ¬((Zm x l).apart.any fun p=>hasO v p.1&&hasO v p.2)=true:=fun hh=>by
       obtain ⟨p,hp,hb⟩:=WH.1 hh;exact c5 (WH.2 ⟨p,hsub1.subset hp,hb⟩)
      rw [if_neg c5']
      split at h
      ·simp at h
      ·rename_i c6;rw [if_neg];intro hh;refine c6 ?_;obtain ⟨p,hp,hb⟩:=WH.1 hh;exact WH.2 ⟨p,hsub2.subset hp,hb⟩
structure WkT (t t':Typ) (sp sp':List Stp):Prop where
 len:sp'.length=sp.length
 cls:t.cls<=t'.cls
 drv:t.drive<=t'.drive
 rst:t'.rest=t.rest
 src:t'.src=t.src
 dst:t'.dst=t.dst
 prf:t'.prof=t.prof
 opn:t'.opn=t.opn
 stp: ∀k,k<sp.length-> ∃c,(nth sp k).cls<=c/\nth sp' k= { nth sp k with cls:=c }
theorem bB {x y:Inst} {t t' sp sp' k L b} (hn:y.net=x.net) (h:WkT t t' sp sp') (hk:k<=sp.length) (he:(nxtF x t sp k L b).2=0):nxtF y t' sp' k L b=nxtF x t sp k L b:=by
 have hplc: ∀k,k<=sp.length->V7 t' sp' k=V7 t sp k:=fun k hk=>by
  unfold V7
  split
  ·exact h.src
  ·obtain ⟨c,_,e⟩:=h.stp (k-1) Za;rw [e]
 have hto:OM t' sp' k=OM t sp k:=by
  unfold OM;rw [h.len]
  split
  ·exact h.dst
  ·obtain ⟨c,_,e⟩:=h.stp k Za;rw [e]
 have hd:ZK t' L b=ZK t L b:=by simp [ZK,h.rst]
 unfold nxtF at he ⊢
 have hg:Y2 y t' sp' k (ZK t' L b)=Y2 x t sp k (ZK t L b):=by rw [Y2,Y2,hn,h.prf,hplc k hk,hto,hd]
 rw [hg,hd];have h1:=h.cls;have h2:=h.drv;unfold WB at he ⊢;rw [h.len]
 split at he
 ·simp at he
 ·rename_i c1;rw [if_neg c1,if_neg c1]
  split at he
  ·grind
  ·rename_i c2;rw [if_neg c2,if_neg c2];obtain ⟨c,hc,e⟩:=h.stp k Za
   grind
theorem DO {x y:Inst} {t t' sp sp'} (hn:y.net=x.net) (h:WkT t t' sp sp'): ∀(bs:List Bool) (k:Nat) (L z:Lab),k+bs.length<=sp.length+1->Wc (XA x t sp) k L bs=some z->Wc (XA y t' sp') k L bs=some z
 | [],k,L,z,_,e=>e
 | b::bs,k,L,z,hk,e=>by
  simp at hk;rw [Wc] at e ⊢;unfold XA at e ⊢
  by_cases c:(nxtF x t sp k L b).2=0
  ·rw [bB hn h Za c];rw [if_pos c] at e ⊢;exact DO hn h bs (k+1) _ z Za e
  grind
theorem iZ {fin:Lab->Int} : ∀ {l:List Lab},W4 fin none l=none↔l= []
 | []=>by simp [W4]
 | a::l=>by
  rw [W4];obtain ⟨z,e,_⟩:=VA fin l a;rw [e];simp
theorem O9 {x t sp st r} :(Yn x t sp st r).2=0↔ ∃bs∈XD r (sp.length+1),∃z,Wc (XA x t sp) 0 (labF t st) bs=some z:=by
 unfold Yn
 cases hf:W4 Wh none ((XD r (sp.length+1)).filterMap (Wc (XA x t sp) 0 (labF t st))) with
 | some L =>
  simp only [true_iff];have:=bestF_len.fmL_mem _ _ hf
  grind
 | none =>
  rw [iZ] at hf;simp only
  constructor
  ·intro h
   have hm:YQ r (sp.length+1)∈XD r (sp.length+1):=by
    grind [XD,YQ,fromB_next]
   simp_all [Yw]
  grind
theorem O8 {x y:Inst} {t t' sp sp'} {st:Int} {r:List Bool} (hn:y.net=x.net) (h:WkT t t' sp sp') (hr:r.length<=sp.length+1) (h0:(Yn x t sp st r).2=0):(Yn y t' sp' st r).2=0:=by
 rw [O9] at h0 ⊢;obtain ⟨bs,hbs,z,hz⟩:=h0;rw [h.len]
 have hl:bs.length=sp.length+1:=by
  obtain ⟨q,hq,rfl⟩:=XC.1 hbs;have:=bestF_len.fromB_len _ _ hq
  grind
 have el:labF t' st=labF t st:=by simp [labF,h.opn]
 grind [DO]
theorem lD {x:Inst} {l:List Itm} {v:List Vis} {n i:Nat} (hi:i<x.orders.length):EQ (Zm x l) v n i=EQ x v n i:=by
 unfold EQ;rw [show (Zm x l).orders=Xm x.orders l from rfl,Z6 hi];rfl
theorem Tq {x:Inst} {l:List Itm} {v:List Vis} {n:Nat} :Wf (Zm x l) v n=Wf x v n:=by
 unfold Wf;rw [show (Zm x l).types=Xo x.types l from rfl,JM];refine W0 fun j _=> ?_;unfold DX;rw [show (Zm x l).orders.length=x.orders.length from WT _ _]
 congr 1
 refine W0 fun i hi=> ?_;have hi:=ZM.1 hi;rw [lD hi,show (Zm x l).orders=Xm x.orders l from rfl,Z6 hi];rfl
theorem T7 {a c:List Int} :VV a c=true↔a.length=c.length/\ ∀i,i<a.length->nth a i<=nth c i:=by
 grind [VV]
theorem dF {t:Typ} {a:Int} {l:List Itm} {b:List Int} (hc: ∀n∈t.cap,n<=1000) (h:VV b t.cap=true):VV b (Va t a l).cap=true:=by
 grind [T7,Va,Zt]
theorem OQ {t:Typ} {s:Int} (h:Yk t s=true):Yk t 0=true:=by
 grind [Yk]
theorem T4 {x:Inst} {l:List Itm} {r:Rte} (hx:InstOk x) (hI: ∀v∈l,XN x v=true) (h:Xw x r=0):Xw (Zm x l) r=0:=by
 unfold Xw at h ⊢
 have hr:XW x r=0:=by
  omega
 rw [if_pos hr] at h;unfold XW at hr
 split at hr
 ·simp at hr
 ·rename_i c1;have c1:0<=r.typ/\r.typ<(x.types.length:Int):=Z5.1 c1
  split at hr
  ·omega
  ·rename_i c2;have c2:Xg x r.visits=0:=Z5.1 c2;have hsq:=VO c2
   split at hr
   ·simp at hr
   ·rename_i c3
    split at hr
    ·simp at hr
    ·rename_i c4
     split at hr
     ·simp at hr
     ·rename_i c5;have c5:=Z5.1 c5
      have htl:r.typ.toNat<x.types.length:=Za
      have ety:ZE (Zm x l) r=Va (ZE x r) r.typ l:=by
       unfold ZE;rw [show (Zm x l).types=Xo x.types l from rfl,Wl htl]
       grind
      have hty:=hx.types.2 _ htl;have hlt:=Tb (l:=l) htl hty;have htk:Ux x.net x.types r.typ.toNat:=hty;unfold Ux at htk;obtain ⟨⟨⟨⟨⟨⟨⟨⟨_,_⟩,_⟩,_⟩,hcap⟩,_⟩,hcl⟩,G6⟩,_⟩:=htk;have hcap':=(Dq.1 hcap).2.2
      have hsp: ∀w∈r.visits,∃c,(Xj x w).cls<=c/\Xj (Zm x l) w= { Xj x w with cls:=c } :=fun w hw=>by
       obtain ⟨w1,w2⟩:=hsq.inr w hw
       have hi:w.order.toNat<x.orders.length:=Za
       have hord:=hx.orders.2 _ hi;have hpk:=hord.pstp;have hdk:=hord.dstp;simp only [stpOk,Zs] at hpk hdk;unfold Xj;rw [show (Zm x l).orders=Xm x.orders l from rfl,Z6 hi]
       split
       ·simp only [VU]
        grind
       ·simp only [VU]
        grind
      have hw:WkT (ZE x r) (ZE (Zm x l) r) (ZO x r.visits) (ZO (Zm x l) r.visits):=by
       rw [ety];refine ⟨by simp [ZO],?_,?_,rfl,rfl,rfl,rfl,rfl,fun k hk=> ?_⟩
       ·simp only [Va];split
        ·exact hcl.2
        omega
       ·simp only [Va];split
        ·have:=G6.1;simp [rng] at this;exact this.2
        omega
       ·simp [ZO] at hk
        have e: ∀y:Inst,nth (ZO y r.visits) k=Xj y (nth r.visits k):=fun y=>by
         grind [Zh,ZO]
        grind [Zt]
      have hr':XW (Zm x l) r=0:=by
       unfold XW;rw [if_neg (by grind [Zm,Vr]),if_neg (by rw [Ob c2];simp)];rw [if_neg,if_neg,if_neg (fun hh=>hh c5)]
       ·grind [Qn,ZE,Tq,dF]
       ·intro hh;refine c3 ?_;obtain ⟨w,hw2,hb⟩:=WH.1 hh;refine WH.2 ⟨w,hw2,?_⟩;obtain ⟨w1,w2⟩:=hsq.inr w hw2
        have hi:w.order.toNat<x.orders.length:=Za
        rw [show (Zm x l).orders=Xm x.orders l from rfl,Z6 hi,ety] at hb
        cases ha:Yk (ZE x r) (nth x.orders w.order.toNat).skills with
        | false=>rfl
        | true =>
         have e: ∀s,Yk (Va (ZE x r) r.typ l) s=Yk (ZE x r) s:=fun s=>rfl
         grind [VU,OQ]
      rw [if_pos hr'];exact O8 (x:=x) (y:=Zm x l) (t:=ZE x r) (t':=ZE (Zm x l) r) (sp:=ZO x r.visits) (sp':=ZO (Zm x l) r.visits) rfl hw (by grind [ZO]) h
set_option maxRecDepth 60000
theorem SF {α:Type} [Inhabited α] {l:List α} {i j:Nat} {a:α} (h:i<l.length):nth (l.set i a) j=if i=j then a else nth l j:=by
 grind [nth]
theorem sQ {α:Type} [Inhabited α] {l:List α} {j:Nat} {a:α} (h:j<l.length):nth (l++ [a]) j=nth l j:=by
 grind [nth]
theorem LA {α:Type} [Inhabited α] {l:List α} {a:α} :nth (l++ [a]) l.length=a:=by
 grind [nth]
def cfK (a b:Col):Int:=tB [YP a.typ b.typ,YP a.set b.set]
theorem gU {a b:Int} :YP a b<0↔a<b:=by grind [YP]
theorem gV {a b:Int} :YP a b=0↔a=b:=by grind [YP]
theorem Fq {a b:Col} :cfK a b<0↔a.typ<b.typ\/(a.typ=b.typ/\a.set<b.set):=by
 grind [cfK,ES,gV,gU]
theorem qP : Go.Sort.SWO (ltOf cfK) where
 irrefl x:=by grind [ltOf,Fq]
 trans x y z h1 h2:=by simp only [ltOf,Zs,Fq] at *;omega
 ntrans x y z h1 h2:=by grind [ltOf,Fq]
theorem MJ (a b:Col):PC 200 [.p (Xp a),.p (Xp b)] (.int .i64 (cfK a b)):=by
 refine Zd Tryz.func200 rfl Zbv ?_;simp (disch:=omega) only [Tryz.f200,go_sem,seval];refine Xe (Zc ?_);refine Zo (B8 a.typ b.typ) (Zc ?_);refine Zo (B8 a.set b.set) (Zc ?_);refine Zo (tC [YP a.typ b.typ,YP a.set b.set] false Zb) (Zc ?_)
 rfl
theorem uN (xs:List Col) (hl:xs.length<=1048576) {H:List AM.Obj} {o:Nat} (hH:H[o]? =some (.elems 7 (xs.map Xp))) :
  ACalls Tryz.prog 123 [.sl o 0 xs.length xs.length,.fn (.func 200) [] []] H fun y H'=>y= .tup []/\ ∃ys:List Col,ys.Perm xs/\ys.Pairwise (fun a b=> ¬cfK b a<0)/\H'=H.set o (.elems 7 (ys.map Xp)) :=
 ACalls.sortFunc Oj jV 7 Tryz.isAgg107 Tryz.sizeOf107 Xp (fun x=>⟨_,rfl,rfl,rfl⟩) cfK qP 200 MJ xs Za hH
def kd (c:Col):Kd:=⟨c.typ,c.set⟩
def Bst (l:List Col) (k:Nat) (d:Col):Prop:= ∃j,j<k/\nth l j=d/\ ∀i,i<k->kd (nth l i)=kd d->d.price<(nth l i).price\/(d.price=(nth l i).price/\j<=i)
structure Chp (l:List Col) (k:Nat) (m:List (Kd×Int)) (out:List Col):Prop where
 len:out.length<=k
 at1: ∀i,i<out.length->mq m (kd (nth out i))=some (i:Int)
 at2: ∀q v,mq m q=some v-> ∃i,i<out.length/\v=i/\kd (nth out i)=q
 bst: ∀i,i<out.length->Bst l k (nth out i)
 all: ∀j,j<k-> ∃i,i<out.length/\kd (nth out i)=kd (nth l j)
theorem gK (l:List Col):Chp l 0 [] []:=⟨Zb,fun i h=>by simp at h,fun q v h=>by simp [mq] at h,fun i h=>by simp at h,fun j h=>by simp at h⟩
theorem qU {l:List Col} {k:Nat} {m m':List (Kd×Int)} {out:List Col} (h:Chp l k m out) (hn:mq m (kd (nth l k))=none) (hm: ∀q,mq m' q=if q=kd (nth l k) then some (out.length:Int) else mq m q):Chp l (k+1) m' (out++ [nth l k]):=by
 have hno: ∀i,i<out.length->kd (nth out i)≠kd (nth l k):=fun i hi e=>by
  have:=h.at1 i hi
  grind
 have split: ∀i,i<(out++ [nth l k]).length->(i<out.length/\nth (out++ [nth l k]) i=nth out i)\/(i=out.length/\nth (out++ [nth l k]) i=nth l k):=fun i hi=>by
  simp only [ZG,ZD,ZF] at hi;rcases Y9 i out.length with h1 | h1
  ·grind [sQ]
  ·obtain rfl:i=out.length:=Za
   exact .inr ⟨rfl,LA⟩
 refine ⟨by have:=h.len;simp;omega,fun i hi=> ?_,fun q v hq=> ?_,fun i hi=> ?_,fun j hj=> ?_⟩
 ·rcases split i hi with ⟨h1,e⟩ | ⟨rfl,e⟩
  ·rw [e,hm,if_neg (hno i h1)];exact h.at1 i h1
  grind
 ·rw [hm] at hq
  split at hq
  ·grind [LA]
  ·obtain ⟨i,h1,h2,h3⟩:=h.at2 q v hq
   grind
 ·rcases split i hi with ⟨h1,e⟩ | ⟨rfl,e⟩
  ·rw [e];obtain ⟨j,h2,h3,h4⟩:=h.bst i h1;refine ⟨j,Za,h3,fun p hp he=> ?_⟩
   grind
  ·rw [e];refine ⟨k,Za,rfl,fun p hp he=> ?_⟩;rcases Cu.1 hp with h5 | rfl
   ·obtain ⟨i,h6,h7⟩:=h.all p h5
    grind
   omega
 ·rcases Cu.1 hj with h5 | rfl
  ·obtain ⟨i,h6,h7⟩:=h.all j h5
   grind
  ·exact ⟨out.length,Zb,by rw [LA]⟩
theorem qV {l:List Col} {k:Nat} {m:List (Kd×Int)} {out:List Col} {i:Nat} (h:Chp l k m out) (hi:i<out.length) (hk:kd (nth out i)=kd (nth l k)):Chp l (k+1) m (if (nth l k).price<(nth out i).price then out.set i (nth l k) else out):=by
 have hun: ∀j,j<out.length->kd (nth out j)=kd (nth l k)->j=i:=fun j hj e=>by
  have h1:=h.at1 j hj;have h2:=h.at1 i hi
  grind
 split
 ·rename_i hp
  have key: ∀j,kd (nth (out.set i (nth l k)) j)=kd (nth out j):=fun j=>by
   grind [SF]
  refine ⟨by have:=h.len;simp;omega,fun j hj=> ?_,fun q v hq=> ?_,fun j hj=> ?_,fun j hj=> ?_⟩
  ·rw [key];exact h.at1 j (by grind)
  ·obtain ⟨j,h1,h2,h3⟩:=h.at2 q v hq
   grind
  ·simp only [U0] at hj;rw [SF hi]
   split
   ·rename_i e;subst e;refine ⟨k,Za,rfl,fun p hp2 he=> ?_⟩;rcases Cu.1 hp2 with h5 | rfl
    ·obtain ⟨j,h6,h7,h8⟩:=h.bst i hi
     grind
    omega
   ·rename_i e;obtain ⟨p,h2,h3,h4⟩:=h.bst j hj;refine ⟨p,Za,h3,fun p' hp' he=> ?_⟩
    grind
  ·rcases Cu.1 hj with h5 | rfl
   ·obtain ⟨p,h6,h7⟩:=h.all j h5
    grind
   grind
 ·rename_i hp;refine ⟨by have:=h.len;omega,h.at1,h.at2,fun j hj=> ?_,fun j hj=> ?_⟩
  ·obtain ⟨p,h2,h3,h4⟩:=h.bst j hj;refine ⟨p,Za,h3,fun p' hp' he=> ?_⟩
   grind
  ·rcases Cu.1 hj with h5 | rfl
   ·exact h.all j h5
   grind
structure Cheap (l ys:List Col):Prop where
 asc:ys.Pairwise fun a b=>cfK a b<0
 bst: ∀d∈ys,Bst l l.length d
 all: ∀c∈l,∃d∈ys,kd d=kd c
theorem qT {l:List Col} {m:List (Kd×Int)} {out ys:List Col} (h:Chp l l.length m out) (hp:ys.Perm out) (ha:ys.Pairwise fun a b=> ¬cfK b a<0):Cheap l ys:=by
 have hnd:out.Pairwise fun a b=>kd a≠kd b:=by
  rw [Q9];intro i j hi hj hij e;have h1:=h.at1 i hi;have h2:=h.at1 j hj
  grind [Zh]
 have hnd2:ys.Pairwise fun a b=>kd a≠kd b:=(hp.pairwise_iff fun h e=>h e.symm).2 hnd;refine ⟨(hnd2.and ha).imp fun {a b} hh=> ?_,fun d hd=> ?_,fun c hc=> ?_⟩
 ·rw [Fq] at hh ⊢
  grind [kd]
 ·obtain ⟨i,hi,rfl⟩:=ZN.1 (hp.mem_iff.1 hd);rw [<- Zh hi];exact h.bst i hi
 ·obtain ⟨j,hj,rfl⟩:=ZN.1 hc;obtain ⟨i,hi,e⟩:=h.all j hj
  grind [Zh]
theorem Ph (l:List Col) (c:Bool) (hl:l.length<=8192):ACalls Tryz.prog 166 [.p (.list c (l.map Xp))] [] fun y H'=> ∃ys:List Col,(Cheap l ys/\ys.length<=l.length)/\y= .p (.list false (ys.map Xp))/\H'= []:=by
 refine Zf [15] Tryz.func166 rfl Za4 ?_;simp (disch:=omega) only [Tryz.f166,go_sem,seval];refine Zl [3,11,12] (fun q:Nat×List (Kd×Int)×List Col=> [(4,.sl 1 0 q.2.2.length q.2.2.length),(13,.p (.int .i64 q.1))]) (fun q=> [.map (q.2.1.map (MS dO)),.elems 7 (q.2.2.map Xp)]) (fun q=>q.1<=l.length/\Chp l q.1 q.2.1 q.2.2) (fun q=>l.length-q.1) (0,[],[]) ⟨Zb,gK l⟩ (Weak.ofNil 4 7 (by simp (disch:=omega) only [go_sem,seval]) Zb (Weak.mk ?_)) ?_
 ·simp (disch:=omega) only [Zn,ZF,go_sem,seval]
 ·rintro ⟨k,m,out⟩ ⟨hk,hC⟩;simp only at hk hC;have hol:=hC.len;refine Zc ?_;refine cD ?_ ?_<;>intro h1<;>simp (disch:=omega) only [Sh.out h1,go_sem,seval,↓reduceIte]
  ·have hk2:k<l.length:=Za
   refine kL (l:=m) (k:=kd (nth l k)) kH (fun _ _=>trivial) trivial (by rfl) (Zc ?_)
   cases hq:mq m (kd (nth l k)) with
   | none =>
    simp (disch:=omega) only [Aw,Option.getD_none,go_sem,seval];refine LL (l:=m) (k:=kd (nth l k)) kH (fun _ _=>trivial) trivial (by rfl) fun m' hm' _=> ?_;simp (disch:=omega) only [ZW,go_sem,seval];exact ⟨(k+1,m',out++ [nth l k]),⟨Za,qU hC hq hm'⟩,Za,Weak.mk (by simp (disch:=omega) only [Xs,Zq,Zn,ZG,ZD,ZF,Xl,go_sem,seval])⟩
   | some v =>
    obtain ⟨i,hi,rfl,hkd⟩:=hC.at2 _ _ hq;have hold:=qV hC hi hkd;simp (disch:=omega) only [J5,JX,go_sem,seval];refine Xe ?_;simp (disch:=first | omega | (simp only [ZD,ZF,ZG,ZY,Xh,XI]<;>omega)) only [Vz hi,hi,go_sem,seval,↓reduceIte];refine ZR ?_ ?_<;>intro h2
    ·rw [if_pos h2] at hold;simp (disch:=first | omega | (simp only [ZD,ZF,ZG,ZY,Xh,XI]<;>omega)) only [go_sem,seval];exact ⟨(k+1,m,out.set i (nth l k)),⟨Za,hold⟩,Za,Weak.mk (by simp (disch:=omega) only [V4,U0,go_sem,seval])⟩
    ·rw [if_neg h2] at hold;exact ⟨(k+1,m,out),⟨Za,hold⟩,Za,wk⟩
  ·have hkl:k=l.length:=Za
   subst hkl;refine (uN out Za (H:=_) (o:=1) rfl).mono ?_;rintro y H' ⟨rfl,ys,g1,g2,rfl⟩;have hyl:ys.length=out.length:=g1.length_eq;refine K3 ?_;rw [<- hyl];refine Zp (Weak.fz (o:=1) (by rfl)) (Zg [] _ _ _ _ (US ?_));exact ⟨.p (.list false (ys.map Xp)),[],wk,ys,⟨qT hC g1 g2,Za⟩,rfl,rfl⟩
def Yt (x:Inst):Nat->Nat
 | 0=>0
 | i+1=>if (nth x.orders i).off=true then Yt x i else Yt x i|||pw i
theorem Nw (x:Inst): ∀i,Yt x i<2^i
 | 0=>by simp [Yt]
 | i+1=>by
  have:=Nw x i
  have h:2^(i+1)=2*2^i:=Za
  rw [Yt]
  split
  ·omega
  ·exact Jb Za (by rw [pw];omega)
theorem Qa (x:Inst): ∀(n i:Nat),(Yt x n).testBit i=(decide (i<n)&& !(nth x.orders i).off)
 | 0,i=>by simp [Yt]
 | n+1,i=>by
  rw [Yt]
  split
  ·rename_i h;rw [Qa x n i]
   by_cases e:i=n
   ·subst e;simp [h]
   ·have:decide (i<n+1)=decide (i<n):=by simp;omega
    rw [this]
  ·rename_i h;rw [AD,Qa x n i,pw,Nat.testBit_two_pow]
   grind
theorem yB (o:Ord):PC 198 [.p (Yj o)] (.bool true):=by
 refine Zd Tryz.func198 rfl Zbt ?_;simp (disch:=omega) only [Tryz.f198,go_sem,seval,↓reduceIte]
theorem Zdy (x:Inst) (hn:x.orders.length<=10):PC 197 [.p (Zv x),.fn (.func 198) [] []] (.int .i64 ((Yt x x.orders.length:Nat):Int)):=by
 refine Zf [] Tryz.func197 rfl Zbs ?_;simp (disch:=omega) only [Tryz.f197,go_sem,seval];refine Zl [1,9,10] (fun k:Nat=> [(5,.p (.int .i64 ((Yt x k:Nat):Int))),(11,.p (.int .i64 k))]) (fun _=> [Zi x]) (fun k=>k<=x.orders.length) (fun k=>x.orders.length-k) 0 Zb (Weak.mk ?_) ?_
 ·have h00:((Yt x 0:Nat):Int)=0:=rfl;simp (disch:=omega) only [h00,Zi,go_sem,seval]
 ·intro k hk;refine Ya ?_;refine cD ?_ ?_<;>intro h1<;>simp (disch:=omega) only [Sh.out h1,go_sem,seval,↓reduceIte]
  ·have hk2:k<x.orders.length:=Za
   have hm:=Nw x k;have hp:2^k<=2^10:=Ys Za Za;have hpw:pw k<=1024:=hp;refine Q1 ?_ ?_<;>intro h2
   ·refine (yB (nth x.orders k)).use (Zc ?_)
    have ho:(nth x.orders k).off=false:=by grind
    exact ⟨k+1,Za,Za,Weak.mk (by simp (disch:=omega) only [Yt,ho,YX,go_sem,seval,↓reduceIte])⟩
   ·have ho:(nth x.orders k).off=true:=by grind
    exact ⟨k+1,Za,Za,Weak.mk (by simp (disch:=omega) only [Yt,ho,go_sem,seval,↓reduceIte])⟩
  ·have hkl:k=x.orders.length:=Za
   subst hkl;exact we
theorem Zc8 (x:Inst) (hn:x.orders.length<=10):PC 164 [.p (Zv x)] (.int .i64 ((Yt x x.orders.length:Nat):Int)):=by
 refine Zd Tryz.func164 rfl Za2 ?_;simp (disch:=omega) only [Tryz.f164,go_sem,seval];refine (Zdy x hn).use ?_;simp (disch:=omega) only [go_sem,seval]
def Rq (S M:Nat):Bool:=(List.range 63).all fun i=> !S.testBit i||M.testBit i
theorem uF (S M:Nat) (hS:S<9223372036854775808):PC 199 [.p (.int .i64 (S:Int)),.p (.int .i64 (M:Int))] (.bool (Rq S M)):=by
 refine Zd Tryz.func199 rfl Zbu ?_;simp (disch:=omega) only [Tryz.f199,go_sem,seval];have hb:=D5 (S:=S) (M:=M) hS
 have hd:decide (IntKind.i64.wrap ((BitVec.ofInt 64 (S:Int)&&& ~~~BitVec.ofInt 64 (M:Int)).toNat:Int)=0)=((List.range 63).all fun i=> !S.testBit i||M.testBit i):=by
  grind
 exact Zw (fun b=>V.p (PV.bool b)) hd
def rightB (x:Inst) (c:Col):Bool:=decide (0<=c.typ)&&(decide (c.typ<x.types.length)&&(decide (0<c.set)&&(Rq c.set.toNat (Yt x x.orders.length)&&(decide (0<=c.price)&&decide (c.price<=18014398509481984)))))
theorem TU (x:Inst) (c:Col) (hs:c.set<9223372036854775808) (ht:x.types.length<=1048576):PC 165 [.p (Zv x),.p (Xp c),.p (.int .i64 ((Yt x x.orders.length:Nat):Int))] (.bool (rightB x c)):=by
 refine Zd Tryz.func165 rfl Za3 ?_;simp (disch:=omega) only [Tryz.f165,go_sem,seval];refine gT ?_ ?_<;>intro h1<;>simp (disch:=omega) only [Sh.out h1,go_sem,seval,↓reduceIte]
 ·refine gT ?_ ?_<;>intro h2<;>simp (disch:=omega) only [Sh.out h2,go_sem,seval,↓reduceIte]
  ·refine gT ?_ ?_<;>intro h3<;>simp (disch:=omega) only [Sh.out h3,go_sem,seval,↓reduceIte]
   ·obtain ⟨S,hS⟩: ∃S:Nat,c.set=(S:Int):=⟨c.set.toNat,Za⟩
    have e1:rightB x c=(Rq S (Yt x x.orders.length)&&(decide (0<=c.price)&&decide (c.price<=18014398509481984))):=by
     simp_all [rightB]
    rw [hS];refine (uF S (Yt x x.orders.length) Za).use (Zc ?_);refine gT ?_ ?_<;>intro h4<;>simp (disch:=omega) only [Sh.out h4,go_sem,seval,↓reduceIte]
    ·refine gT ?_ ?_<;>intro h5<;>simp (disch:=omega) only [Sh.out h5,go_sem,seval,↓reduceIte]
     ·grind
     grind
    grind
   grind [rightB]
  grind [rightB]
 ·simp [rightB,h1]
theorem Zpu (n:Nat) (h0:0<n) (h:n<16):PC 174 [.p (.int .u64 n)] (.int .i64 (A2 n)):=by
 refine Zd Tryz.func174 rfl Zbb ?_;simp (disch:=omega) only [Tryz.f174,go_sem,seval];refine (ZdD n h0 h).use ?_;simp (disch:=omega) only [go_sem,seval]
theorem N8 (n:Nat) (h0:0<n) (h:n<16):PC 125 [.p (.int .i64 n)] (.int .i64 (A2 n)):=by
 refine Zd Tryz.func125 rfl ZaE ?_;simp (disch:=omega) only [Tryz.f125,go_sem,seval];refine cD ?_ ?_<;>intro h1<;>simp (disch:=omega) only [Sh.out h1,go_sem,seval]
 ·omega
 ·refine (Zpu n h0 h).use ?_;simp (disch:=omega) only [go_sem,seval]
def skpF (x:Inst) (i:Nat):Int:=if (unsF x i).2=0/\(YA (unsF x i).1).2=0 then (YA (unsF x i).1).1 else-1
def Ym (ys:List Col) (i:Nat):List Col:=ys.filter fun c=>decide (A2 c.set.toNat=(i:Int))
def fstF (n:Nat) (ys:List Col):List (List Col):=(List.range n).map (Ym ys)
theorem bP {ys:List Col} {k i:Nat} (h:k<ys.length):Ym (ys.take (k+1)) i=if A2 (nth ys k).set.toNat=(i:Int) then Ym (ys.take k) i++ [nth ys k] else Ym (ys.take k) i:=by
 grind [X0,Ym,nth]
theorem mF (i:Nat):Ym [] i= []:=rfl
theorem CW (ys:List Col) (k i:Nat):(Ym (ys.take k) i).length<=ys.length:=by
 refine AG (CA _ _) ?_;simp;omega
theorem JR (ys):fstF 0 ys= []:=rfl
theorem Q2 (ys):fstF 1 ys= [Ym ys 0]:=rfl
theorem Q3 (ys):fstF 2 ys= [Ym ys 0,Ym ys 1]:=rfl
theorem Q4 (ys):fstF 3 ys= [Ym ys 0,Ym ys 1,Ym ys 2]:=rfl
theorem Q5 (ys):fstF 4 ys= [Ym ys 0,Ym ys 1,Ym ys 2,Ym ys 3]:=rfl
def C2 : List (List Col)->Nat->List V
 | [],_=> []
 | p::P,o=> .sl o 0 p.length p.length::C2 P (o+1)
def Ic (P:List (List Col)):List AM.Obj:=P.map fun p=> .elems 7 (p.map Xp)
theorem aZ {n0:Nat} {fr:List V} {a b c:AM.Obj} (h0:n0<=4) (n:Nat):Weak n0 fr [a,b,c,.cells (List.replicate n (.p (.list true [])))] fr (a::b::c:: .cells (C2 (List.replicate n []) 4)::Ic (List.replicate n [])):=by
 have hr: ∀(k o:Nat),C2 (List.replicate k []) o=(List.range k).map fun j=>V.sl (o+j) 0 0 0:=fun k=>by
  induction k with
  | zero=>intro o;rfl
  | succ k ih =>
   intro o;rw [KI,C2,ih,List.range_succ_eq_map,Zq,List.map_map];simp only [ZF,Ub,List.cons.injEq,true_and];apply W0
   grind
 have key: ∀k,k<=n->Weak n0 fr [a,b,c,.cells (List.replicate n (.p (.list true [])))] fr (a::b::c:: .cells (((List.range k).map fun j=>V.sl (4+j) 0 0 0)++List.replicate (n-k) (.p (.list true [])))::List.replicate k (.elems 7 [])):=fun k=>by
  induction k with
  | zero=>grind [Weak.refl]
  | succ k ih =>
   intro hk
   have h1:=(ih Za).trans (Weak.nilC (n0:=n0) (fr:=fr) (o:=3) (j:=k) 7 (by rfl) (by
    grind) (by simp;omega))
   have e1:List.length (a::b::c::AM.Obj.cells (((List.range k).map fun j=>V.sl (4+j) 0 0 0)++List.replicate (n-k) (.p (.list true [])))::List.replicate k (AM.Obj.elems 7 []))=4+k:=by simp;omega
   have e2:(((List.range k).map fun j=>V.sl (4+j) 0 0 0)++List.replicate (n-k) (V.p (.list true []))).set k (.sl (4+k) 0 0 0)=((List.range (k+1)).map fun j=>V.sl (4+j) 0 0 0)++List.replicate (n-(k+1)) (V.p (.list true [])):=by
    rw [Aq _ _ Zb,show n-k=(n-(k+1))+1 by omega,KI,Ye,Xs];simp
   grind [EK]
 have:=key n (ZB _)
 simp_all [Ic]
def skF (x:Inst) (n:Nat):List Int:=(List.range n).map (skpF x)
def qK (x:Inst) (m:Int) (f g:V):AM.Obj:= .cells [.p (.list x.net.places_c (x.net.places.map eS)),.p (.list x.net.arcs_c (x.net.arcs.map VS)),.p (.list x.types_c (x.types.map X4)),.p (.list x.orders_c (x.orders.map Yj)),.p (.list x.apart_c (x.apart.map eP)),.p (.list x.before_c (x.before.map eP)),f,g,.mp 1,.p (.int .i64 m)]
theorem Qt {x:Inst} {c:Col} (h:rightB x c=true) (hs:c.set<9223372036854775808): ∃S:Nat,c.set=S/\0<S/\S<2^x.orders.length/\ ∀i,S.testBit i=true->i<x.orders.length/\(nth x.orders i).off=false:=by
 simp only [rightB,ZH,Zs] at h;obtain ⟨_,_,h3,h4,_⟩:=h
 have key: ∀i,c.set.toNat.testBit i=true->i<x.orders.length/\(nth x.orders i).off=false:=fun i hi=>by
  have h63:i<63:=by
   rcases Y9 i 63 with h | h
   ·exact h
   ·have:2^63<=2^i:=Ys Za h
    grind [Ap]
  have:=ZA.1 h4 i (ZM.2 h63)
  grind [Qa]
 refine ⟨c.set.toNat,Za,Za,?_,key⟩;refine Nat.lt_pow_two_of_testBit _ fun i hi=> ?_
 grind
theorem ZdE {S n:Nat} (h0:0<S) (h:S<2^n) (hn:n<=4):A2 S<n/\0<=A2 S:=by
 have:n=0\/n=1\/n=2\/n=3\/n=4:=Za
 unfold A2
 grind
theorem GB (x:Inst) (k:Nat):skF x (k+1)=skF x k++ [skpF x k]:=by simp [skF,Ye]
theorem Kc (x:Inst) (k:Nat):(skF x k).length=k:=by simp [skF]
theorem Zj3 (x:Inst):skF x 0= []:=rfl
theorem No {P:Program} {ko:List Nat} {l:List Oper} {n:Nat} {rem:List Nat} {fr:List V} {H:List AM.Obj} {K:List V->List AM.Obj->Prop} (m:Nat) (Y:V) (Z:List AM.Obj) (hr:Qs l rem= [m]) (h:Zx P (Xa l m) fr H fun y H'=>y=Y/\H'=Z)
  (k:(∀k∈ko,oat Z k=oat H k)/\Cr P ko l n (rem.erase m) (Uz fr (Xa l m).dst Y) Z K):Cr P ko l (n+1) rem fr H K :=
 HK m _ hr h fun y H' hq=>by grind
theorem TT (x:Inst) (l:List Col) (lc:Bool) (hn:x.orders.length<=4) (ht:x.types.length<=1048576) (hu: ∀i:Nat,scoR 1152921504606846976 (unsF x i).1) (hs: ∀c∈l,c.set<9223372036854775808) (hl:l.length<=1048576) :
  ACalls Tryz.prog 119 [.p (Zv x),.p (.list lc (l.map Xp))] [] fun y H'=>(8192<l.length/\y= .tup [.p .nilp,.p (.int .i64 4)]/\H'= [])\/(l.length<=8192/\(∃c∈l,rightB x c=false)/\y= .tup [.p .nilp,.p (.int .i64 2)]/\H'= []) \/
   (l.length<=8192/\(∀c∈l,rightB x c=true)/\ ∃ys,(Cheap l ys/\ys.length<=l.length)/\y= .tup [.ptr 2 0,.p (.int .i64 0)]/\H'= .cells (List.replicate 6 .junk)::(Y1 x (.list false ((fstF x.orders.length ys).map Wu)) (.list false ((skF x x.orders.length).map eI)) (Yt x x.orders.length) []).map (shO 1)):=by
 refine Zf [10] Tryz.func119 rfl Zaz ?_;simp (disch:=omega) only [Tryz.f119,go_sem,seval];refine cD ?_ ?_<;>intro h0<;>simp (disch:=omega) only [Sh.out h0,go_sem,seval]
 ·exact ⟨_,[],wk,.inl ⟨Za,rfl,rfl⟩⟩
 ·refine X2 [1] 4 mixed Ze Ze Ze Zb (Zc ?_);refine Zo (Zc8 x Za) (Zc ?_);refine Xr 1 _ _ Ze (by refine Zc ?_;exact ⟨rfl,rfl⟩) (Wv ?_);simp (disch:=omega) only [show ∀(l:List V),QB (V.mp 1::l)=none from fun _=>rfl,Option.map_none,go_sem,seval];refine Zl [1,2,6,27,28] (fun k:Nat=> [(29,.p (.int .i64 k))]) (fun _=> [Zi x,.map [],qK x ((Yt x x.orders.length:Nat):Int) (.p (.list true [])) (.p (.list true []))]) (fun k=>k<=l.length/\ ∀j,j<k->rightB x (nth l j)=true) (fun k=>l.length-k) 0 ⟨Za,fun j hj=>Za⟩ (Weak.mk ?_) ?_
  ·simp (disch:=omega) only [Zi,qK,go_sem,seval]
  ·rintro k ⟨hk,hr⟩;simp (disch:=omega) only [Zi,qK,go_sem,seval];refine cD ?_ ?_<;>intro h1<;>simp (disch:=omega) only [Sh.out h1,go_sem,seval,↓reduceIte]
   ·have hk2:k<l.length:=Za
    refine Xe (Zc ?_);refine Zo (TU x (nth l k) (hs _ (ZZ hk2)) ht) (Zc ?_)
    cases hq:rightB x (nth l k) with
    | false =>
     refine GG ?_;exact ⟨_,[],wk,.inr (.inl ⟨Za,⟨_,ZZ hk2,hq⟩,rfl,rfl⟩)⟩
    | true =>
     refine BN ?_
     exact ⟨k+1,⟨Za,fun j hj=>by
      grind⟩,Za,wk⟩
   ·have hkl:k=l.length:=Za
    subst hkl
    have hall: ∀c∈l,rightB x c=true:=fun c hc=>by
     obtain ⟨j,hj,rfl⟩:=ZN.1 hc
     grind [Zh]
    clear hr hk h1;generalize ((Yt x x.orders.length:Nat):Int)=m;have hun: ∀i:Nat,PT 167 [.p (Zv x),.p (.int .i64 i)] [.p (Er (unsF x i).1),.p (.int .i64 (unsF x i).2)]:=fun i=>NR x i Za;refine YI (IQ 4 rfl rfl (Zc ?_));refine ⟨_,_,bF 248 83 _ _ x.orders.length 24 (.list true []) rfl Ze Ze Ze Ze (by rfl) Za Za (by simp (disch:=omega) only [go_sem,seval]) (by simp (disch:=omega) only [go_sem,seval]),?_⟩
    refine Zc ?_
    have h5:x.orders.length=0\/x.orders.length=1\/x.orders.length=2\/x.orders.length=3\/x.orders.length=4:=Za
    refine Zp (aZ Zb x.orders.length) ?_;refine Zg [17] _ _ _ _ (Zc ?_);refine (Ph l lc Za).useV fun ys hC=>Zc ?_;obtain ⟨hC,hyl⟩:=hC;rcases h5 with h5 | h5 | h5 | h5 | h5
    all_goals
     simp (disch:=omega) only [h5,List.replicate,C2,Ic,Zq,Zn,go_sem,seval];refine Zl [2,6,50,51] (fun k:Nat=> [(52,.p (.int .i64 k))]) (fun k=> [Zi x,.map [],qK x m (.sl 3 0 x.orders.length x.orders.length) (.p (.list true [])),.cells (C2 (fstF x.orders.length (ys.take k)) 4)]++Ic (fstF x.orders.length (ys.take k))) (fun k=>k<=ys.length) (fun k=>ys.length-k) 0 Za (Weak.mk ?_) ?_
     ·simp (disch:=omega) only [h5,Ql,mF,ZF,JR,Q2,Q3,Q4,Q5,C2,Ic,Zq,Zn,ZL,Zz,Zi,qK,go_sem,seval]
     ·intro k hk;simp (disch:=omega) only [h5,JR,Q2,Q3,Q4,Q5,C2,Ic,Zq,Zn,ZL,Zz,Zi,qK,go_sem,seval];refine cD ?_ ?_<;>intro h1<;>simp (disch:=omega) only [Sh.out h1,go_sem,seval,↓reduceIte]
      ·have hk2:k<ys.length:=Za
       obtain ⟨j,hj,hjl,_⟩:=hC.bst _ (ZZ hk2)
       have hmem:nth ys k∈l:=by rw [<- hjl];exact ZZ hj
       obtain ⟨S,hS,hS0,hS1,hS2⟩:=Qt (hall _ hmem) (hs _ hmem);have hlt:=ZdE hS0 hS1 hn;have h16:S<16:=UF hS1 (by rw [h5];decide)
       have cl:PC 125 [.p (.int .i64 (nth ys k).set)] (.int .i64 (A2 (nth ys k).set.toNat)):=by
        rw [hS];exact N8 S hS0 h16
       refine (cl).use ?_;simp (disch:=omega) only [go_sem,seval]
       have htz:A2 (nth ys k).set.toNat=A2 S:=by rw [hS];rfl
       have hi:A2 (nth ys k).set.toNat=0\/A2 (nth ys k).set.toNat=1\/A2 (nth ys k).set.toNat=2\/A2 (nth ys k).set.toNat=3:=Za
       rcases hi with hi | hi | hi | hi
       all_goals try omega
       all_goals
        simp (disch:=omega) only [hi,go_sem,seval];refine Bq [14] [1,2,3] [2] 15 mixed Ze Ze Ze Ze Zb ?_;simp (disch:=omega) only [go_sem,seval,↓reduceIte];refine ⟨fun q hq p' hp=> ?_,?_⟩
        ·simp only [Z3,Y7,Wq] at hq;rcases hq with rfl | rfl | rfl
         ·obtain rfl:59=p':=Vi hp;exact V2 (by decide)
         ·obtain rfl:60=p':=Vi hp;exact V2 (by decide)
         ·obtain rfl:61=p':=Vi hp;exact V2 (by decide)
        ·have q0:=CW ys k 0;have q1:=CW ys k 1;have q2:=CW ys k 2;have q3:=CW ys k 3;refine No 14 _ _ Ze (by simp (disch:=omega) only [go_sem,seval,↓reduceIte];exact ⟨rfl,rfl⟩) ?_;refine ⟨fun k hk=>by simp at hk;subst hk;rfl,Ls ?_⟩;simp (disch:=omega) only [go_sem,seval];exact ⟨k+1,Za,Za,Weak.mk (by simp (disch:=omega) only [h5,bP hk2,hi,Xs,ZG,ZD,ZF,Xl,Q2,Q3,Q4,Q5,C2,Zq,Zn,go_sem,seval,↓reduceIte])⟩
      ·have hkl:k=ys.length:=Za
       subst hkl;clear hk h1
       try refine Zp (Weak.fz (o:=4) (by rfl)) ?_
       try refine Zp (Weak.fz (o:=5) (by rfl)) ?_
       try refine Zp (Weak.fz (o:=6) (by rfl)) ?_
       try refine Zp (Weak.fz (o:=7) (by rfl)) ?_
       refine Zg [17] _ _ _ _ ?_;simp (disch:=omega) only [Yd,Zq,Zn,Z1,ZW,eq_self,go_sem,seval,↓reduceIte];refine Zp (Weak.fzC (o:=3) (ys:=(fstF x.orders.length ys).map Wu) (by rw [h5];rfl) (fun y hy=>by obtain ⟨p,_,rfl⟩:=XC.1 hy;rfl)) ?_;refine Zg [17] _ _ _ _ ?_;simp (disch:=omega) only [h5,JR,Q2,Q3,Q4,Q5,Zq,Zn,Z1,ZW,ZD,ZF,Xl,Nat.reduceAdd,eq_self,go_sem,seval,↓reduceIte]
       refine Zg [28] _ _ _ _ ?_;simp (disch:=omega) only [go_sem,seval,↓reduceIte];refine Zl [2,6,78] (fun k:Nat=> [(79,.p (.int .i64 k))]) (fun k=> [Zi x,.map [],qK x m (.p (.list false ((fstF x.orders.length ys).map Wu))) (.sl (4+x.orders.length) 0 k k),.dead]++List.replicate x.orders.length .dead++ [.elems 1 ((skF x k).map eI)]) (fun k=>k<=x.orders.length) (fun k=>x.orders.length-k) 0 Za ((Weak.nilC (o:=2) (j:=7) 1 (by rfl) (by rfl) Zb).trans (Weak.mk ?_)) ?_
       ·simp (disch:=omega) only [h5,Zj3,List.replicate,Z1,ZW,ZD,ZF,Xl,Nat.reduceAdd,JR,Q2,Q3,Q4,Q5,Zq,Zn,ZL,Zz,Zi,qK,go_sem,seval]
       ·intro k hk;simp (disch:=omega) only [h5,List.replicate,Nat.reduceAdd,JR,Q2,Q3,Q4,Q5,Zq,Zn,ZL,Zz,Zi,qK,go_sem,seval];refine cD ?_ ?_<;>intro h1<;>simp (disch:=omega) only [Sh.out h1,go_sem,seval,↓reduceIte]
        ·have hk2:k<x.orders.length:=Za
         refine W3 (hun k) ?_;simp (disch:=omega) only [go_sem,seval,↓reduceIte];refine cD ?_ ?_<;>intro h2<;>simp (disch:=omega) only [Sh.out h2,go_sem,seval,↓reduceIte]
         ·refine W3 (HU _ (hu k)) ?_;simp (disch:=omega) only [go_sem,seval];refine cD ?_ ?_<;>intro h3<;>simp (disch:=omega) only [Sh.out h3,go_sem,seval,↓reduceIte]
          ·have hsk:skpF x k=(YA (unsF x k).1).1:=by simp [skpF,h2,h3]
           simp (disch:=omega) only [Kc,go_sem,seval];rw [if_pos ⟨Za,Za⟩];simp (disch:=omega) only [Kc,ZY,ZG,ZD,ZF,Xl,eq_self,VI,go_sem,seval];exact ⟨k+1,Za,Za,Weak.mk (by simp (disch:=omega) only [h5,GB,hsk,Xs,List.replicate,Nat.reduceAdd,JR,Q2,Q3,Q4,Q5,Zq,Zn,ZL,Zz,go_sem,seval])⟩
          ·have hsk:skpF x k= -1:=by simp [skpF,h3]
           simp (disch:=omega) only [Kc,go_sem,seval];rw [if_pos ⟨Za,Za⟩];simp (disch:=omega) only [Kc,ZY,ZG,ZD,ZF,Xl,eq_self,VI,go_sem,seval];exact ⟨k+1,Za,Za,Weak.mk (by simp (disch:=omega) only [h5,GB,hsk,Xs,List.replicate,Nat.reduceAdd,JR,Q2,Q3,Q4,Q5,Zq,Zn,ZL,Zz,go_sem,seval])⟩
         ·have hsk:skpF x k= -1:=by simp [skpF,h2]
          simp (disch:=omega) only [Kc,go_sem,seval];rw [if_pos ⟨Za,Za⟩];simp (disch:=omega) only [Kc,ZY,ZG,ZD,ZF,Xl,eq_self,VI,go_sem,seval];exact ⟨k+1,Za,Za,Weak.mk (by simp (disch:=omega) only [h5,GB,hsk,Xs,List.replicate,Nat.reduceAdd,JR,Q2,Q3,Q4,Q5,Zq,Zn,ZL,Zz,go_sem,seval])⟩
        ·have hkl:k=x.orders.length:=Za
         clear hk h1;refine Zp (Weak.fz (o:=4+x.orders.length) (S:=1) (xs:=(skF x k).map eI) (by rw [h5];rfl)) ?_;refine Zg [] _ _ _ _ ?_;simp (disch:=omega) only [h5,Zq,Zn,Z1,ZW,ZY,Kc,Nat.reduceAdd,eq_self,go_sem,seval,↓reduceIte];exact ⟨.tup [.ptr 2 0,.p (.int .i64 0)],_,Weak.mk (by simp (disch:=omega) only [hkl,h5,Y1,VR,shO,shVs,shV,JR,Q2,Q3,Q4,Q5,Zq,Zn,go_sem,seval]),.inr (.inr ⟨Za,hall,ys,⟨hC,hyl⟩,rfl,rfl⟩)⟩
theorem ZdF : ∀S:Fin 16,0<S.val->sHas (S.val:Int) (A2 S.val)=true:=by decide+kernel
theorem Oi {x:Inst} (hx:InstOk x) (i:Nat): -1<=skpF x i/\skpF x i<=18014398509481984:=by
 unfold skpF
 split
 ·rename_i h
  have hm:(unsF x i).1.cost<=1000000/\(unsF x i).1.moved<=1/\0<=(unsF x i).1.moved/\(unsF x i).1.other=0/\(unsF x i).1.work=0:=by
   unfold unsF
   split
   ·simp [zSco]
   ·split
    ·simp [zSco]
    ·split
     ·simp [zSco]
     ·have ha:=(hx.orders.2 (i:Int).toNat Za).arg;simp only [argOk,rng,ZH,Zs] at ha
      grind
  obtain ⟨_,h2⟩:=h;unfold YA at h2 ⊢
  grind
 ·omega
theorem RM {x:Inst} {l ys:List Col} (hx:InstOk x) (hn:x.orders.length<=4) (hC:Cheap l ys) (hr: ∀c∈l,rightB x c=true) (hs: ∀c∈l,c.set<9223372036854775808):ChOk x.orders.length x (fstF x.orders.length ys) (skF x x.orders.length):=by
 refine ⟨fun i hi c hc=> ?_,?_,fun i hi=> ?_⟩
 ·have e:nth (fstF x.orders.length ys) i=Ym ys i:=by
   grind [fstF,Zh]
  rw [e,Ym,QK] at hc;obtain ⟨h1,h2⟩:=hc;simp only [Zs] at h2;obtain ⟨j,hj,hjl,_⟩:=hC.bst c h1
  have hm:c∈l:=by grind [ZZ]
  obtain ⟨S,q1,q2,q3,_⟩:=Qt (hr c hm) (hs c hm);have h16:S<16:=UF q3 (Ys (n:=2) Za hn);have hb:=ZdF ⟨S,h16⟩ q2;have hr1:=hr c hm;simp only [rightB,ZH,Zs] at hr1
  grind
 ·have ht:=hx.types;simp only [typesOk,rng,Zs] at ht;refine ⟨Za,fun t _=> ?_⟩;rcases Y9 t x.types.length with h | h
  ·have:=ht.2 t h;unfold Ux at this;have:=this.1.1.1.1.1.1.2;simp only [rng,Zs] at this;omega
  ·rw [show nth x.types t=default from by grind [nth]]
   decide
 simp_all [skF,Zh,Oi]
def zSt : St:=⟨0,0,[0,0,0,0,0,0]⟩
def Lv (x:Inst) (ys:List Col):Int:=Wi x.orders.length ((Yt x x.orders.length:Nat):Int) x (fstF x.orders.length ys) (skF x x.orders.length) 20 (Vt x.orders.length ((Yt x x.orders.length:Nat):Int) zSt)
theorem xM (n:Nat):StV n zSt:=⟨rfl,⟨by decide,by simp [zSt]⟩,⟨0,rfl,Za⟩,fun j hj=>by
 have:nth zSt.used j=0:=by
  have:j=0\/j=1\/j=2\/j=3\/j=4\/j=5:=Za
  rcases this with rfl | rfl | rfl | rfl | rfl | rfl<;>rfl
 omega⟩
theorem GD {α:Type} {r:α->α->Prop} (irr: ∀a,¬r a a) (asy: ∀a b,r a b-> ¬r b a): ∀ {l l':List α},l.Pairwise r->l'.Pairwise r->(∀a,a∈l↔a∈l')->l=l'
 | [],[],_,_,_=>rfl
 | [],b::_,_,_,h=>by have:=(h b).2 Zb;simp at this
 | a::_,[],_,_,h=>by have:=(h a).1 Zb;simp at this
 | a::l,b::l',h1,h2,h=>by
  rw [List.pairwise_cons] at h1 h2
  have hab:a=b:=by
   rcases Z3.1 ((h a).1 Zb) with e | e
   ·exact e
   ·rcases Z3.1 ((h b).2 Zb) with e' | e'
    ·exact e'.symm
    ·exact absurd (h1.1 b e') (asy _ _ (h2.1 a e))
  subst hab
  rw [GD irr asy h1.2 h2.2 fun c=>⟨fun hc=>by
   rcases Z3.1 ((h c).1 (Yq _ hc)) with e | e
   ·subst e;exact absurd (h1.1 c hc) (irr c)
   ·exact e,fun hc=>by
   rcases Z3.1 ((h c).2 (Yq _ hc)) with e | e
   ·subst e;exact absurd (h2.1 c hc) (irr c)
   ·exact e⟩]
theorem gD {l ys:List Col} (h:Cheap l ys) {c:Col} (hc:c∈l): ∃d∈ys,kd d=kd c/\d.price<=c.price:=by
 obtain ⟨d,hd,e⟩:=h.all c hc;obtain ⟨j,hj,rfl⟩:=ZN.1 hc;obtain ⟨i,hi,_,h3⟩:=h.bst d hd
 grind [Zh]
theorem gC {l ys:List Col} (h:Cheap l ys) {d:Col} (hd:d∈ys):d∈l:=by
 obtain ⟨j,hj,e,_⟩:=h.bst d hd
 grind [ZZ]
theorem NE {n i:Nat} {ys:List Col} :nth (fstF n ys) i=if i<n then Ym ys i else []:=by
 split
 ·grind [fstF,Zh]
 ·rename_i h;rw [nth,Q7,List.getElem?_eq_none (by simp [fstF];omega)];rfl
def dR (a b:Int):Prop:=b<0\/(0<=a/\a<=b)
theorem R6 {x:Inst} {s:St} {r:Col->Int} (hr: ∀c,-1<=r c): ∀ {l:List Col} {a:Int},(∀c∈l,0<=c.price) ->
  dR (l.foldl (fun o c=>if YK x s c=true then Y0 o c.price (r c) else o) a) a/\ ∀c∈l,YK x s c=true->0<=r c->dR (l.foldl (fun o c=>if YK x s c=true then Y0 o c.price (r c) else o) a) (c.price+r c)
 | [],a,_=>⟨by grind [dR],fun c hc=>by simp at hc⟩
 | d::l,a,hp=>by
  have hd:=hp d Zb;obtain ⟨g1,g2⟩:=R6 (x:=x) (s:=s) hr (l:=l) (a:=if YK x s d=true then Y0 a d.price (r d) else a) fun c hc=>hp c (Yq _ hc);rw [XR];generalize l.foldl (fun o c=>if YK x s c=true then Y0 o c.price (r c) else o) (if YK x s d=true then Y0 a d.price (r d) else a)=M at g1 g2;refine ⟨?_,fun c hc hy h0=> ?_⟩
  ·grind [dR,Y0]
  ·rcases Z3.1 hc with rfl | hc
   ·rw [if_pos hy] at g1
    grind [dR,Y0]
   grind
theorem HC {x:Inst} {s:St} {r:Col->Int} : ∀ {l:List Col} {a:Int},l.foldl (fun o c=>if YK x s c=true then Y0 o c.price (r c) else o) a=a\/ ∃c∈l,YK x s c=true/\0<=r c/\l.foldl (fun o c=>if YK x s c=true then Y0 o c.price (r c) else o) a=c.price+r c
 | [],a=> .inl rfl
 | d::l,a=>by
  rw [XR];rcases HC (x:=x) (s:=s) (r:=r) (l:=l) (a:=if YK x s d=true then Y0 a d.price (r d) else a) with h | ⟨c,h1,h2,h3,h4⟩
  ·rw [h]
   split
   ·rename_i hy;unfold Y0
    split
    ·grind
    omega
   omega
  grind
abbrev Cm := { c:Col // ∃S:Nat,c.set=S/\0<S/\S<16 }
instance : Inhabited Cm := ⟨⟨⟨0, 1, 0, default⟩, 1, rfl, by decide, by decide⟩⟩
def lo (c:Col):Int:=A2 c.set.toNat
def qO (a b:Col):Int:=tB [YP a.typ b.typ,YP (lo a) (lo b)]
theorem JL {a b:Col} :qO a b<0↔a.typ<b.typ\/(a.typ=b.typ/\lo a<lo b):=by
 grind [qO,ES,gV,gU]
def zR (a b:Cm):Int:=qO a.val b.val
theorem qQ : Go.Sort.SWO (ltOf zR) where
 irrefl x:=by grind [ltOf,zR,JL]
 trans x y z h1 h2:=by simp only [ltOf,zR,Zs,JL] at *;omega
 ntrans x y z h1 h2:=by grind [ltOf,zR,JL]
theorem Zjv (c:Cm):PC 125 [.p (.int .i64 c.val.set)] (.int .i64 (lo c.val)):=by
 obtain ⟨c,S,h1,h2,h3⟩:=c
 grind [lo,N8]
theorem TV (a b:Cm):PC 124 [.p (Xp a.val),.p (Xp b.val)] (.int .i64 (zR a b)):=by
 refine Zd Tryz.func124 rfl ZaD ?_;simp (disch:=omega) only [Tryz.f124,go_sem,seval];refine Xe (Zc ?_);refine Zo (B8 a.val.typ b.val.typ) (Zc ?_);refine Zo (Zjv a) (Zc ?_);refine Zo (Zjv b) (Zc ?_);refine Zo (B8 (lo a.val) (lo b.val)) (Zc ?_);refine Zo (tC [YP a.val.typ b.val.typ,YP (lo a.val) (lo b.val)] false Zb) (Zc ?_)
 rfl
theorem uM (xs:List Cm) (hl:xs.length<=1048576) {H:List AM.Obj} {o:Nat} (hH:H[o]? =some (.elems 7 (xs.map fun c=>Xp c.val))) :
  ACalls Tryz.prog 123 [.sl o 0 xs.length xs.length,.fn (.func 124) [] []] H fun y H'=>y= .tup []/\ ∃ys:List Cm,ys.Perm xs/\ys.Pairwise (fun a b=> ¬zR b a<0)/\H'=H.set o (.elems 7 (ys.map fun c=>Xp c.val)) :=
 ACalls.sortFunc Oj jV 7 Tryz.isAgg107 Tryz.sizeOf107 (fun c:Cm=>Xp c.val) (fun x=>⟨_,rfl,rfl,rfl⟩) zR qQ 124 TV xs Za hH
theorem DJ {n:Nat} {m:Int} {x:Inst} {fst:List (List Col)} {sk:List Int} : ∀(d:Nat) (s:St),∀c∈(Yv n m x fst sk d s).1,∃i,i<fst.length/\c∈nth fst i
 | 0,s,c,h=>by simp [Yv] at h
 | d+1,s,c,h=>by
  rw [Yv] at h
  split at h
  ·simp at h
  ·split at h
   ·rename_i c' hf;simp only [Z3] at h;rcases h with rfl | h
    ·refine ⟨s.ix.toNat,?_,Q8 hf⟩;rcases Y9 s.ix.toNat fst.length with h | h
     ·exact h
     ·rw [show nth fst s.ix.toNat= [] from by simp [nth,Q7,List.getElem?_eq_none h];rfl] at hf;simp at hf
    ·exact DJ d _ c h
   ·exact DJ d _ c h
def zPlC : Pln:=⟨true,[],true,[]⟩
def oU (x:Inst) (l:List Col) (p:Pln) (c e:Int):Prop:=(8192<l.length/\p=zPlC/\c=0/\e=4)\/(l.length<=8192/\(∃c∈l,rightB x c=false)/\p=zPlC/\c=0/\e=2) \/
 (l.length<=8192/\(∀c∈l,rightB x c=true)/\ ∃ys,Cheap l ys/\ys.length<=l.length/\((Lv x ys<0/\p=zPlC/\c=0/\e=24)\/(0<=Lv x ys/\c=Lv x ys/\e=0 /\
  ∃zs:List Col,zs.Perm (Yv x.orders.length ((Yt x x.orders.length:Nat):Int) x (fstF x.orders.length ys) (skF x x.orders.length) 20 (Vt x.orders.length ((Yt x x.orders.length:Nat):Int) zSt)).1/\zs.Pairwise (fun a b=> ¬qO b a<0) /\
   p=⟨false,zs.map (·.route),false,(Yv x.orders.length ((Yt x x.orders.length:Nat):Int) x (fstF x.orders.length ys) (skF x x.orders.length) 20 (Vt x.orders.length ((Yt x x.orders.length:Nat):Int) zSt)).2⟩)))
theorem DI {n:Nat} {m:Int} {x:Inst} {fst:List (List Col)} {sk:List Int} : ∀(d:Nat) (s:St),(Yv n m x fst sk d s).1.length<=d/\(Yv n m x fst sk d s).2.length<=d
 | 0,s=>by simp [Yv]
 | d+1,s=>by
  rw [Yv]
  split
  ·simp
  ·split
   ·rename_i c' hf;have:=DI (n:=n) (m:=m) (x:=x) (fst:=fst) (sk:=sk) d (VP n m s c');simp;omega
   ·have:=DI (n:=n) (m:=m) (x:=x) (fst:=fst) (sk:=sk) d (DF n m s);simp;omega
theorem bM (x:Inst) (l:List Col) (lc:Bool) (hx:InstOk x) (hn:x.orders.length<=4) (ht:x.types.length<=1048576) (hs: ∀c∈l,c.set<9223372036854775808) (hl:l.length<=1048576) :
  ACalls Tryz.prog 81 [.p (Zv x),.p (.list lc (l.map Xp))] [] fun y H'=> ∃p c e,oU x l p c e/\y= .tup [.p (JO p),.p (.int .i64 c),.p (.int .i64 e)]/\H'= []:=by
 refine Zf [16] Tryz.func81 rfl Zjd ?_;simp (disch:=omega) only [Tryz.f81,go_sem,seval];refine ((TT x l lc hn ht (fun i=>AV Za (Ox hx _)) hs hl).behind (by rfl) _).mono ?_;rintro y H' ⟨y1,H1,hq,rfl,rfl⟩;rcases hq with ⟨h1,rfl,rfl⟩ | ⟨h1,h2,rfl,rfl⟩ | ⟨h1,h2,ys,⟨hC,hyl⟩,rfl,rfl⟩
 ·simp (disch:=omega) only [shV,shVs,Zn,go_sem,seval];exact ⟨.tup [.p (JO zPlC),.p (.int .i64 0),.p (.int .i64 4)],[],Weak.mk (by simp (disch:=omega) only [zPlC,Zn,go_sem,seval]),_,_,_,Or.inl ⟨h1,rfl,rfl,rfl⟩,rfl,rfl⟩
 ·simp (disch:=omega) only [shV,shVs,Zn,go_sem,seval];exact ⟨.tup [.p (JO zPlC),.p (.int .i64 0),.p (.int .i64 2)],[],Weak.mk (by simp (disch:=omega) only [zPlC,Zn,go_sem,seval]),_,_,_,Or.inr (Or.inl ⟨h1,h2,rfl,rfl,rfl⟩),rfl,rfl⟩
 ·have hok:=RM hx hn hC h2 hs
  have hcl: ∀r∈fstF x.orders.length ys,r.length<=1048576:=fun r hr=>by
   obtain ⟨p,_,rfl⟩:=XC.1 hr
   grind [Ym]
  obtain ⟨m,hm⟩: ∃m:Int,m=((Yt x x.orders.length:Nat):Int):=⟨_,rfl⟩;obtain ⟨B,hB⟩: ∃B,B=Lv x ys:=⟨_,rfl⟩;simp (disch:=omega) only [shV,shVs,shO,Y1,VR,Zq,Zn,List.replicate,ZL,Zz,go_sem,seval];rw [<- hm];refine ACalls.mono ((Gq x (.list false ((fstF x.orders.length ys).map Wu)) (.list false ((skF x x.orders.length).map eI)) m [] zSt rfl (by decide) Za (by decide)).back [Zi x,.cells [.p (.list true []),.p (.list true [])],.cells (List.replicate 6 .junk)] (by rfl)) ?_;rintro y H' ⟨y1,H1,⟨rfl,rfl⟩,rfl,rfl⟩;obtain ⟨v1,_⟩:=L3 (m:=m) (xM x.orders.length)
  have hrg:=Un (m:=m) hok 20 _ v1
  have hbb:B=Wi x.orders.length m x (fstF x.orders.length ys) (skF x x.orders.length) 20 (Vt x.orders.length m zSt):=by rw [hB,Lv,hm]
  rw [<- hbb] at hrg;obtain ⟨R,hR⟩: ∃R,R=Yv x.orders.length m x (fstF x.orders.length ys) (skF x x.orders.length) 20 (Vt x.orders.length m zSt):=⟨_,rfl⟩;obtain ⟨i,w,b0,b1,b2,b3,b4,b5,hw⟩:=YS v1.len;have hRr:=hR;rw [hw] at hbb v1 hR ⊢;simp (disch:=omega) only [shV,shVs,shO,Y1,VR,Zq,Zn,List.replicate,ZL,Zz,go_sem,seval];have c3:=((EC x (fstF x.orders.length ys) (skF x x.orders.length) false false m Za (by simp [fstF]) (by simp [skF]) hok hcl 20 ⟨i,w,[b0,b1,b2,b3,b4,b5]⟩ [] Za v1 (by have:=v1.ix;omega) (fun p hp=>by simp at hp)).mono (fun y H' hq=>(⟨hq,by obtain ⟨l',_,_,rfl⟩:=hq;rfl⟩:_/\H'.length=(Y1 x (.list false ((fstF x.orders.length ys).map Wu)) (.list false ((skF x x.orders.length).map eI)) m []).length))).front (by rfl) (by rfl) [BM ⟨i,w,[b0,b1,b2,b3,b4,b5]⟩]
  refine ACalls.mono (c3.back [Zi x,.cells [.p (.list true []),.p (.list true [])],.cells (List.replicate 6 .junk)] (by rfl)) ?_;rintro y H' ⟨y1,H1,⟨H2,⟨l',hl',rfl,rfl⟩,rfl⟩,rfl,rfl⟩;rw [<- hbb];simp (disch:=omega) only [shV,shVs,shO,Y1,VR,BM,Zq,Zn,List.replicate,ZL,Zz,go_sem,seval];refine cD ?_ ?_<;>intro h3<;>simp (disch:=omega) only [Sh.out h3,go_sem,seval,↓reduceIte]
  ·exact ⟨.tup [.p (JO zPlC),.p (.int .i64 0),.p (.int .i64 24)],[],Weak.mk (by simp (disch:=omega) only [zPlC,Zn,go_sem,seval]),_,_,_,Or.inr (Or.inr ⟨h1,h2,ys,hC,hyl,Or.inl ⟨Za,rfl,rfl,rfl⟩⟩),rfl,rfl⟩
  ·refine ACalls.mono ((Zda (BM ⟨i,w,[b0,b1,b2,b3,b4,b5]⟩) (by intro H n;simp (disch:=omega) only [BM,Zq,Zn,go_sem,seval]) (by intro o xs;rfl) x (fstF x.orders.length ys) (skF x x.orders.length) false false m Za (by simp [fstF]) (by simp [skF]) hok hcl ⟨i,w,[b0,b1,b2,b3,b4,b5]⟩ l' v1 hl').back [Zi x,.cells [.p (.list true []),.p (.list true [])],.cells (List.replicate 6 .junk)] (by rfl)) ?_;rintro y H' ⟨y1,H1,⟨l2,A,U,hl2,hAU,rfl,rfl⟩,rfl,rfl⟩;rw [<- hR] at hAU;have hlen:=DI (n:=x.orders.length) (m:=m) (x:=x) (fst:=fstF x.orders.length ys) (sk:=skF x x.orders.length) 20 (Vt x.orders.length m zSt)
   rw [<- hRr,<- hAU] at hlen
   have hA: ∀c∈A,∃S:Nat,c.set=S/\0<S/\S<16:=fun c hc=>by
    have hc':c∈(Yv x.orders.length m x (fstF x.orders.length ys) (skF x x.orders.length) 20 (Vt x.orders.length m zSt)).1:=by grind
    obtain ⟨j,hj,hm2⟩:=DJ _ _ _ hc'
    have e:nth (fstF x.orders.length ys) j=Ym ys j:=by
     grind [fstF,Zh]
    rw [e,Ym,QK] at hm2;obtain ⟨q,hq,hql,_⟩:=hC.bst c hm2.1
    have hmem:c∈l:=by grind [ZZ]
    obtain ⟨S,q1,q2,q3,_⟩:=Qt (h2 c hmem) (hs c hmem);exact ⟨S,q1,q2,UF q3 (Ys (n:=2) Za hn)⟩
   obtain ⟨L,hL⟩: ∃L:List Cm,L.map Subtype.val=A:=⟨A.pmap (fun c h=>⟨c,h⟩) hA,by simp [List.map_pmap]⟩;subst hL
   have hLl:(L.map Subtype.val).length=L.length:=Zb
   have hLe:(L.map Subtype.val).map Xp=L.map fun c=>Xp c.val:=Zb
   simp only at hlen;rw [hLl] at hlen;simp (disch:=omega) only [shV,shVs,shO,Y1,VR,BM,Zq,Zn,List.replicate,ZL,Zz,hLl,hLe,go_sem,seval];refine ((uM L Za (H:=_) (o:=7) rfl)).mono ?_;rintro y H' ⟨rfl,zs,hp,hsr,rfl⟩;have hzl:zs.length=L.length:=hp.length_eq;rw [<- hzl] at hlen ⊢;refine K3 ?_;obtain ⟨Z,hZ⟩: ∃Z,Z=zs.map Subtype.val:=⟨_,rfl⟩
   have hZl:Z.length=zs.length:=by rw [hZ];simp
   have hZe:Z.map Xp=zs.map fun c=>Xp c.val:=by rw [hZ];simp
   rw [<- hZl] at hlen ⊢
   have htl: ∀k,k<=Z.length->(Z.take k).length=k:=fun k hk=>by simp;omega
   refine Zl [4,10,13,45,46] (fun k:Nat=> [(47,.p (.int .i64 k))]) (fun k=> [Zi x,.cells [.p (.list true []),.p (.list true [])],.cells (List.replicate 6 .junk),.map (l2.map (MS A8)),shO 3 (VR x (.list false ((fstF x.orders.length ys).map Wu)) (.list false ((skF x x.orders.length).map eI)) m),BM ⟨i,w,[b0,b1,b2,b3,b4,b5]⟩,.cells (List.replicate 8 .junk),.elems 7 (Z.map Xp),.cells [.sl 9 0 k k,.p (.list false (U.map eI))],.elems 4 ((Z.take k).map fun c=>Wy c.route)]) (fun k=>k<=Z.length) (fun k=>Z.length-k) 0 Za ((Weak.nilC (o:=8) (j:=0) 4 (by rfl) (by rfl) Zb).trans (Weak.mk ?_)) ?_
   ·simp (disch:=omega) only [hZe,Ql,Z1,ZW,ZD,ZF,Xl,Nat.reduceAdd,shV,shVs,shO,VR,BM,Zq,Zn,List.replicate,ZL,Zz,Zi,go_sem,seval]
   ·intro k hk;simp (disch:=omega) only [shV,shVs,shO,VR,BM,Zq,Zn,List.replicate,Zi,go_sem,seval];refine cD ?_ ?_<;>intro h4<;>simp (disch:=omega) only [Sh.out h4,go_sem,seval,↓reduceIte]
    ·have hk2:k<Z.length:=Za
     simp (disch:=first | omega | (simp only [ZD,ZF,ZG,ZY,Xh,XI]<;>omega)) only [Vz hk2,hk2,go_sem,seval,↓reduceIte]
     have hsc:Z.take (k+1)=Z.take k++ [nth Z k]:=by rw [X0 hk2,Zh hk2]
     rw [if_pos ⟨htl k hk,Za,Za⟩];simp (disch:=omega) only [htl k hk,ZY,ZG,ZD,ZF,Xl,eq_self,VI,go_sem,seval];exact ⟨k+1,Za,Za,Weak.mk (by simp (disch:=omega) only [hsc,Xs,Zq,Zn,go_sem,seval])⟩
    ·have hkl:k=Z.length:=Za
     subst hkl;refine Zp (Weak.fz (o:=9) (by rfl)) ?_;refine Zg [] _ _ _ _ ?_;simp (disch:=omega) only [Zq,Zn,Z1,ZW,Yd,go_sem,seval];exact ⟨.tup [.p (JO ⟨false,Z.map (·.route),false,U⟩),.p (.int .i64 B),.p (.int .i64 0)],[],Weak.mk (by simp (disch:=omega) only [List.map_map,Function.comp_def,go_sem,seval]),_,_,_,Or.inr (Or.inr ⟨h1,h2,ys,hC,hyl,Or.inr ⟨Za,hB,rfl,Z,by grind,by rw [hZ];exact List.pairwise_map.2 hsr,by grind⟩⟩),rfl,rfl⟩
def Znk (x:Inst) (l:List Col) (a e:Int):Prop:=(8192<l.length/\a=0/\e=4)\/(l.length<=8192/\(∃c∈l,rightB x c=false)/\a=0/\e=2) \/
 (l.length<=8192/\(∀c∈l,rightB x c=true)/\ ∃ys,Cheap l ys/\a=(if Lv x ys<0 then 0 else Lv x ys)/\e=(if Lv x ys<0 then 24 else 0))
def ky (l:List Col) (a:Int):Int×Int×Int:=if a<0 then (1,0,0) else (0,(nth l a.toNat).typ,(nth l a.toNat).set)
def kI (a b:Int×Int×Int):Prop:=a.1<b.1\/(a.1=b.1/\(a.2.1<b.2.1\/(a.2.1=b.2.1/\a.2.2<b.2.2)))
def KE (n:Nat) (l:List Col) (a b:List Int):Prop:= ∀t,t<n->ky l (nth a t)=ky l (nth b t)/\nth a t<=nth b t
def KL (n:Nat) (l:List Col) (a b:List Int):Prop:=(∃i,i<n/\(∀t,t<i->ky l (nth a t)=ky l (nth b t))/\kI (ky l (nth a i)) (ky l (nth b i)))\/KE n l a b
def mI (x:Inst):Int:=((Yt x x.orders.length:Nat):Int)
theorem FS {x:Inst} (hn:x.orders.length<=4) {k:Nat} (hk:k<x.orders.length):sHas (mI x) k= !(nth x.orders k).off:=by
 grind [mI,WK,Qa]
theorem B9 {n:Nat} {s:St} (h:StV n s) {k:Nat} (hk:k<=62):sHas s.cov k=s.cov.toNat.testBit k:=by
 obtain ⟨C,hC,_⟩:=h.cov
 grind [WK]
structure Ctx (x:Inst) (l ys:List Col):Prop where
 n4:x.orders.length<=4
 t6:x.types.length<=6
 ch:Cheap l ys
 rt: ∀c∈l,rightB x c=true
 st: ∀c∈l,c.set<9223372036854775808
 ok:ChOk x.orders.length x (fstF x.orders.length ys) (skF x x.orders.length)
 sk: ∀k,k<x.orders.length->(nth x.orders k).off=false->(0<=(nth x.orders k).penalty↔0<=skpF x k)/\(0<=skpF x k->skpF x k=skR x k)
theorem ZcW : ∀S:Fin 16,0<S.val-> ∀k:Fin 4,(A2 S.val=(k.val:Int)↔(S.val.testBit k.val=true/\ ∀i:Fin 4,i.val<k.val->S.val.testBit i.val=false)):=by decide+kernel
theorem Rn {S n k:Nat} (hS:0<S) (h:S<2^n) (hn:n<=4) (hk:k<n):A2 S=(k:Int)↔(S.testBit k=true/\ ∀i,i<n->S.testBit i=true->k<=i):=by
 have h16:S<16:=UF h (Ys (n:=2) Za hn);rw [show A2 S=(k:Int)↔_ from ZcW ⟨S,h16⟩ hS ⟨k,Za⟩];refine and_congr_right fun _=>⟨fun g i hi hb=> ?_,fun g i hi=> ?_⟩
 ·rcases Y9 i k with h1 | h1
  ·have:=g ⟨i,Za⟩ h1
   grind
  ·exact h1
 grind
theorem Ctx.set {x:Inst} {l ys:List Col} (h:Ctx x l ys) {c:Col} (hc:c∈l):c.set=(c.set.toNat:Int)/\0<c.set.toNat/\c.set.toNat<2^x.orders.length/\ ∀i,c.set.toNat.testBit i=true->i<x.orders.length/\(nth x.orders i).off=false:=by
 obtain ⟨S,h1,h2,h3,h4⟩:=Qt (h.rt c hc) (h.st c hc)
 grind
theorem Ctx.typ {x:Inst} {l ys:List Col} (h:Ctx x l ys) {c:Col} (hc:c∈l):(0<=c.typ/\c.typ<x.types.length)/\0<=c.price:=by
 have:=h.rt c hc;simp only [rightB,ZH,Zs] at this;omega
structure Nd (x:Inst) (l:List Col) (a:List Int) (s:St) (k:Nat):Prop where
 len:a.length=x.orders.length
 ix:s.ix=k
 v:StV x.orders.length s
 cov: ∀i,i<x.orders.length->s.cov.toNat.testBit i=decide (0<=nth a i)
 rng: ∀i,i<x.orders.length-> -1<=nth a i/\nth a i<l.length
 used: ∀T:Nat,T<6->nth s.used T=usdI l a T x.orders.length
 grp: ∀i,i<x.orders.length->0<=nth a i-> ∀t,t<x.orders.length->(nth l (nth a i).toNat).set.toNat.testBit t=true->nth a t=nth a i
 old: ∀i,i<x.orders.length->k<=i->0<=nth a i-> ∃t,t<k/\(nth l (nth a i).toNat).set.toNat.testBit t=true
 own: ∀i,i<x.orders.length->0<=nth a i->(nth l (nth a i).toNat).set.toNat.testBit i=true
def GQ (s:St):St:= { s with ix:=s.ix+1 }
def AL (s:St) (c:Col):St:=⟨s.ix+1,((s.cov.toNat|||c.set.toNat:Nat):Int),s.used.set c.typ.toNat (nth s.used c.typ.toNat+1)⟩
theorem Nd.skip {x:Inst} {l:List Col} {a:List Int} {s:St} {k:Nat} (h:Nd x l a s k) (hk:k<x.orders.length) (ho:0<=nth a k-> ∃t,t<k/\(nth l (nth a k).toNat).set.toNat.testBit t=true):Nd x l a (GQ s) (k+1) :=
 ⟨h.len,by simp only [GQ,h.ix];omega,⟨h.v.len,by have:=h.ix;simp only [GQ];omega,h.v.cov,h.v.used⟩,h.cov,h.rng,h.used,h.grp,fun i hi hki h0=>by
  obtain ⟨t,h1,h2⟩:=h.old i hi Za h0
  grind,h.own⟩
theorem Nd.skip' {x:Inst} {l:List Col} {a:List Int} {s:St} {k:Nat} (h:Nd x l a s k) (hk:k<x.orders.length):Nd x l a (GQ s) (k+1):=h.skip hk fun h0=>h.old k hk (ZB _) h0
theorem RL {x:Inst} {l ys:List Col} (hc:Ctx x l ys) {a:List Int} {s:St} {k j:Nat} (h:Nd x l a s k) (hk:k<x.orders.length) (hj:j<l.length):Kr x l a j k=true↔(YK x s (nth l j)=true/\A2 (nth l j).set.toNat=(k:Int)):=by
 obtain ⟨hS,hS0,hS1,hS2⟩:=hc.set (ZZ hj);obtain ⟨⟨ht0,ht1⟩,_⟩:=hc.typ (ZZ hj);have ht6:=hc.t6;have hu:=h.used (nth l j).typ.toNat Za;rw [show (((nth l j).typ.toNat:Nat):Int)=(nth l j).typ by omega] at hu;rw [Rn hS0 hS1 hc.n4 hk];simp only [Kr,YK,Es,ZH,Zs,J9,h.len,hu]
 constructor
 ·rintro ⟨h1,h2,h3⟩;refine ⟨⟨CE fun i=> ?_,h2⟩,h1,fun i hi hb=>(h3 i hi hb).2⟩;rw [Nat.testBit_and,Nat.zero_testBit]
  cases hb:(nth l j).set.toNat.testBit i with
  | false=>simp
  | true =>
   have hi:=(hS2 i hb).1;rw [h.cov i hi,JY,XH]
   grind
 ·rintro ⟨⟨h1,h2⟩,h3,h4⟩;refine ⟨h3,h2,fun i hi hb=>⟨?_,h4 i hi hb⟩⟩;have:=Zw (fun z=>z.testBit i) h1;simp only [Nat.testBit_and,Nat.zero_testBit,hb,JY] at this;rw [h.cov i hi,XH] at this;omega
theorem It {x:Inst} {l:List Col} {a:List Int} {k:Nat} {S:Nat} {j:Nat} (hl:a.length=x.orders.length) (hk:k<x.orders.length) (hb:S.testBit k=true) (hneg: ∀i,i<x.orders.length->S.testBit i=true->nth a i<0/\k<=i) (hfr: ∀i,i<x.orders.length->S.testBit i=false->nth a i≠(j:Int)) (T:Int) :
  ∀m,m<=x.orders.length->usdI l (VN S a j) T m=usdI l a T m+(if k<m/\(nth l j).typ=T then 1 else 0)
 | 0,_=>by simp [usdI]
 | i+1,hm=>by
  have hi:i<a.length:=Za
  rw [usdI,usdI,It hl hk hb hneg hfr T i Za];have ZT: ∀t,t<i->nth (VN S a j) t=if S.testBit t=true then (j:Int) else nth a t:=fun t ht=>Xy Za
  cases hs:S.testBit i with
  | false =>
   have e:K9 l (VN S a j) T i=K9 l a T i:=by
    rw [K9,K9,Xy hi,hs,if_neg Zb]
    by_cases h0:0<=nth a i
    ·have ef:aC (VN S a j) i=aC a i:=by
      rw [Wp,Ci,Ci,Xy hi,hs,if_neg Zb]
      grind
     rw [ef]
    ·simp [h0]
   grind
  | true =>
   obtain ⟨hn,hki⟩:=hneg i Za hs
   have e2:K9 l a T i=false:=by
    simp_all [K9,U1]
   have e1:K9 l (VN S a j) T i=(decide ((nth l j).typ=T)&&decide (k=i)):=by
    rw [K9,Xy hi,hs,if_pos rfl,UK Za,VH,XY]
    congr 1
    rw [Wp,Ci,Xy hi,hs,if_pos rfl,Zs]
    grind
   grind
theorem Nd.child {x:Inst} {l ys:List Col} (hc:Ctx x l ys) {a:List Int} {s:St} {k j:Nat} (h:Nd x l a s k) (hk:k<x.orders.length) (hj:j<l.length) (hcan:Kr x l a j k=true):Nd x l (VN (nth l j).set.toNat a j) (AL s (nth l j)) (k+1):=by
 obtain ⟨hS,hS0,hS1,hS2⟩:=hc.set (ZZ hj);obtain ⟨⟨ht0,ht1⟩,_⟩:=hc.typ (ZZ hj);have ht6:=hc.t6;have hl6:s.used.length=6:=h.v.len;have hu:=h.used (nth l j).typ.toNat Za;rw [show (((nth l j).typ.toNat:Nat):Int)=(nth l j).typ by omega] at hu;have hcan':=hcan;simp only [Kr,ZH,Zs,J9,h.len] at hcan';obtain ⟨hb,hcnt,hneg⟩:=hcan';rw [<- hu] at hcnt;have hcount:=hc.ok.typ.2 (nth l j).typ.toNat Za;have hak:=(hneg k hk hb).1
 have hfr: ∀i,i<x.orders.length->(nth l j).set.toNat.testBit i=false->nth a i≠(j:Int):=fun i hi _ e=>by
  have:=h.grp i hi Za k hk (by grind [XY]);omega
 obtain ⟨C,hC,hC2⟩:=h.v.cov;have hS10:(nth l j).set.toNat<1024:=UF hS1 (Ys (n:=2) Za (show x.orders.length<=10 by have:=hc.n4;omega));refine ⟨by rw [Uv];exact h.len,by simp only [AL,h.ix];omega,⟨by simp only [StR,AL,U0];exact hl6,by have:=h.ix;simp only [AL];omega,⟨_,rfl,?_⟩,fun t ht=> ?_⟩,fun i hi=> ?_,fun i hi=> ?_,fun T hT=> ?_,fun i hi h0 t ht hbt=> ?_,fun i hi hki h0=> ?_,fun i hi h0=> ?_⟩
 ·rw [hC,XY];exact Jb (n:=10) hC2 hS10
 ·simp only [AL];rw [CM Za]
  split
  ·omega
  ·exact h.v.used t ht
 ·simp only [AL,XY];rw [AD,h.cov i hi,Xy (by rw [h.len];exact hi)]
  grind
 ·rw [Xy (by rw [h.len];exact hi)]
  split
  ·omega
  ·exact h.rng i hi
 ·simp only [AL];rw [CM Za,It h.len hk hb hneg hfr T _ (ZB _),h.used T hT]
  grind
 ·rw [Xy (i:=i) (by rw [h.len];exact hi)] at h0 hbt ⊢;rw [Xy (i:=t) (by rw [h.len];exact ht)]
  cases hbi:(nth l j).set.toNat.testBit i with
  | true =>
   rw [hbi,if_pos rfl,XY] at hbt
   grind
  | false =>
   rw [hbi,if_neg Zb] at h0 hbt;have e:=h.grp i hi h0 t ht hbt
   grind
 ·rw [Xy (by rw [h.len];exact hi)] at h0 ⊢
  cases hbi:(nth l j).set.toNat.testBit i with
  | true =>
   rw [if_pos rfl,XY]
   grind
  | false =>
   rw [hbi,if_neg Zb] at h0;rw [if_neg Zb];obtain ⟨t,h1,h2⟩:=h.old i hi Za h0
   grind
 ·rw [Xy (by rw [h.len];exact hi)] at h0 ⊢
  cases hbi:(nth l j).set.toNat.testBit i with
  | true=>rw [if_pos rfl,XY];exact hbi
  | false =>
   rw [hbi,if_neg Zb] at h0;rw [if_neg Zb];exact h.own i hi h0
def Lx (x:Inst) (ys:List Col) (D:Nat) (s:St):Int:=Wi x.orders.length (mI x) x (fstF x.orders.length ys) (skF x x.orders.length) D (Vt x.orders.length (mI x) s)
theorem dX {x:Inst} {ys:List Col} {D:Nat} {s:St} (h:s.ix=x.orders.length):Lx x ys D s=0:=by
 unfold Lx
 cases D with
 | zero=>rfl
 | succ D =>
  simp_all [Wi,Vt,Da]
theorem DR {n:Nat} {m:Int} {s:St} {k:Nat} (hk:s.ix=k) (hkn:k<n) (hc:sHas m k=false\/sHas s.cov k=true):Vt n m s=Vt n m (GQ s):=by
 simp_all [Vt,GQ,EX]
theorem DS {n:Nat} {m:Int} {s:St} {k:Nat} (hk:s.ix=k) (h1:sHas m k=true) (h2:sHas s.cov k=false):Vt n m s=s:=by
 obtain ⟨i,v,u⟩:=s
 simp_all [Vt,DT]
theorem GM {n:Nat} {m:Int} {s:St} {c:Col} {k:Nat} (hk:s.ix=k) (hkn:k<n) (hn:n<=4) (hb:c.set.toNat.testBit k=true):VP n m s c=Vt n m (AL s c):=by
 have e:=DR (n:=n) (m:=m) (s:=⟨s.ix,((s.cov.toNat|||c.set.toNat:Nat):Int),s.used.set c.typ.toNat (nth s.used c.typ.toNat+1)⟩) (k:=k) hk hkn (.inr (by
  simp only
  rw [WK _ _ Za,AD,hb,Bool.or_true]))
 exact e
theorem KV {x:Inst} {l ys:List Col} (hc:Ctx x l ys) {k:Nat} (hk:k<x.orders.length) {c:Col} (hm:c∈Ym ys k):c∈ys/\c∈l/\A2 c.set.toNat=(k:Int)/\c.set.toNat.testBit k=true:=by
 rw [Ym,QK,Zs] at hm;have hl:=gC hc.ch hm.1;obtain ⟨_,h0,h1,_⟩:=hc.set hl;exact ⟨hm.1,hl,hm.2,((Rn h0 h1 hc.n4 hk).1 hm.2).1⟩
theorem OO {x:Inst} {l ys:List Col} (hc:Ctx x l ys) {D:Nat} (hD:10<D) {s:St} {k:Nat} (hv:StV x.orders.length s) (hk:s.ix=k) (hkn:k<x.orders.length) (ho:(nth x.orders k).off=false) (hcv:s.cov.toNat.testBit k=false) :
  Lx x ys D s=if 0<=skpF x k then Y0 ((Ym ys k).foldl (fun o c=>if YK x s c=true then Y0 o c.price (Lx x ys D (AL s c)) else o) (-1)) (skpF x k) (Lx x ys D (GQ s)) else (Ym ys k).foldl (fun o c=>if YK x s c=true then Y0 o c.price (Lx x ys D (AL s c)) else o) (-1):=by
 have hn:=hc.n4
 have e1:Lx x ys D s=Wi x.orders.length (mI x) x (fstF x.orders.length ys) (skF x x.orders.length) (D+1) s:=by
  rw [Lx,DS hk (by grind [FS]) (by grind [B9])];exact Jv hc.ok _ _ s hv Za Za
 rw [e1,Wi,if_neg Za]
 have e2:nth (fstF x.orders.length ys) s.ix.toNat=Ym ys k:=by simp_all [NE]
 have e3:nth (skF x x.orders.length) s.ix.toNat=skpF x k:=by grind [skF,Zh]
 have e4:(Ym ys k).foldl (fun o c=>if YK x s c=true then Y0 o c.price (Wi x.orders.length (mI x) x (fstF x.orders.length ys) (skF x x.orders.length) D (VP x.orders.length (mI x) s c)) else o) (-1)=(Ym ys k).foldl (fun o c=>if YK x s c=true then Y0 o c.price (Lx x ys D (AL s c)) else o) (-1) :=
  JQ fun c hm o=>by rw [GM hk hkn hn (KV hc hkn hm).2.2.2];rfl
 simp only [e2,e3,e4]
 rfl
def KY (x:Inst) (ys:List Col) (D:Nat) (s:St) (c:Col):Bool:=YK x s c&&(decide (0<=Lx x ys D (AL s c))&&decide (c.price+Lx x ys D (AL s c)=Lx x ys D s))
noncomputable def BD (l:List Col) (d:Col):Nat:=open Classical in if h:Bst l l.length d then h.choose else 0
theorem SK {l:List Col} {d:Col} (h:Bst l l.length d):BD l d<l.length/\nth l (BD l d)=d/\ ∀i,i<l.length->kd (nth l i)=kd d->d.price<(nth l i).price\/(d.price=(nth l i).price/\BD l d<=i):=by
 have e:BD l d=h.choose:=by rw [BD,dif_pos h]
 grind
noncomputable def gr (x:Inst) (l ys:List Col) (D:Nat):Nat->Nat->St->List Int->List Int
 | 0,_,_,a=>a
 | d+1,k,s,a=>if (nth x.orders k).off=true\/0<=nth a k then gr x l ys D d (k+1) (GQ s) a else
  match (Ym ys k).find? (KY x ys D s) with
  | some c=>gr x l ys D d (k+1) (AL s c) (VN c.set.toNat a (BD l c))
  | none=>gr x l ys D d (k+1) (GQ s) a
theorem J7 {x:Inst} {l ys:List Col} (hc:Ctx x l ys) {a:List Int} {s:St} {k:Nat} (h:Nd x l a s k) (hk:k<x.orders.length) {c:Col} (hm:c∈Ym ys k) (hy:YK x s c=true):BD l c<l.length/\nth l (BD l c)=c/\Kr x l a (BD l c) k=true:=by
 obtain ⟨h1,h2,h3,h4⟩:=KV hc hk hm;obtain ⟨p1,p2,_⟩:=SK (hc.ch.bst c h1)
 grind [RL]
theorem B6 {x:Inst} {l:List Col} {a:List Int} {k j:Nat} (hl:a.length=x.orders.length) (hcan:Kr x l a j k=true):(nth l j).set.toNat.testBit k=true/\ ∀t,t<x.orders.length->(t<k\/0<=nth a t)->nth (VN (nth l j).set.toNat a j) t=nth a t:=by
 simp only [Kr,ZH,J9,hl] at hcan
 grind [Xy]
theorem Du {x:Inst} {l ys:List Col} (hc:Ctx x l ys) {D:Nat} : ∀(d k:Nat) (s:St) (a:List Int),k+d=x.orders.length->Nd x l a s k->(gr x l ys D d k s a).length=x.orders.length/\ ∀t,t<x.orders.length->(t<k\/0<=nth a t)->nth (gr x l ys D d k s a) t=nth a t
 | 0,k,s,a,_,h=>⟨h.len,fun _ _ _=>rfl⟩
 | d+1,k,s,a,hd,h=>by
  have hk:k<x.orders.length:=Za
  rw [gr];have skip:=Du hc (D:=D) d (k+1) (GQ s) a Za (h.skip' hk)
  split
  ·grind
  ·split
   ·rename_i c hf;have hsel:=QJ hf;simp only [KY,ZH] at hsel;obtain ⟨p1,p2,p3⟩:=J7 hc h hk (Q8 hf) hsel.1;have hch:=h.child hc hk p1 p3;rw [p2] at hch;have ho:=(B6 h.len p3).2;rw [p2] at ho;obtain ⟨g1,g2⟩:=Du hc (D:=D) d (k+1) (AL s c) _ Za hch;refine ⟨g1,fun t ht hh=> ?_⟩
    rw [g2 t ht (by
     rcases hh with h1 | h1
     ·left;omega
     ·right;rw [ho t ht (.inr h1)];exact h1),ho t ht hh]
   grind
theorem CI {x:Inst} {l:List Col} : ∀(d:Nat) (a:List Int) (p:Int),d<=x.orders.length->a.length=x.orders.length-> ∀q∈Ji x l d a p,q.1.length=x.orders.length/\ ∀t,t<x.orders.length->(t<x.orders.length-d\/0<=nth a t)->nth q.1 t=nth a t
 | 0,a,p,_,h,q,hq=>by
  simp only [Ji,Z3,Y7,Wq] at hq
  grind
 | d+1,a,p,hd,h,q,hq=>by
  rw [Ji] at hq
  split at hq
  ·obtain ⟨g1,g2⟩:=CI d a p Za h q hq;exact ⟨g1,fun t ht hh=>g2 t ht (hh.imp Za id)⟩
  ·rw [Xi,XU] at hq;rcases hq with ⟨j,hj,hq⟩ | hq
   ·split at hq
    ·rename_i hcan;have ho:=(B6 h hcan).2;obtain ⟨g1,g2⟩:=CI d _ _ Za (by rw [Uv];exact h) q hq;refine ⟨g1,fun t ht hh=> ?_⟩
     rw [g2 t ht (by
      rcases hh with h1 | h1
      ·left;omega
      ·right;rw [ho t ht (.inr h1)];exact h1),ho t ht hh]
    ·simp at hq
   ·split at hq
    ·obtain ⟨g1,g2⟩:=CI d a _ Za h q hq;exact ⟨g1,fun t ht hh=>g2 t ht (hh.imp Za id)⟩
    ·simp at hq
theorem KE.refl {n:Nat} {l:List Col} {a:List Int} :KE n l a a:=fun _ _=>⟨rfl,Int.le_refl _⟩
theorem ZcT {l:List Col} {a:Int} (h:a<0):ky l a=(1,0,0):=if_pos h
theorem Lq {l:List Col} {a:Int} (h:0<=a):ky l a=(0,(nth l a.toNat).typ,(nth l a.toNat).set):=if_neg Za
theorem Zjo {l:List Col} {i j:Nat} :ky l (i:Int)=ky l (j:Int)↔kd (nth l i)=kd (nth l j):=by
 grind [Lq,kd]
theorem jD {x:Inst} {s:St} {r:Col->Int} {ls:List Col} (hp: ∀c∈ls,0<=c.price) (hr: ∀c∈ls,YK x s c=true-> -1<=r c) {c:Col} (hc:c∈ls) (hy:YK x s c=true) (h0:0<=r c) :
  dR (ls.foldl (fun o c=>if YK x s c=true then Y0 o c.price (r c) else o) (-1)) (c.price+r c):=by
 have e:=JQ (f:=fun o c=>if YK x s c=true then Y0 o c.price (r c) else o) (g:=fun o c=>if YK x s c=true then Y0 o c.price (max (-1) (r c)) else o) (l:=ls) (b:=(-1:Int)) fun c hc o=>by
  grind
 rw [e];have:=(R6 (x:=x) (s:=s) (r:=fun c=>max (-1) (r c)) (fun c=>Za) (l:=ls) (a:= -1) hp).2 c hc hy Za
 grind
theorem OP {x:Inst} {l ys:List Col} (hc:Ctx x l ys) {D:Nat} {s:St} (hv:StV x.orders.length s): -1<=Lx x ys D s:=(Un (m:=mI x) hc.ok D _ (L3 hv).1).1
theorem RJ {o p r:Int} (hr: -1<=r) (hp:0<=p):dR (Y0 o p r) o/\(0<=r->dR (Y0 o p r) (p+r)):=by
 grind [dR,Y0]
theorem xO {x:Inst} {l ys:List Col} (hc:Ctx x l ys) {D:Nat} (hD:10<D) {a:List Int} {s:St} {k:Nat} (h:Nd x l a s k) (hk:k<x.orders.length) (ho:(nth x.orders k).off=false) (hak:nth a k<0) {c:Col} (hm:c∈Ym ys k) (hy:YK x s c=true) (h0:0<=Lx x ys D (AL s c)) :
  dR (Lx x ys D s) (c.price+Lx x ys D (AL s c)):=by
 have hcv:s.cov.toNat.testBit k=false:=by rw [h.cov k hk];grind
 rw [OO hc hD h.v h.ix hk ho hcv]
 have nd: ∀e∈Ym ys k,YK x s e=true->StV x.orders.length (AL s e):=fun e he hye=>by
  obtain ⟨p1,p2,p3⟩:=J7 hc h hk he hye;have:=(h.child hc hk p1 p3).v
  grind
 have low:=jD (x:=x) (s:=s) (r:=fun c=>Lx x ys D (AL s c)) (ls:=Ym ys k) (fun e he=>(hc.typ (KV hc hk he).2.1).2) (fun e he hye=>OP hc (nd e he hye)) hm hy h0
 split
 ·rename_i hs;have b:=(RJ (o:=(Ym ys k).foldl (fun o c=>if YK x s c=true then Y0 o c.price (Lx x ys D (AL s c)) else o) (-1)) (OP hc (D:=D) (h.skip' hk).v) hs).1
  grind [dR]
 ·exact low
theorem oV {x:Inst} {l ys:List Col} (hc:Ctx x l ys) {D:Nat} (hD:10<D) {a:List Int} {s:St} {k:Nat} (h:Nd x l a s k) (hk:k<x.orders.length) (ho:(nth x.orders k).off=false) (hak:nth a k<0) (hs:0<=skpF x k) (h0:0<=Lx x ys D (GQ s)) :
  dR (Lx x ys D s) (skpF x k+Lx x ys D (GQ s)):=by
 have hcv:s.cov.toNat.testBit k=false:=by rw [h.cov k hk];grind
 rw [OO hc hD h.v h.ix hk ho hcv,if_pos hs]
 grind [RJ]
theorem Rs {x:Inst} {l ys:List Col} (hc:Ctx x l ys) {D:Nat} {a:List Int} {s:St} {k:Nat} (h:Nd x l a s k) (hk:k<x.orders.length) (ho:(nth x.orders k).off=true\/0<=nth a k):Lx x ys D s=Lx x ys D (GQ s):=by
 unfold Lx;rw [DR h.ix hk (ho.imp (fun e=>by rw [FS hc.n4 hk,e];rfl) fun e=>by rw [B9 h.v (by have:=hc.n4;omega),h.cov k hk];grind)]
theorem Cj {x:Inst} {l ys:List Col} (hc:Ctx x l ys) {D:Nat} (hD:10<D): ∀(d k:Nat) (s:St) (a b:List Int) (p:Int),k+d=x.orders.length->Nd x l a s k->Nd x l b s k->KE x.orders.length l a b-> ∀q∈Ji x l d b p,
  0<=Lx x ys D s/\p+Lx x ys D s<=q.2/\(q.2=p+Lx x ys D s->KL x.orders.length l (gr x l ys D d k s a) q.1)
 | 0,k,s,a,b,p,hd,ha,hb,he,q,hq=>by
  simp only [Ji,Z3,Y7,Wq] at hq;subst hq;rw [dX (by rw [ha.ix];omega)];exact ⟨Za,Zb,fun _=> .inr he⟩
 | d+1,k,s,a,b,p,hd,ha,hb,he,q,hq=>by
  have hk:k<x.orders.length:=Za
  have hkd:x.orders.length-(d+1)=k:=Za
  have hneg: ∀t,t<x.orders.length->(0<=nth a t↔0<=nth b t):=fun t ht=>by
   have h1:=ha.cov t ht;rw [hb.cov t ht,decide_eq_decide] at h1;exact h1.symm
  rw [Ji,hkd] at hq;rw [gr]
  split at hq
  ·rename_i ho;have ho':(nth x.orders k).off=true\/0<=nth a k:=ho.imp id (hneg k hk).2;rw [if_pos ho',Rs hc ha hk ho'];exact Cj hc hD d (k+1) (GQ s) a b p Za (ha.skip' hk) (hb.skip' hk) he q hq
  ·rename_i ho;have ho': ¬((nth x.orders k).off=true\/0<=nth a k):=fun g=>ho (g.imp id (hneg k hk).1);rw [if_neg ho']
   have hoff:(nth x.orders k).off=false:=by
    grind
   have hbk:nth b k<0:=Int.not_le.1 fun g=>ho (.inr g);have hak:nth a k<0:=Int.not_le.1 fun g=>ho' (.inr g)
   -- what was picked stands at k
   have hpick: ∀c,(Ym ys k).find? (KY x ys D s)=some c->YK x s c=true/\c∈ys/\(∀t,t<k->nth (gr x l ys D d (k+1) (AL s c) (VN c.set.toNat a (BD l c))) t=nth a t)/\nth (gr x l ys D d (k+1) (AL s c) (VN c.set.toNat a (BD l c))) k=BD l c/\nth l (BD l c)=c:=fun c hf=>by
    have hsel:=QJ hf;simp only [KY,ZH] at hsel;obtain ⟨p1,p2,p3⟩:=J7 hc ha hk (Q8 hf) hsel.1;have hch:=ha.child hc hk p1 p3;obtain ⟨c1,c2⟩:=B6 ha.len p3;rw [p2] at hch c1 c2;have g2:=(Du hc (D:=D) d (k+1) (AL s c) _ Za hch).2;refine ⟨hsel.1,(KV hc hk (Q8 hf)).1,fun t ht=> ?_,?_,p2⟩
    ·grind
    ·rw [g2 k hk (.inl Za),Xy (by rw [ha.len];exact hk),if_pos c1]
   rw [Xi,XU] at hq;rcases hq with ⟨j,hj,hq⟩ | hq
   ·have hj:=ZM.1 hj
    split at hq
    ·rename_i hcan;obtain ⟨hy,htz⟩:=(RL hc hb hk hj).1 hcan;have hjl:=ZZ hj;obtain ⟨d',hd',hkd',hpr⟩:=gD hc.ch hjl
     have hst:d'.set=(nth l j).set/\d'.typ=(nth l j).typ:=by
      grind [kd]
     have hm:d'∈Ym ys k:=by
      simp_all [Ym]
     have hy':YK x s d'=true:=by grind [YK]
     have hnx:AL s d'=AL s (nth l j):=by grind [AL]
     have hcb:=hb.child hc hk hj hcan;obtain ⟨cb1,cb2⟩:=B6 hb.len hcan;have hqo:=(CI d _ _ Za (by rw [Uv];exact hb.len) q hq).2
     have hqt: ∀t,t<k->nth q.1 t=nth b t:=fun t ht=>by rw [hqo t Za (.inl Za),cb2 t Za (.inl ht)]
     have hqk:nth q.1 k=j:=by rw [hqo k hk (.inl Za),Xy (by rw [hb.len];exact hk),if_pos cb1]
     obtain ⟨i1,i2,_⟩:=Cj hc hD d (k+1) _ _ _ _ Za hcb hcb KE.refl q hq;rw [<- hnx] at i1 i2;have hle:=xO hc hD ha hk hoff hak hm hy' i1;have hp0:=(hc.typ (KV hc hk hm).2.1).2
     have hL0:0<=Lx x ys D s/\Lx x ys D s<=d'.price+Lx x ys D (AL s d'):=by
      rcases hle with h | h
      ·-- the least price would be lacking: not so, azs the column leads on
       omega
      ·exact h
     refine ⟨hL0.1,Za,fun hqc=> ?_⟩
     have hpe:d'.price=(nth l j).price:=Za
     have hLe:d'.price+Lx x ys D (AL s d')=Lx x ys D s:=Za
     have hsel:KY x ys D s d'=true:=by simp_all [KY]
     have hpos:=SK (hc.ch.bst d' hd')
     have hpj:BD l d'<=j:=by
      rcases hpos.2.2 j hj hkd'.symm with h | h
      ·omega
      ·exact h.2
     cases hf:(Ym ys k).find? (KY x ys D s) with
     | none=>rw [Au] at hf;simp_all
     | some c =>
      obtain ⟨k1,k2,k3,k4,k5⟩:=hpick c hf;simp only
      by_cases hcd:c=d'
      ·subst hcd;obtain ⟨p1,p2,p3⟩:=J7 hc ha hk hm hy';have hca:=ha.child hc hk p1 p3;rw [p2] at hca;rw [<- hnx] at hcb;refine (Cj hc hD d (k+1) _ _ _ _ Za hca hcb (fun t ht=> ?_) q hq).2.2 Za;rw [hst.1,Xy (by rw [ha.len];exact ht),Xy (by rw [hb.len];exact ht)]
       cases hbt:(nth l j).set.toNat.testBit t with
       | true =>
        rw [if_pos rfl,if_pos rfl,Zjo,p2]
        grind
       | false =>
        rw [if_neg Zb,if_neg Zb];exact he t ht
      ·-- an earlier kind
       have hlt:cfK c d'<0:=by
        have hpw:(Ym ys k).Pairwise fun a b=>cfK a b<0:=hc.ch.asc.filter _;obtain ⟨_,u,w,hab,hno⟩:=List.find?_eq_some_iff_append.1 hf;rw [hab] at hpw hm;rw [Ar,List.pairwise_cons] at hpw;rcases Xi.1 hm with h | h
        ·have:=hno d' h
         grind
        ·rcases Z3.1 h with h | h
         ·grind
         ·exact hpw.2.1.1 d' h
       rw [Fq] at hlt;refine .inl ⟨k,hk,fun t ht=> ?_,?_⟩
       ·rw [k3 t ht,hqt t ht];exact (he t Za).1
       ·rw [k4,hqk,Lq Za,Lq Za,XY,XY,k5]
        right
        grind
    ·simp at hq
   ·split at hq
    ·rename_i hpen;obtain ⟨s1,s2⟩:=hc.sk k hk hoff;have hs0:=s1.1 hpen;have hse:=s2 hs0;rw [<- hse] at hq;have hqo:=(CI d _ _ Za hb.len q hq).2;obtain ⟨i1,i2,i3⟩:=Cj hc hD d (k+1) (GQ s) a b _ Za (ha.skip' hk) (hb.skip' hk) he q hq;have hle:=oV hc hD ha hk hoff hak hs0 i1;have hrg:=OP hc (D:=D) ha.v
     have hL0:0<=Lx x ys D s/\Lx x ys D s<=skpF x k+Lx x ys D (GQ s):=by
      rcases hle with h | h
      ·omega
      ·exact h
     refine ⟨hL0.1,Za,fun hqc=> ?_⟩
     cases hf:(Ym ys k).find? (KY x ys D s) with
     | none=>grind
     | some c =>
      obtain ⟨k1,k2,k3,k4,k5⟩:=hpick c hf;simp only;refine .inl ⟨k,hk,fun t ht=> ?_,?_⟩
      ·rw [k3 t ht,hqo t Za (.inl Za)];exact (he t Za).1
      ·rw [k4,hqo k hk (.inl Za),Lq Za,ZcT hbk]
       left;omega
    ·simp at hq
theorem OE {x:Inst} {S:Nat} (hn:x.orders.length<=4) (hS:S<9223372036854775808):Rq S (Yt x x.orders.length)=(decide (S<2^x.orders.length)&&(List.range x.orders.length).all fun i=> !(S.testBit i&&(nth x.orders i).off)):=by
 rw [Wp,ZH,Zs,Rq,ZA,ZA]
 constructor
 ·intro h
  have key: ∀i,S.testBit i=true->i<x.orders.length/\(nth x.orders i).off=false:=fun i hi=>by
   have h63:i<63:=by
    rcases Y9 i 63 with h | h
    ·exact h
    ·have:2^63<=2^i:=Ys Za h
     grind [Ap]
   grind [Qa]
  refine ⟨Nat.lt_pow_two_of_testBit _ fun i hi=> ?_,fun i _=> ?_⟩
  ·grind
  grind
 ·rintro ⟨h1,h2⟩ i _
  cases hb:S.testBit i with
  | false=>rfl
  | true =>
   have hi:i<x.orders.length:=by
    rcases Y9 i x.orders.length with h | h
    ·exact h
    ·have:2^x.orders.length<=2^i:=Ys Za h
     grind [Ap]
   have:=h2 i (ZM.2 hi)
   simp_all [Qa]
theorem cE (x:Inst) (c:Col) (hn:x.orders.length<=4) (ht:x.types.length<=1048576) (hs:c.set<9223372036854775808):PC 84 [.p (Zv x),.p (Xp c)] (.bool (rightB x c)):=by
 obtain ⟨B,hB⟩: ∃B,B=rightB x c:=⟨_,rfl⟩;rw [<- hB]
 have h54:((pw 54:Nat):Int)=18014398509481984:=by decide
 refine Zd Tryz.func84 rfl Zjf ?_;simp (disch:=omega) only [Tryz.f84,go_sem,seval];refine Xe (Zc ?_);refine gF ?_ ?_<;>intro h1<;>simp (disch:=omega) only [Sh.out h1,go_sem,seval,↓reduceIte]
 ·grind [rightB]
 ·refine gF ?_ ?_<;>intro h2<;>simp (disch:=omega) only [Sh.out h2,go_sem,seval,↓reduceIte]
  ·grind [rightB]
  ·refine gF ?_ ?_<;>intro h3<;>simp (disch:=omega) only [Sh.out h3,go_sem,seval,↓reduceIte]
   ·grind [rightB]
   ·obtain ⟨S,hS⟩: ∃S:Nat,c.set=S:=⟨c.set.toNat,Za⟩
    have e0:B=(decide (S<2^x.orders.length)&&((List.range x.orders.length).all fun i=> !(S.testBit i&&(nth x.orders i).off))&&(decide (0<=c.price)&&decide (c.price<=18014398509481984))):=by
     grind [rightB,OE]
    rw [hS];refine Zo (IS x.orders.length Za) (Zc ?_);have hpw:pw x.orders.length=2^x.orders.length:=rfl;refine gF ?_ ?_<;>intro h4<;>simp (disch:=omega) only [Sh.out h4,go_sem,seval,↓reduceIte]
    ·grind [U1]
    ·refine gF ?_ ?_<;>intro h5<;>simp (disch:=omega) only [Sh.out h5,go_sem,seval,↓reduceIte]
     ·grind
     ·refine Zo (IS 54 Za) (Zc ?_);rw [h54];refine cD ?_ ?_<;>intro h6<;>simp (disch:=omega) only [Sh.out h6,go_sem,seval]
      ·grind
      ·have e1:B=((List.range x.orders.length).all fun i=> !(S.testBit i&&(nth x.orders i).off)):=by grind
       refine Zl [2,3] (fun k:Nat=> [(5,.p (.int .i64 k))]) (fun _=> [Zi x,I3 c]) (fun k=>k<=x.orders.length/\ ∀j,j<k->(!(S.testBit j&&(nth x.orders j).off))=true) (fun k=>x.orders.length-k) 0 ⟨Zb,fun j hj=>Za⟩ (Weak.mk ?_) ?_
       ·simp (disch:=omega) only [Zi,I3,hS,go_sem,seval]
       ·rintro k ⟨hk,hno⟩;simp (disch:=omega) only [Zi,I3,hS,go_sem,seval];refine cD ?_ ?_<;>intro h7<;>simp (disch:=omega) only [Sh.out h7,go_sem,seval,↓reduceIte]
        ·have hk2:k<x.orders.length:=Za
         refine (Li S k Za Za).use (Zc ?_);refine Q1 ?_ ?_<;>intro h8
         ·refine ZR ?_ ?_<;>intro h9
          ·grind
          ·exact ⟨k+1,⟨Za,Wm hno (by grind)⟩,Za,Weak.mk (by simp (disch:=omega) only [hS,go_sem,seval])⟩
         ·exact ⟨k+1,⟨Za,Wm hno (by rw [h8];rfl)⟩,Za,Weak.mk (by simp (disch:=omega) only [hS,go_sem,seval])⟩
        grind
def zCh : Chc:=⟨false,[],0⟩
def T1 (b:Chc):PV:= .agg [.bool b.found,.list (!b.found) (b.places.map eI),.int .i64 b.price]
@[go_sem] theorem ZlC (b:Chc):T1 b= .agg [.bool b.found,.list (!b.found) (b.places.map eI),.int .i64 b.price]:=Zk rfl rfl
def Mi (b:Chc):AM.Obj:= .cells [.p (.bool b.found),.p (.list (!b.found) (b.places.map eI)),.p (.int .i64 b.price)]
def Ei (x:Inst) (l:List Col):Chc:=(Ji x l x.orders.length (List.replicate x.orders.length (-1)) 0).foldl (YR l) zCh
def dV (x:Inst) (l:List Col) (b:Chc) (e:Int):Prop:=(8192<l.length/\b=zCh/\e=4)\/(l.length<=8192/\(∃c∈l,rightB x c=false)/\b=zCh/\e=2) \/
 (l.length<=8192/\(∀c∈l,rightB x c=true)/\(((Ei x l).found=false/\b=zCh/\e=24)\/((Ei x l).found=true/\b=Ei x l/\e=0)))
theorem EO {n i:Nat} (h:i<n):nth (List.replicate n (-1:Int)) i= -1:=by
 grind [Zh]
theorem SM {x:Inst} {l:List Col} :RngA x l (List.replicate x.orders.length (-1)):=⟨Zb,fun i hi=>by rw [EO hi];omega⟩
theorem MN {x:Inst} {l:List Col} (h4:x.orders.length<=4) (h6:x.types.length<=6) (hl:l.length<=1048576) (hs: ∀c∈l,c.set<9223372036854775808) (hr: ∀c∈l,rightB x c=true)
  (hsk: ∀k,k<x.orders.length->(nth x.orders k).off=false->0<=(nth x.orders k).penalty->0<=skR x k/\skR x k<=18014398509481984) (hus: ∀i,scoR 1152921504606846976 (unsF x i).1):ColsR x l :=
 ⟨h4,h6,hl,fun c hc=>by
  obtain ⟨S,q1,q2,q3,_⟩:=Qt (hr c hc) (hs c hc);have h:=hr c hc;simp only [rightB,ZH,Zs] at h
  exact ⟨⟨h.1,h.2.1⟩,h.2.2.2.2,S,q1,UF q3 (Ys (n:=2) Za h4)⟩,hsk,hus⟩
theorem Pi (x:Inst) (l:List Col) (lc:Bool) (h4:x.orders.length<=4) (h6:x.types.length<=6) (hl:l.length<=1048576) (hs: ∀c∈l,c.set<9223372036854775808)
  (hsk: ∀k,k<x.orders.length->(nth x.orders k).off=false->0<=(nth x.orders k).penalty->0<=skR x k/\skR x k<=18014398509481984) (hus: ∀i,scoR 1152921504606846976 (unsF x i).1) :
  ACalls Tryz.prog 51 [.p (Zv x),.p (.list lc (l.map Xp))] [] fun y H'=> ∃b e,dV x l b e/\y= .tup [.p (T1 b),.p (.int .i64 e)]/\H'= []:=by
 refine Zf [14] Tryz.func51 rfl ZiO ?_;simp (disch:=omega) only [Tryz.f51,go_sem,seval];refine cD ?_ ?_<;>intro h1<;>simp (disch:=omega) only [Sh.out h1,go_sem,seval,↓reduceIte]
 ·exact ⟨.tup [.p (T1 zCh),.p (.int .i64 4)],[],Weak.mk (by simp (disch:=omega) only [zCh,Vj,Zn,go_sem,seval]),_,_,.inl ⟨Za,rfl,rfl⟩,rfl,rfl⟩
 ·refine Zl [1,2,4] (fun k:Nat=> [(6,.p (.int .i64 k))]) (fun _=> [Zi x,Mi zCh]) (fun k=>k<=l.length/\ ∀j,j<k->rightB x (nth l j)=true) (fun k=>l.length-k) 0 ⟨Zb,fun j hj=>Za⟩ (Weak.mk ?_) ?_
  ·simp (disch:=omega) only [Zi,Mi,zCh,Vj,Zn,go_sem,seval]
  ·rintro k ⟨hk,hno⟩;simp (disch:=omega) only [Zi,Mi,zCh,Vj,Zn,go_sem,seval];refine cD ?_ ?_<;>intro h2<;>simp (disch:=omega) only [Sh.out h2,go_sem,seval,↓reduceIte]
   ·have hk2:k<l.length:=Za
    refine Xe (Zc ?_);refine Zo (cE x (nth l k) h4 Za (hs _ (ZZ hk2))) (Zc ?_)
    cases hr:rightB x (nth l k) with
    | false =>
     refine GG ?_;exact ⟨.tup [.p (T1 zCh),.p (.int .i64 2)],[],Weak.mk (by simp (disch:=omega) only [zCh,Vj,Zn,go_sem,seval]),_,_,.inr (.inl ⟨Za,⟨_,ZZ hk2,hr⟩,rfl,rfl⟩),rfl,rfl⟩
    | true =>
     refine BN ?_;exact ⟨k+1,⟨Za,Wm hno hr⟩,Za,wk⟩
   ·have hr: ∀c∈l,rightB x c=true:=fun c hc=>by
     obtain ⟨j,hj,rfl⟩:=ZN.1 hc
     grind [Zh]
    have hC:=MN h4 h6 hl hs hr hsk hus;clear hno hk h2;refine Z0 [14] [2,4,7] (fun k:Nat=> [(8,.sl 3 0 k k),(9,.p (.int .i64 k))]) (fun k=> [Zi x,Mi zCh,UR x lc l zCh,.elems 1 ((List.replicate k (-1:Int)).map eI)]) (fun k=>k<=x.orders.length) (fun k=>x.orders.length-k) 0 Zb (Weak.ofNil 8 1 (by simp (disch:=omega) only [go_sem,seval]) Zb (Weak.mk ?_)) ?_
    ·simp (disch:=omega) only [Zi,Mi,UR,zCh,Vj,Zn,List.replicate_zero,ZF,go_sem,seval]
    ·intro k hk;simp (disch:=omega) only [Zi,Mi,UR,zCh,Vj,Zn,go_sem,seval];refine cD ?_ ?_<;>intro h2<;>simp (disch:=omega) only [Sh.out h2,go_sem,seval,↓reduceIte]
     ·have hk2:k<x.orders.length:=Za
      have hrp:(List.replicate k (-1:Int))++ [-1]=List.replicate (k+1) (-1):=by rw [EK]
      simp (disch:=omega) only [CB,go_sem,seval];rw [if_pos ⟨Za,Za⟩];refine Zc ?_;exact ⟨k+1,Za,Za,Weak.mk (by simp (disch:=omega) only [<- hrp,Xs,Zq,Zn,go_sem,seval])⟩
     ·have hkn:k=x.orders.length:=Za
      subst hkn;refine Zp (Weak.fz (o:=3) (by rfl)) ?_;refine Zg [] _ _ _ _ ?_;simp (disch:=omega) only [Zq,Zn,Z1,ZW,CB,eq_self,go_sem,seval];have ht:=Ta x lc l hC x.orders.length (List.replicate x.orders.length (-1)) 0 zCh (ZB _) SM Za Za (fun h=>by cases h);rw [AI] at ht;obtain ⟨B,hB⟩: ∃B,B=Ei x l:=⟨_,rfl⟩;rw [show (Ji x l x.orders.length (List.replicate x.orders.length (-1)) 0).foldl (YR l) zCh=B from hB.symm] at ht;refine ACalls.mono (((ht.mono fun y H' hq=>(⟨hq,by grind⟩:_/\H'.length= [UR x lc l zCh].length)).front (by rfl) (by rfl) [.dead]).back [Zi x,Mi zCh] (by rfl)) ?_
      rintro y H' ⟨y1,H1,⟨H2,⟨rfl,rfl⟩,rfl⟩,rfl,rfl⟩;obtain ⟨f,bp,bc⟩:=B
      cases f with
      | false =>
       simp (disch:=omega) only [shV,shVs,shO,UR,Zi,Mi,zCh,Zq,Zn,ZL,Zz,Vj,go_sem,seval];exact ⟨.tup [.p (T1 zCh),.p (.int .i64 24)],[],Weak.mk (by simp (disch:=omega) only [zCh,Vj,Zn,go_sem,seval]),_,_,.inr (.inr ⟨Za,hr,.inl ⟨by rw [<- hB],rfl,rfl⟩⟩),rfl,rfl⟩
      | true =>
       simp (disch:=omega) only [shV,shVs,shO,UR,Zi,Mi,zCh,Zq,Zn,ZL,Zz,YD,go_sem,seval];exact ⟨.tup [.p (T1 ⟨true,bp,bc⟩),.p (.int .i64 0)],[],Weak.mk (by simp (disch:=omega) only [YD,go_sem,seval]),_,_,.inr (.inr ⟨Za,hr,.inr ⟨by rw [<- hB],hB,rfl⟩⟩),rfl,rfl⟩
theorem kJ {l:List Col} {x y:Int} (hx: -1<=x) (hy: -1<=y) (h:ky l x=ky l y):(x<0->x=y)/\(y<0->x=y)/\(0<=x->0<=y/\(nth l x.toNat).typ=(nth l y.toNat).typ/\(nth l x.toNat).set=(nth l y.toNat).set):=by
 unfold ky at h
 grind
theorem Do {l:List Col} : ∀ {a b:List Int},a.length=b.length->(∀t,t<a.length-> -1<=nth a t/\ -1<=nth b t/\ky l (nth a t)=ky l (nth b t))->Kq l a b=none
 | [],[],_,_=>MB
 | [],_::_,h,_=>by simp at h
 | _::_,[],h,_=>by simp at h
 | x::a,y::b,hl,h=>by
  have ih:=Do (l:=l) (a:=a) (b:=b) (by grind) fun t ht=>h (t+1) (by grind);obtain ⟨h1,h2,h3⟩:=h 0 Zb;obtain ⟨k1,k2,k3⟩:=kJ (show-1<=x from h1) (show-1<=y from h2) h3;rw [Kq]
  grind
theorem RG {l:List Col} : ∀ {a b:List Int} {i:Nat},a.length=b.length->i<a.length->(∀t,t<a.length-> -1<=nth a t/\ -1<=nth b t)->(∀t,t<i->ky l (nth a t)=ky l (nth b t))->kI (ky l (nth a i)) (ky l (nth b i))->Kq l a b=some true/\Kq l b a=some false
 | [],_,_,_,h,_,_,_=>by simp at h
 | _::_,[],_,h,_,_,_,_=>by simp at h
 | x::a,y::b,0,_,_,hr,_,h=>by
  obtain ⟨h1,h2⟩:=hr 0 Zb;have h':kI (ky l x) (ky l y):=h
  have hne:x≠y:=fun e=>by grind [kI]
  rw [Kq,Kq,if_neg hne,if_neg (Ne.symm hne)];unfold ky kI at h'
  grind
 | x::a,y::b,i+1,hl,hi,hr,he,h=>by
  have ih:=RG (l:=l) (a:=a) (b:=b) (i:=i) (by grind) (by grind) (fun t ht=>hr (t+1) (by grind)) (fun t ht=>he (t+1) Za) h;obtain ⟨h1,h2⟩:=hr 0 Zb;have h3:ky l x=ky l y:=he 0 Za;obtain ⟨k1,k2,k3⟩:=kJ (show-1<=x from h1) (show-1<=y from h2) h3;rw [Kq,Kq]
  grind
theorem RH : ∀ {a b:List Int},a.length=b.length->(∀t,t<a.length->nth a t<=nth b t)->a=b\/(Ej a b=true/\Ej b a=false)
 | [],[],_,_=> .inl rfl
 | [],_::_,h,_=>by simp at h
 | _::_,[],h,_=>by simp at h
 | x::a,y::b,hl,h=>by
  have h0:x<=y:=h 0 Zb;rw [Ej,Ej]
  by_cases hxy:x=y
  ·subst hxy;rw [if_pos rfl,if_pos rfl];rcases RH (a:=a) (b:=b) (by grind) (fun t ht=>h (t+1) (by grind)) with e | e
   ·grind
   grind
  grind
theorem xN {x:Inst} {l:List Col} {a b:List Int} (ha:RngA x l a) (hb:RngA x l b) (h:KL x.orders.length l a b):a=b\/(Fl l a b=true/\Fl l b a=false):=by
 have hl:a.length=b.length:=by rw [ha.1,hb.1]
 have hr: ∀t,t<a.length-> -1<=nth a t/\ -1<=nth b t:=fun t ht=>⟨(ha.2 t (by rw [<- ha.1];exact ht)).1,(hb.2 t (by rw [<- ha.1];exact ht)).1⟩;rcases h with ⟨i,hi,he,hlt⟩ | h
 ·obtain ⟨h1,h2⟩:=RG hl (by rw [ha.1];exact hi) hr he hlt
  grind [Jn]
 ·have h1:=Do (l:=l) hl fun t ht=>⟨(hr t ht).1,(hr t ht).2,(h t (by rw [<- ha.1];exact ht)).1⟩;have h2:=Do (l:=l) hl.symm fun t ht=>⟨(hr t Za).2,(hr t Za).1,((h t (by rw [<- hb.1];exact ht)).1).symm⟩;rcases RH hl fun t ht=>(h t (by rw [<- ha.1];exact ht)).2 with e | ⟨e1,e2⟩
  ·exact .inl e
  grind [Hk]
def Prf (l:List Col) (P:List Int) (W:Int) (q:List Int×Int):Prop:=W<=q.2/\(q.2=W->P=q.1\/(Fl l P q.1=true/\Fl l q.1 P=false))
theorem OA {l:List Col} {P:List Int} {W:Int} : ∀ {L:List (List Int×Int)},(∀q∈L,Prf l P W q)->L.foldl (YR l) ⟨true,P,W⟩=⟨true,P,W⟩
 | [],_=>rfl
 | q::L,h=>by
  have e:YR l ⟨true,P,W⟩ q=⟨true,P,W⟩:=by
   obtain ⟨h1,h2⟩:=h q Zb;unfold YR
   split
   ·rename_i hc;rcases hc with hc | hc | ⟨hc,hd⟩
    ·cases hc
    ·simp only at hc;omega
    ·simp only at hc hd;rcases h2 hc with e | ⟨_,e⟩
     ·rw [<- e,hc]
     ·rw [e] at hd;cases hd
   ·rfl
  rw [XR,e];exact OA fun q hq=>h q (Yq _ hq)
theorem Is {l:List Col} {P:List Int} {W:Int} : ∀ {L:List (List Int×Int)} {b:Chc},(b.found=false\/Prf l P W (b.places,b.price))->(∀q∈L,Prf l P W q)->(P,W)∈L->L.foldl (YR l) b=⟨true,P,W⟩
 | [],_,_,_,hm=>by simp at hm
 | q::L,b,hb,h,hm=>by
  rw [XR];have hq:=h q Zb;have hL: ∀q∈L,Prf l P W q:=fun q hq=>h q (Yq _ hq)
  by_cases e:q=(P,W)
  ·have:YR l b q=⟨true,P,W⟩:=by
    subst e;unfold YR
    split
    ·rfl
    ·rename_i hc;rcases hb with hb | ⟨h1,h2⟩
     ·grind
     ·simp only at h1 h2 hc
      have h3:b.price=W:=by
       omega
      rcases h2 h3 with e | ⟨e,_⟩
      ·obtain ⟨f,bp,bc⟩:=b
       grind
      grind
   grind [OA]
  ·refine Is ?_ hL (by
    rcases Z3.1 hm with h | h
    ·exact absurd h.symm e
    ·exact h)
   unfold YR
   split
   ·exact .inr hq
   ·exact hb
theorem R8 {x:Inst} {l ys:List Col} (hc:Ctx x l ys) {D:Nat} (hD:10<D): ∀(d k:Nat) (s:St) (a:List Int) (p:Int),k+d=x.orders.length->Nd x l a s k->0<=Lx x ys D s->(gr x l ys D d k s a,p+Lx x ys D s)∈Ji x l d a p
 | 0,k,s,a,p,hd,ha,h0=>by
  rw [dX (by rw [ha.ix];omega),UL,gr,Ji];simp
 | d+1,k,s,a,p,hd,ha,h0=>by
  have hk:k<x.orders.length:=Za
  have hkd:x.orders.length-(d+1)=k:=Za
  rw [Ji,hkd,gr]
  split
  ·rename_i ho;rw [Rs hc ha hk ho] at h0 ⊢;exact R8 hc hD d (k+1) _ a p Za (ha.skip' hk) h0
  ·rename_i ho
   have hoff:(nth x.orders k).off=false:=by
    cases e:(nth x.orders k).off with
    | false=>rfl
    | true=>exact absurd (.inl e) ho
   have hak:nth a k<0:=Int.not_le.1 fun g=>ho (.inr g)
   have hcv:s.cov.toNat.testBit k=false:=by rw [ha.cov k hk];exact U1 Za
   rw [Xi,XU]
   cases hf:(Ym ys k).find? (KY x ys D s) with
   | some c =>
    left
    have hsel:=QJ hf;simp only [KY,ZH,Zs] at hsel;obtain ⟨p1,p2,p3⟩:=J7 hc ha hk (Q8 hf) hsel.1;have hch:=ha.child hc hk p1 p3;rw [p2] at hch;refine ⟨BD l c,ZM.2 p1,?_⟩;rw [if_pos p3,p2];have:=R8 hc hD d (k+1) _ _ (p+c.price) Za hch hsel.2.1;rw [show p+c.price+Lx x ys D (AL s c)=p+Lx x ys D s by omega] at this;exact this
   | none =>
    right
    rw [Au] at hf;have hdec:=OO hc hD ha.v ha.ix hk hoff hcv;have hno: ∀c∈Ym ys k,YK x s c=true->0<=Lx x ys D (AL s c)->c.price+Lx x ys D (AL s c)≠Lx x ys D s:=fun c hm hy hL e=>hf c hm (by simp only [KY,hy,UK hL,UK e,Bool.and_self]);obtain ⟨s1,s2⟩:=hc.sk k hk hoff;have hfold:=HC (x:=x) (s:=s) (r:=fun c=>Lx x ys D (AL s c)) (l:=Ym ys k) (a:= -1)
    by_cases hs:0<=skpF x k
    ·rw [if_pos (s1.2 hs),<- s2 hs];rw [if_pos hs] at hdec;unfold Y0 at hdec
     split at hdec
     ·rename_i hb;have:=R8 hc hD d (k+1) _ a (p+skpF x k) Za (ha.skip' hk) hb.1;rw [show p+skpF x k+Lx x ys D (GQ s)=p+Lx x ys D s by omega] at this;exact this
     ·exfalso;rcases hfold with e | ⟨c,h1,h2,h3,h4⟩
      ·unfold Y0 at e;omega
      ·exact hno c h1 h2 h3 (by rw [hdec];exact h4.symm)
    ·exfalso;rw [if_neg hs] at hdec;rcases hfold with e | ⟨c,h1,h2,h3,h4⟩
     ·omega
     ·exact hno c h1 h2 h3 (by rw [hdec];exact h4.symm)
def SO (l:List Col) (g:List Int) (T:Nat):Nat->List Col
 | 0=> []
 | i+1=>SO l g T i++(if 0<=nth g i/\(nth l (nth g i).toNat).typ=T/\(nth l (nth g i).toNat).set%(pw i:Nat)=0 then [nth l (nth g i).toNat] else [])
def Mj (l:List Col) (g:List Int) (n:Nat):Nat->List Col
 | 0=> []
 | T+1=>Mj l g n T++SO l g T n
def dU (x:Inst) (g:List Int):Nat->List Int
 | 0=> []
 | i+1=>dU x g i++(if nth g i<0/\(nth x.orders i).off=false then [(i:Int)] else [])
theorem LQ {l:List Col} {g:List Int} {T:Nat} : ∀k,(SO l g T k).length<=k
 | 0=>ZB _
 | k+1=>by
  have:=LQ (l:=l) (g:=g) (T:=T) k;rw [SO,ZG];split<;>simp<;>omega
theorem LR {l:List Col} {g:List Int} {n:Nat} : ∀T,(Mj l g n T).length<=T*n
 | 0=>by simp [Mj]
 | T+1=>by
  have:=LR (l:=l) (g:=g) (n:=n) T;have:=LQ (l:=l) (g:=g) (T:=T) n;rw [Mj,ZG,XJ];omega
theorem Mc {x:Inst} {g:List Int} : ∀k,(dU x g k).length<=k
 | 0=>ZB _
 | k+1=>by
  have:=Mc (x:=x) (g:=g) k;rw [dU,ZG];split<;>simp<;>omega
def Mk (x:Inst) (l:List Col) (p:Pln) (c e:Int):Prop:= ∃b,dV x l b e/\(e≠0->p=zPlC/\c=0)/\(e=0->c=b.price/\p=⟨false,(Mj l b.places b.places.length x.types.length).map (·.route),false,dU x b.places b.places.length⟩)
def dT (v w:V):AM.Obj:= .cells [v,w]
theorem ML (x:Inst) (l:List Col) (lc:Bool) (h4:x.orders.length<=4) (h6:x.types.length<=6) (hl:l.length<=1048576) (hs: ∀c∈l,c.set<9223372036854775808)
  (hsk: ∀k,k<x.orders.length->(nth x.orders k).off=false->0<=(nth x.orders k).penalty->0<=skR x k/\skR x k<=18014398509481984) (hus: ∀i,scoR 1152921504606846976 (unsF x i).1) :
  ACalls Tryz.prog 31 [.p (Zv x),.p (.list lc (l.map Xp))] [] fun y H'=> ∃p c e,Mk x l p c e/\y= .tup [.p (JO p),.p (.int .i64 c),.p (.int .i64 e)]/\H'= []:=by
 refine Zf [18] Tryz.func31 rfl Ziv ?_;simp (disch:=omega) only [Tryz.f31,go_sem,seval];refine ((Pi x l lc h4 h6 hl hs hsk hus).behind (by rfl) _).mono ?_;rintro y H' ⟨y1,H1,⟨b,e,hb,rfl,rfl⟩,rfl,rfl⟩;simp (disch:=omega) only [shV,shVs,Zn,go_sem,seval];refine cD ?_ ?_<;>intro h1<;>simp (disch:=omega) only [Sh.out h1,go_sem,seval,↓reduceIte]
 ·exact ⟨.tup [.p (JO zPlC),.p (.int .i64 0),.p (.int .i64 e)],[],Weak.mk (by simp (disch:=omega) only [zPlC,Zn,go_sem,seval]),_,_,_,⟨b,hb,fun _=>⟨rfl,rfl⟩,fun h=>absurd h h1⟩,rfl,rfl⟩
 ·have he:e=0:=Za
  subst he;have hcv:=hb;rcases hb with ⟨_,_,h⟩ | ⟨_,_,_,h⟩ | ⟨hl2,hr,⟨_,_,h⟩ | ⟨hf,rfl,_⟩⟩
  ·cases h
  ·cases h
  ·cases h
  ·have hC:=MN h4 h6 hl hs hr hsk hus;have hrg:RngA x l (Ei x l).places:=(Me (x:=x) (l:=l) (b:=zCh) (fun h=>by cases h) (AJ x.orders.length SM)) hf;obtain ⟨⟨f,g,c⟩,hB⟩: ∃B,B=Ei x l:=⟨_,rfl⟩;rw [<- hB] at hcv hf hrg ⊢;simp only at hf hrg;subst hf;have hgl:g.length=x.orders.length:=hrg.1;refine Zl [1,2,4,7,9] (fun T:Nat=> [(10,.p (.int .i64 T))]) (fun T=> [Zi x,dT (.p (.list true [])) (.p (.list true [])),Mi ⟨true,g,c⟩,dT (.sl 4 0 (Mj l g g.length T).length (Mj l g g.length T).length) (.p (.list true [])),.elems 4 ((Mj l g g.length T).map fun c=>Wy c.route)]) (fun T=>T<=x.types.length) (fun T=>x.types.length-T) 0 Zb ((Weak.nilC (o:=3) (j:=0) 4 (by rfl) (by rfl) Zb).trans (Weak.mk ?_)) ?_
   ·simp (disch:=omega) only [Zi,dT,Mi,YD,Mj,Zn,ZF,Z1,ZW,go_sem,seval]
   ·intro T hT;obtain ⟨R,hR⟩: ∃R,R=Mj l g g.length T:=⟨_,rfl⟩;have hRl:=LR (l:=l) (g:=g) (n:=g.length) T;rw [<- hR] at hRl ⊢
    have hRs:Mj l g g.length (T+1)=R++SO l g T g.length:=by rw [hR];rfl
    have hTn:T*g.length<=6*4:=AC Za Za;simp (disch:=omega) only [Zi,dT,Mi,YD,go_sem,seval];refine cD ?_ ?_<;>intro h2<;>simp (disch:=omega) only [Sh.out h2,go_sem,seval,↓reduceIte]
    ·obtain ⟨W,hW⟩: ∃W:Nat->List Col,W=fun i=>R++SO l g T i:=⟨_,rfl⟩
     have hW0:W 0=R:=by grind [SO]
     have hWn:Mj l g g.length (T+1)=W g.length:=by rw [hRs,hW]
     have hWl: ∀i,(W i).length<=R.length+i:=fun i=>by
      grind [LQ]
     have hWs: ∀i,W (i+1)=W i++(if 0<=nth g i/\(nth l (nth g i).toNat).typ=T/\(nth l (nth g i).toNat).set%(pw i:Nat)=0 then [nth l (nth g i).toNat] else []):=fun i=>by grind [SO]
     clear hW hRs;refine Zl [1,2,4,7,9,10] (fun i:Nat=> [(11,.p (.int .i64 i))]) (fun i=> [Zi x,dT (.p (.list true [])) (.p (.list true [])),Mi ⟨true,g,c⟩,dT (.sl 4 0 (W i).length (W i).length) (.p (.list true [])),.elems 4 ((W i).map fun c=>Wy c.route)]) (fun i=>i<=g.length) (fun i=>g.length-i) 0 Zb (Weak.mk ?_) ?_
     ·simp (disch:=omega) only [Zi,dT,Mi,YD,hW0,go_sem,seval]
     ·intro i hi
      have hQl:(W i).length<=28:=by grind
      have hQs:=hWs i;simp (disch:=omega) only [Zi,dT,Mi,YD,go_sem,seval];refine ZR ?_ ?_<;>intro h3
      ·have hi2:i<g.length:=Za
       have hri:=hrg.2 i Za;refine Xe (Zc ?_);refine Q1 ?_ ?_<;>intro h5
       ·have hj:(nth g i).toNat<l.length:=Za
        obtain ⟨⟨t0,t1⟩,⟨c0,c1⟩,S,hS,hS2⟩:=hC.col _ (ZZ hj);refine Q1 ?_ ?_<;>intro h7
        ·have hpp:0<pw i/\pw i<=pw 4:=⟨Ga i,Ko Za⟩;refine Zo (IS i Za) (Zc ?_);rw [hS];refine ZR ?_ ?_<;>intro h8
         ·rw [if_pos ⟨h5,h7,by grind⟩] at hQs;refine ZC 12 mixed Ze Ze ?_;refine Zc ?_;exact ⟨i+1,Za,Za,Weak.mk (by simp (disch:=omega) only [hQs,Xs,Zq,Zn,ZG,ZD,ZF,Xl,go_sem,seval])⟩
         ·rw [if_neg (fun h=>h8 (by grind)),Y8] at hQs;exact ⟨i+1,Za,Za,Weak.mk (by simp (disch:=omega) only [hQs,go_sem,seval])⟩
        ·rw [if_neg (fun h=>h7 h.2.1),Y8] at hQs;exact ⟨i+1,Za,Za,Weak.mk (by simp (disch:=omega) only [hQs,go_sem,seval])⟩
       ·rw [if_neg (fun h=>h5 h.1),Y8] at hQs;exact ⟨i+1,Za,Za,Weak.mk (by simp (disch:=omega) only [hQs,go_sem,seval])⟩
      ·have hig:i=g.length:=Za
       subst hig;exact ⟨T+1,Za,Za,Weak.mk (by simp (disch:=omega) only [hWn,go_sem,seval])⟩
    ·have hTt:T=x.types.length:=Za
     subst hTt;refine Z0 [18] [2,4,7,9] (fun i:Nat=> [(12,.p (.int .i64 i))]) (fun i=> [Zi x,dT (.p (.list true [])) (.p (.list true [])),Mi ⟨true,g,c⟩,dT (.sl 4 0 R.length R.length) (.sl 5 0 (dU x g i).length (dU x g i).length),.elems 4 (R.map fun c=>Wy c.route),.elems 1 ((dU x g i).map eI)]) (fun i=>i<=g.length) (fun i=>g.length-i) 0 Zb ((Weak.nilC (o:=3) (j:=1) 1 (by rfl) (by rfl) Zb).trans (Weak.mk ?_)) ?_
     ·simp (disch:=omega) only [Zi,dT,Mi,YD,dU,Zn,ZF,Z1,ZW,go_sem,seval]
     ·intro i hi;obtain ⟨U,hU⟩: ∃U,U=dU x g i:=⟨_,rfl⟩;have hUl:=Mc (x:=x) (g:=g) i
      have hUs:dU x g (i+1)=U++(if nth g i<0/\(nth x.orders i).off=false then [(i:Int)] else []):=by rw [hU];rfl
      rw [<- hU] at hUl ⊢;simp (disch:=omega) only [Zi,dT,Mi,YD,go_sem,seval];refine cD ?_ ?_<;>intro h3<;>simp (disch:=omega) only [Sh.out h3,go_sem,seval,↓reduceIte]
      ·have hi2:i<g.length:=Za
       refine Q1 ?_ ?_<;>intro h5
       ·cases ho:(nth x.orders i).off with
        | true =>
         rw [if_neg (by rw [ho];simp),Y8] at hUs;refine BN ?_;exact ⟨i+1,Za,Za,Weak.mk (by simp (disch:=omega) only [hUs,go_sem,seval])⟩
        | false =>
         rw [if_pos ⟨h5,ho⟩] at hUs;refine GG ?_;exact ⟨i+1,Za,Za,Weak.mk (by simp (disch:=omega) only [hUs,Xs,Zq,Zn,ZG,ZD,ZF,Xl,go_sem,seval])⟩
       ·rw [if_neg (fun h=>h5 h.1),Y8] at hUs;exact ⟨i+1,Za,Za,Weak.mk (by simp (disch:=omega) only [hUs,go_sem,seval])⟩
      ·have hig:i=g.length:=Za
       subst hig;refine Zp (Weak.fz (o:=4) (by rfl)) ?_;refine Zp (Weak.fz (o:=5) (by rfl)) ?_;refine Zg [] _ _ _ _ ?_;simp (disch:=omega) only [Zq,Zn,Z1,ZW,eq_self,go_sem,seval];refine Bq [3] [1,2] [2] 4 mixed Ze Ze Ze Ze Zb (Zc ?_);refine ⟨fun q hq p' hp=> ?_,?_⟩
       ·simp only [Z3,Y7,Wq] at hq;rcases hq with rfl | rfl
        ·obtain rfl:7=p':=Vi hp;exact V2 (by decide)
        ·obtain rfl:114=p':=Vi hp;exact V2 (by decide)
       ·refine No 3 _ _ Ze (by refine Zc ?_;exact ⟨rfl,rfl⟩) ?_;refine ⟨fun k hk=>by simp at hk;subst hk;rfl,Ls ?_⟩;refine Zc ?_;exact ⟨.tup [.p (JO ⟨false,R.map (·.route),false,U⟩),.p (.int .i64 c),.p (.int .i64 0)],[],Weak.mk (by simp (disch:=omega) only [List.map_map,Function.comp_def,go_sem,seval]),_,_,_,⟨_,hcv,fun h=>absurd rfl h,fun _=>⟨rfl,by rw [hR,hU]⟩⟩,rfl,rfl⟩
theorem FE {α:Type} {p q:α->Bool} : ∀ {l:List α},(∀a∈l,p a=q a)->l.find? p=l.find? q
 | [],_=>rfl
 | a::l,h=>by
  rw [List.find?_cons,List.find?_cons,h a Zb,FE fun a ha=>h a (Yq _ ha)]
def RA (l:List Col) (g:List Int):Nat->Nat->List Col
 | 0,_=> []
 | d+1,k=>(if 0<=nth g k/\A2 (nth l (nth g k).toNat).set.toNat=(k:Int) then [nth l (nth g k).toNat] else [])++RA l g d (k+1)
def UA (x:Inst) (g:List Int):Nat->Nat->List Int
 | 0,_=> []
 | d+1,k=>(if nth g k<0/\(nth x.orders k).off=false then [(k:Int)] else [])++UA x g d (k+1)
theorem uD {x:Inst} {l ys:List Col} (hc:Ctx x l ys) {D:Nat} (hD:D=20) {s:St} {k:Nat} (hv:StV x.orders.length s) (hk:s.ix=k) (hkn:k<x.orders.length) (ho:(nth x.orders k).off=false) (hcv:s.cov.toNat.testBit k=false) {c:Col} (hm:c∈Ym ys k) :
  LZ x.orders.length (mI x) x (fstF x.orders.length ys) (skF x x.orders.length) s c=KY x ys D s c:=by
 have hn:=hc.n4;have e1:=DS (n:=x.orders.length) hk (m:=mI x) (by grind [FS]) (by grind [B9]);have e2:=GM (m:=mI x) hk hkn hn (KV hc hkn hm).2.2.2
 grind [LZ,KY,Lx]
theorem EU {x:Inst} {l ys:List Col} (hc:Ctx x l ys) {D:Nat} (hD:D=20): ∀(d k:Nat) (s:St) (a:List Int) (f:Nat),k+d=x.orders.length->d<f->Nd x l a s k ->
  Yv x.orders.length (mI x) x (fstF x.orders.length ys) (skF x x.orders.length) f (Vt x.orders.length (mI x) s)=(RA l (gr x l ys D d k s a) d k,UA x (gr x l ys D d k s a) d k)
 | 0,k,s,a,0,_,hf,_=>Za
 | 0,k,s,a,f+1,hd,_,h=>by
  rw [Yv,if_pos,RA,UA];simp only [Vt];have:=Da (n:=x.orders.length) (m:=mI x) (cov:=s.cov) (x.orders.length-s.ix.toNat) s.ix.toNat;have:=h.ix;omega
 | d+1,k,s,a,0,_,hf,_=>Za
 | d+1,k,s,a,f+1,hd,hf,h=>by
  have hk:k<x.orders.length:=Za
  have hn:=hc.n4;rw [gr]
  split
  ·rename_i ho;have hsk:=ho.imp (fun e=>show sHas (mI x) k=false by grind [FS]) (fun e=>show sHas s.cov k=true by rw [B9 h.v Za,h.cov k hk];grind);rw [DR h.ix hk hsk,EU hc hD d (k+1) (GQ s) a (f+1) Za Za (h.skip' hk)];have hg:=(Du hc (D:=D) d (k+1) (GQ s) a Za (h.skip' hk)).2 k hk (.inl Za);rw [RA,UA,hg,if_neg,if_neg,Zz,Zz]
   ·grind
   ·rintro ⟨g1,g2⟩;obtain ⟨t,t1,t2⟩:=h.old k hk (ZB _) g1;have hr:=h.rng k hk;obtain ⟨_,s0,s1,_⟩:=hc.set (ZZ (l:=l) (i:=(nth a k).toNat) Za);have:=((Rn s0 s1 hn hk).1 g2).2 t Za t2;omega
  ·rename_i ho
   have hoff:(nth x.orders k).off=false:=by
    grind
   have hak:nth a k<0:=Int.not_le.1 fun g=>ho (.inr g)
   have hcv:s.cov.toNat.testBit k=false:=by rw [h.cov k hk];grind
   rw [DS h.ix (by grind [FS]) (by rw [B9 h.v Za,hcv]),Yv,if_neg (by rw [h.ix];omega)]
   have e2:nth (fstF x.orders.length ys) s.ix.toNat=Ym ys k:=by rw [h.ix,XY,NE,if_pos hk]
   rw [e2,FE (q:=KY x ys D s) fun c hm=>uD hc hD h.v h.ix hk hoff hcv hm]
   cases hfd:(Ym ys k).find? (KY x ys D s) with
   | some c =>
    have hsel:=QJ hfd;have hm:=Q8 hfd;simp only [KY,ZH] at hsel;obtain ⟨p1,p2,p3⟩:=J7 hc h hk hm hsel.1;have hch:=h.child hc hk p1 p3;obtain ⟨c1,c2⟩:=B6 h.len p3;rw [p2] at hch c1 c2;have hg:=(Du hc (D:=D) d (k+1) (AL s c) _ Za hch).2 k hk (.inl Za);rw [Xy (by rw [h.len];exact hk),if_pos c1] at hg;simp only;rw [GM h.ix hk hn (KV hc hk hm).2.2.2,EU hc hD d (k+1) (AL s c) _ f Za Za hch,RA,UA,hg,if_pos ⟨Za,by rw [XY,p2];exact (KV hc hk hm).2.2.1⟩,if_neg Za,XY,p2]
    rfl
   | none =>
    have hg:=(Du hc (D:=D) d (k+1) (GQ s) a Za (h.skip' hk)).2 k hk (.inl Za);simp only;have e3:DF x.orders.length (mI x) s=Vt x.orders.length (mI x) (GQ s):=rfl;rw [e3,EU hc hD d (k+1) (GQ s) a f Za Za (h.skip' hk),RA,UA,hg,if_neg Za,if_pos ⟨hak,hoff⟩,h.ix]
    rfl
theorem Ix {l:List Col} {g:List Int} {c:Col} : ∀(d k:Nat),c∈RA l g d k↔ ∃i,k<=i/\i<k+d/\0<=nth g i/\A2 (nth l (nth g i).toNat).set.toNat=(i:Int)/\c=nth l (nth g i).toNat
 | 0,k=>by simp [RA];omega
 | d+1,k=>by
  rw [RA,Xi,Ix d (k+1)]
  constructor
  ·rintro (h | ⟨i,h1,h2,h3⟩)
   ·split at h
    ·grind
    ·simp at h
   grind
  grind
theorem dY {l:List Col} {g:List Int} : ∀(d k:Nat),(RA l g d k).Pairwise fun a b=>A2 a.set.toNat<A2 b.set.toNat
 | 0,k=> .nil
 | d+1,k=>by
  rw [RA,Ar];refine ⟨?_,dY d (k+1),fun a ha b hb=> ?_⟩
  ·split<;>simp
  ·split at ha
   ·rename_i hh;obtain ⟨i,h1,h2,h3,h4,rfl⟩:=(Ix _ _).1 hb
    grind
   ·simp at ha
theorem Ru {x:Inst} {g:List Int} : ∀(d k:Nat),UA x g (d+1) k=UA x g d k++(if nth g (k+d)<0/\(nth x.orders (k+d)).off=false then [((k+d:Nat):Int)] else [])
 | 0,k=>by simp [UA]
 | d+1,k=>by
  rw [UA,Ru d (k+1),UA,J6,show k+1+d=k+(d+1) by omega]
theorem eC {x:Inst} {g:List Int} : ∀n,UA x g n 0=dU x g n
 | 0=>rfl
 | n+1=>by rw [Ru,eC n,dU,Xl]
theorem Zdf : ∀S:Fin 16,0<S.val-> ∀i:Fin 4,S.val.testBit i.val=true->((S.val:Int)%(pw i.val:Nat)=0↔A2 S.val=(i.val:Int)):=by decide+kernel
theorem AU {l:List Col} {g:List Int} {T:Nat} {c:Col} : ∀k,c∈SO l g T k↔ ∃i,i<k/\0<=nth g i/\(nth l (nth g i).toNat).typ=T/\(nth l (nth g i).toNat).set%(pw i:Nat)=0/\c=nth l (nth g i).toNat
 | 0=>by simp [SO]
 | k+1=>by
  rw [SO,Xi,AU k]
  constructor
  ·grind
  grind
theorem LS {l:List Col} {g:List Int} {n:Nat} {c:Col} : ∀T,c∈Mj l g n T↔ ∃t,t<T/\c∈SO l g t n
 | 0=>by simp [Mj]
 | T+1=>by
  rw [Mj,Xi,LS T]
  grind
theorem xJ {x:Inst} (hx:InstOk x) {k:Nat} (hk:k<x.orders.length) (ho:(nth x.orders k).off=false):(0<=(nth x.orders k).penalty↔0<=skpF x k)/\(0<=skpF x k->skpF x k=skR x k):=by
 have ha:=(hx.orders.2 k hk).arg;simp only [argOk,rng,ZH,Zs] at ha
 have e:unsF x k=if (nth x.orders k).penalty= -1 then (zSco,23) else (⟨(nth x.orders k).penalty,if (nth x.orders k).now= -1 then 0 else 1,0,0⟩,0):=by
  simp_all [unsF,if_neg]
 by_cases hp:(nth x.orders k).penalty= -1
 ·simp_all [skpF]
 ·have hm:(if (nth x.orders k).now= -1 then (0:Int) else 1)=0\/(if (nth x.orders k).now= -1 then (0:Int) else 1)=1:=Za
  have e2:skpF x k=skR x k/\0<=skR x k:=by
   rw [skpF,skR,e,if_neg hp];generalize (if (nth x.orders k).now= -1 then (0:Int) else 1)=m at hm
   have:YA ⟨(nth x.orders k).penalty,m,0,0⟩=((((nth x.orders k).penalty*16+m)*16+0)*65536+0,0):=by
    rw [YA,if_neg (by grind),if_neg (by grind)]
   grind
  omega
theorem iB {x:Inst} {l ys:List Col} (hx:InstOk x) (hn:x.orders.length<=4) (hC:Cheap l ys) (hr: ∀c∈l,rightB x c=true) (hs: ∀c∈l,c.set<9223372036854775808):Ctx x l ys :=
 have hok:=RM hx hn hC hr hs
 ⟨hn,hok.typ.1,hC,hr,hs,hok,fun _ hk ho=>xJ hx hk ho⟩
theorem Td {l:List Col} {n:Nat} {T:Int} : ∀m,m<=n->usdI l (List.replicate n (-1)) T m=0
 | 0,_=>rfl
 | m+1,h=>by
  rw [usdI,Td m Za,K9,EO Za,U1 Za];rfl
theorem SC (x:Inst) (l:List Col):Nd x l (List.replicate x.orders.length (-1)) zSt 0:=by
 have hz: ∀i,i<x.orders.length->nth (List.replicate x.orders.length (-1:Int)) i= -1:=fun i hi=>EO hi;refine ⟨Zb,rfl,xM _,fun i hi=> ?_,fun i hi=>by grind,fun T hT=> ?_,fun i hi h=>by grind,fun i hi _ h=>by grind,fun i hi h=>by grind⟩
 ·simp_all [zSt]
 ·rw [Td _ (ZB _)]
  have:T=0\/T=1\/T=2\/T=3\/T=4\/T=5:=Za
  rcases this with rfl | rfl | rfl | rfl | rfl | rfl<;>rfl
theorem Nd.RngA {x:Inst} {l:List Col} {a:List Int} {s:St} {k:Nat} (h:Nd x l a s k):RngA x l a:=⟨h.len,h.rng⟩
theorem M9 {x:Inst} {l ys:List Col} (hc:Ctx x l ys) {D:Nat} : ∀(d k:Nat) (s:St) (a:List Int),k+d=x.orders.length->Nd x l a s k-> ∃s',Nd x l (gr x l ys D d k s a) s' x.orders.length
 | 0,k,s,a,hd,h=>⟨s,by grind [gr]⟩
 | d+1,k,s,a,hd,h=>by
  have hk:k<x.orders.length:=Za
  rw [gr]
  split
  ·exact M9 hc d (k+1) _ _ Za (h.skip' hk)
  ·split
   ·rename_i c hf;have hsel:=QJ hf;simp only [KY,ZH] at hsel;obtain ⟨p1,p2,p3⟩:=J7 hc h hk (Q8 hf) hsel.1;have hch:=h.child hc hk p1 p3;rw [p2] at hch;exact M9 hc d (k+1) _ _ Za hch
   ·exact M9 hc d (k+1) _ _ Za (h.skip' hk)
theorem Rz {x:Inst} {l ys:List Col} (hc:Ctx x l ys) {D:Nat} (hD:10<D) :
  (Lx x ys D zSt<0->(Ei x l).found=false)/\(0<=Lx x ys D zSt->Ei x l=⟨true,gr x l ys D x.orders.length 0 zSt (List.replicate x.orders.length (-1)),Lx x ys D zSt⟩):=by
 have hz:=SC x l;have hb:=Cj hc hD x.orders.length 0 zSt _ _ 0 Za hz hz KE.refl;obtain ⟨s',hg⟩:=M9 hc (D:=D) x.orders.length 0 zSt _ Za hz
 constructor
 ·intro h
  have:Ji x l x.orders.length (List.replicate x.orders.length (-1)) 0= []:=by
   cases e:Ji x l x.orders.length (List.replicate x.orders.length (-1)) 0 with
   | nil=>rfl
   | cons q L=>grind
  rw [Ei,this];rfl
 ·intro h;have hin:=R8 hc hD x.orders.length 0 zSt _ 0 Za hz h;rw [Int.zero_add] at hin;refine Is (.inl rfl) (fun q hq=> ?_) hin;obtain ⟨_,h2,h3⟩:=hb q hq;rw [Int.zero_add] at h2 h3;exact ⟨h2,fun e=>xN hg.RngA (AJ _ hz.RngA q hq) (h3 e)⟩
theorem SP {l:List Col} {g:List Int} {T n:Nat} (hdv: ∀i,i<n->0<=nth g i->((nth l (nth g i).toNat).set%(pw i:Nat)=0↔A2 (nth l (nth g i).toNat).set.toNat=(i:Int))): ∀k,k<=n->(SO l g T k).Pairwise fun a b=>qO a b<0
 | 0,_=> .nil
 | k+1,hk=>by
  rw [SO,Ar];refine ⟨SP hdv k Za,by split<;>simp,fun a ha b hb=> ?_⟩
  split at hb
  ·rename_i hh
   obtain rfl:b=nth l (nth g k).toNat:=by grind
   obtain ⟨i,h1,h2,h3,h4,rfl⟩:=(AU _).1 ha;rw [JL,h3,hh.2.1]
   right
   refine ⟨rfl,?_⟩
   show A2 _<A2 _
   grind
  ·simp at hb
theorem SQ {l:List Col} {g:List Int} {n:Nat} (hdv: ∀i,i<n->0<=nth g i->((nth l (nth g i).toNat).set%(pw i:Nat)=0↔A2 (nth l (nth g i).toNat).set.toNat=(i:Int))): ∀T,(Mj l g n T).Pairwise fun a b=>qO a b<0
 | 0=> .nil
 | T+1=>by
  rw [Mj,Ar];refine ⟨SQ hdv T,SP hdv n (ZB _),fun a ha b hb=> ?_⟩;obtain ⟨t,h1,h2⟩:=(LS _).1 ha;obtain ⟨i,_,_,h3,_,rfl⟩:=(AU _).1 h2;obtain ⟨j,_,_,h5,_,rfl⟩:=(AU _).1 hb
  simp_all [JL]
theorem cK {x:Inst} {l ys:List Col} (hc:Ctx x l ys) {g:List Int} {s:St} (hg:Nd x l g s x.orders.length) {zs:List Col} (hp:zs.Perm (RA l g x.orders.length 0)) (ha:zs.Pairwise fun a b=> ¬qO b a<0):zs=Mj l g x.orders.length x.types.length:=by
 have hn:=hc.n4;have hin: ∀i,i<x.orders.length->0<=nth g i->nth l (nth g i).toNat∈l:=fun i hi h0=>ZZ (by have:=hg.rng i hi;omega)
 have hdv: ∀i,i<x.orders.length->0<=nth g i->((nth l (nth g i).toNat).set%(pw i:Nat)=0↔A2 (nth l (nth g i).toNat).set.toNat=(i:Int)):=fun i hi h0=>by
  obtain ⟨e,s0,s1,_⟩:=hc.set (hin i hi h0);have h16:(nth l (nth g i).toNat).set.toNat<16:=UF s1 (Ys (n:=2) Za hn);have:=Zdf ⟨_,h16⟩ s0 ⟨i,Za⟩ (hg.own i hi h0)
  grind
 have hne:zs.Pairwise fun a b=>lo a≠lo b:=by
  have h1:(RA l g x.orders.length 0).Pairwise fun a b=>lo a≠lo b:=(dY _ _).imp fun {a b} h e=>by
   have e':A2 a.set.toNat=A2 b.set.toNat:=e;omega
  exact (hp.pairwise_iff fun h e=>h e.symm).2 h1
 have hz:zs.Pairwise fun a b=>qO a b<0:=(hne.and ha).imp fun {a b} h=>by
  have h1:=h.1;have h2:=h.2;rw [JL] at h2 ⊢;omega
 refine GD (r:=fun a b=>qO a b<0) (fun a=>by rw [JL];omega) (fun a b=>by rw [JL,JL];omega) hz (SQ hdv _) fun c=> ?_;rw [hp.mem_iff,Ix,LS]
 constructor
 ·rintro ⟨i,_,h1,h2,h3,rfl⟩;have ht:=(hc.typ (hin i Za h2)).1;exact ⟨(nth l (nth g i).toNat).typ.toNat,Za,(AU _).2 ⟨i,Za,h2,Za,(hdv i Za h2).2 h3,rfl⟩⟩
 ·rintro ⟨t,_,h⟩;obtain ⟨i,h1,h2,h3,h4,rfl⟩:=(AU _).1 h
  grind
theorem MC {x:Inst} {ys:List Col} {D:Nat} (hD:D=20):Lv x ys=Lx x ys D zSt:=by subst hD;rfl
theorem Zjq {x:Inst} {l:List Col} {a e e':Int} {b:Chc} (hx:InstOk x) (hn:x.orders.length<=4) (hs: ∀c∈l,c.set<9223372036854775808) (h:Znk x l a e) (h':dV x l b e'):a=b.price/\e=e':=by
 rcases h with ⟨g1,rfl,rfl⟩ | ⟨g1,⟨c,gc,g2⟩,rfl,rfl⟩ | ⟨g1,g2,ys,g3,rfl,rfl⟩<;>rcases h' with ⟨k1,rfl,rfl⟩ | ⟨k1,⟨c',kc,k2⟩,rfl,rfl⟩ | ⟨k1,k2,k3⟩
 ·exact ⟨rfl,rfl⟩
 ·omega
 ·omega
 ·omega
 ·exact ⟨rfl,rfl⟩
 ·grind
 ·omega
 ·grind
 ·obtain ⟨D,hD⟩: ∃D:Nat,D=20:=⟨20,rfl⟩;rw [MC hD];obtain ⟨q1,q2⟩:=Rz (iB hx hn g3 g2 hs) (D:=D) Za;rcases k3 with ⟨f,rfl,rfl⟩ | ⟨f,rfl,rfl⟩
  ·have:Lx x ys D zSt<0:=Int.not_le.1 fun h0=>by grind
   rw [if_pos this,if_pos this];exact ⟨rfl,rfl⟩
  grind
theorem gJ {x:Inst} {l:List Col} {p q:Pln} {c e c' e':Int} (hx:InstOk x) (hn:x.orders.length<=4) (hs: ∀c∈l,c.set<9223372036854775808) (h:oU x l p c e) (h':Mk x l q c' e'):c=c'/\e=e'/\p.routes=q.routes/\p.unserved=q.unserved/\p.routes.length<=24/\p.unserved.length<=24/\ ∀r∈p.routes,∃c∈l,r=c.route:=by
 obtain ⟨b,hb,h1,h2⟩:=h';have z:zPlC.routes.length<=24/\zPlC.unserved.length<=24/\ ∀r∈zPlC.routes,∃c∈l,r=c.route:=⟨by simp [zPlC],by simp [zPlC],fun r hr=>by simp [zPlC] at hr⟩;rcases h with ⟨g1,rfl,rfl,rfl⟩ | ⟨g1,⟨c,gc,g2⟩,rfl,rfl,rfl⟩ | ⟨g1,g2,ys,g3,g4,g5⟩<;>rcases hb with ⟨k1,rfl,rfl⟩ | ⟨k1,⟨c',kc,k2⟩,rfl,rfl⟩ | ⟨k1,k2,k3⟩
 ·grind
 ·omega
 ·omega
 ·omega
 ·grind
 ·grind
 ·omega
 ·grind
 ·obtain ⟨D,hD⟩: ∃D:Nat,D=20:=⟨20,rfl⟩;have hc:=iB hx hn g3 g2 hs;obtain ⟨q1,q2⟩:=Rz hc (D:=D) Za;rw [MC hD] at g5;rcases g5 with ⟨g6,rfl,rfl,rfl⟩ | ⟨g6,rfl,rfl,zs,hp,ha,rfl⟩
  ·grind
  ·rcases k3 with ⟨f,rfl,rfl⟩ | ⟨f,rfl,rfl⟩
   ·grind
   ·obtain ⟨rfl,rfl⟩:=h2 rfl;have hz:=SC x l;have hpk:=EU hc hD x.orders.length 0 zSt _ 20 Za Za hz;obtain ⟨s',hg⟩:=M9 hc (D:=D) x.orders.length 0 zSt _ Za hz;rw [q2 g6];simp only [mI] at hpk;rw [hpk] at hp ⊢;simp only at hp ⊢;have hzs:=cK hc hg hp ha;rw [hg.len,eC,hzs];have l1:=LR (l:=l) (g:=gr x l ys D x.orders.length 0 zSt (List.replicate x.orders.length (-1))) (n:=x.orders.length) x.types.length;have l2:=Mc (x:=x) (g:=gr x l ys D x.orders.length 0 zSt (List.replicate x.orders.length (-1))) x.orders.length
    have l3:x.types.length*x.orders.length<=6*4:=AC hc.t6 hn;refine ⟨trivial,trivial,rfl,rfl,by grind,Za,fun r hr=> ?_⟩;obtain ⟨c,hcm,rfl⟩:=XC.1 hr;rw [<- hzs,hp.mem_iff,Ix] at hcm;obtain ⟨i,_,i1,i2,_,rfl⟩:=hcm;exact ⟨_,ZZ (by have:=hg.rng i Za;omega),rfl⟩
theorem FD {α:Type} [DecidableEq α] {p q:α->Bool} {a:α} : ∀ {l:List α},l.Nodup->a∈l->p a=false->q a=true->(∀b∈l,b≠a->p b=q b)->(l.filter q).length=(l.filter p).length+1
 | [],_,h,_,_,_=>by simp at h
 | b::l,hn,h,hp,hq,he=>by
  rw [List.nodup_cons] at hn
  by_cases e:b=a
  ·grind [Ax]
  ·have ih:=FD hn.2 (by
    grind) hp hq fun c hc=>he c (Yq _ hc)
   grind
theorem GI {ok:List Vis->Bool} {col:List Vis->Col} {better:Col->Col->Bool} (hb: ∀a b,(better a b=true->a.price<=b.price)/\(better a b=false->b.price<=a.price)): ∀(L:List (List Vis)) (b:Col×Bool),(b.2=true->(L.foldl (XE ok col better) b).2=true/\(L.foldl (XE ok col better) b).1.price<=b.1.price) /\
  ∀m∈L,ok m=true->(L.foldl (XE ok col better) b).2=true/\(L.foldl (XE ok col better) b).1.price<=(col m).price
 | [],b=>⟨fun h=>⟨h,Int.le_refl _⟩,fun m hm=>by simp at hm⟩
 | l::L,b=>by
  rw [XR];obtain ⟨g1,g2⟩:=GI hb L (XE ok col better b l)
  have hu:(b.2=true->(XE ok col better b l).2=true/\(XE ok col better b l).1.price<=b.1.price)/\(ok l=true->(XE ok col better b l).2=true/\(XE ok col better b l).1.price<=(col l).price):=by
   unfold XE
   split
   ·rename_i hc;refine ⟨fun h=>⟨rfl,?_⟩,fun _=>⟨rfl,Int.le_refl _⟩⟩;rcases hc.2 with h2 | h2
    ·rw [h2] at h;cases h
    ·exact (hb _ _).1 h2
   ·rename_i hc;refine ⟨fun h=>⟨h,Int.le_refl _⟩,fun h=> ?_⟩
    have h2:b.2=true:=by
     cases h3:b.2 with
     | true=>rfl
     | false=>exact absurd ⟨h,.inl h3⟩ hc
    have h4:better (col l) b.1=false:=by
     cases h3:better (col l) b.1 with
     | false=>rfl
     | true=>exact absurd ⟨h,.inr h3⟩ hc
    exact ⟨h2,(hb _ _).2 h4⟩
  refine ⟨fun h=> ?_,fun m hm hk=> ?_⟩
  ·obtain ⟨h1,h2⟩:=hu.1 h;obtain ⟨h3,h4⟩:=g1 h1;exact ⟨h3,Int.le_trans h4 h2⟩
  grind
theorem jO {x:Inst} {S:Nat} {m:List Vis} (h:Gr x S m): ∀(f k:Nat),m.length=k+f->m∈Bd (fun l=>nextU x S l x.orders.length) f (m.take k)
 | 0,k,hl=>by
  grind [Bd]
 | f+1,k,hl=>by
  have hk:k<m.length:=Za
  have ha:=h.at k hk;rw [Bd,if_neg (fun e=>by grind),XU];refine ⟨nth m k,ha,?_⟩
  have e:m.take k++ [nth m k]=m.take (k+1):=by rw [X0 hk,Zh hk]
  rw [e];exact jO h f (k+1) Za
theorem NO {x:Inst} {l:List Vis} (h:RightV x l):Xt l≠0:=fun e=>by
 obtain ⟨v,hv⟩: ∃v,v∈l:=by
  cases l with
  | nil=>exact absurd rfl h.ne
  | cons v l=>simp
 have hi:=h.inr v hv;have hb:=(h.bit v.order.toNat).2 ⟨v,hv,Za⟩
 grind
theorem qJ (a b:Col):(Wn a b=true->a.price<=b.price)/\(Wn a b=false->b.price<=a.price):=by
 unfold Wn
 grind
theorem TQ {x:Inst} (hx:InstOk x) {k:Int} {m:List Vis} (ht:0<=(nth x.types k.toNat).opn) (hok:F2 x k m=true) (z:Col×Bool) :
  Wt x.orders x.apart x.before ((Xt m:Nat):Int)=0/\(Ek x k (Xt m) z).2=true/\(Ek x k (Xt m) z).1.price<=(YL x (Jf k m)).1:=by
 have hf:=XK hx
 have hn:x.orders.length<=60:=by have:=hf.len;omega
 have hr:RightV x m:=WD (Up hok);have ha:=hr.alw hf;have hS:=(hr.lt hf).2;refine ⟨(QE hn hS hf.val).2 ha,?_⟩;rw [Pf hx (NO hr) hS ha ht z,B4];have hg:=hr.gr hf m.length (ZB _);rw [Yd] at hg;have hin:m∈Bd (CN x (Xt m)) (WV x (Xt m)) []:=jO hg (WV x (Xt m)) 0 (by rw [hr.len hf,WV];omega)
 have hR:Dj x k (Xt m) m=true:=by
  unfold Dj;rw [hok,Up hok,hr.ord hf];simp
 exact (GI qJ _ z).2 m hin hR
theorem BS {g:FuncId} {args:List V} {R:Pln->Int->Int->Prop} {H:List AM.Obj} {K:V->List AM.Obj->Prop} (h:ACalls Tryz.prog g args [] fun y H'=> ∃p c e,R p c e/\y= .tup [.p (JO p),.p (.int .i64 c),.p (.int .i64 e)]/\H'= []) (k: ∀p c e,R p c e->K (.tup [.p (JO p),.p (.int .i64 c),.p (.int .i64 e)]) H) (ha:Xn 0 args=true:=by rfl):ACalls Tryz.prog g args H K :=
 (h.behind ha H).mono fun x H' hq=>by
  obtain ⟨y,H1,⟨p,c,e,hr,rfl,rfl⟩,rfl,rfl⟩:=hq
  grind [shV,shVs]
theorem DY {ok:List Vis->Bool} {col:List Vis->Col} {better:Col->Col->Bool} : ∀(L:List (List Vis)) (b:Col×Bool),(L.foldl (XE ok col better) b).2=true->(b.2=true/\(L.foldl (XE ok col better) b).1=b.1)\/ ∃m∈L,ok m=true/\(L.foldl (XE ok col better) b).1=col m
 | [],b,h=> .inl ⟨h,rfl⟩
 | l::L,b,h=>by
  rw [XR] at h ⊢;rcases DY L _ h with ⟨h1,h2⟩ | ⟨m,h1,h2,h3⟩
  ·rw [h2];unfold XE at h1 ⊢
   grind
  grind
theorem Dp {x:Inst} {k:Int} {S:Nat} (h:(VQ x k S).2=0): ∃m,m∈Sn x k S (WV x S) [] (st0 (nth x.types k.toNat))/\F2 x k m=true/\(VQ x k S).1=YU x k S m:=by
 unfold VQ at h ⊢
 split at h
 ·rename_i hc;rw [if_pos hc];rcases DY _ _ hc.2 with ⟨h1,_⟩ | ⟨m,h1,h2,h3⟩
  ·cases h1
  ·exact ⟨m,h1,h2,h3⟩
 ·cases h
theorem NX {one:Nat->List Col} {c:Col} : ∀q,c∈BH one q↔ ∃S,1<=S/\S<=q/\c∈one S
 | 0=>by simp [BH];omega
 | q+1=>by
  rw [BH,Xi,NX q]
  grind
theorem Ms {one:Nat->Nat->List Col} {N:Nat} {c:Col} : ∀K,c∈Ug one N K↔ ∃k S,k<K/\1<=S/\S<=N/\c∈one k S
 | 0=>by simp [Ug]
 | K+1=>by
  rw [Ug,Xi,Ms K,NX]
  grind
noncomputable def XF (x:Inst):List Col:=Ug (VK x) (2^x.orders.length-1) x.types.length
theorem BY {x:Inst} {c:Col} :c∈XF x↔ ∃k S,k<x.types.length/\0<S/\S<2^x.orders.length/\(VQ x (k:Int) S).2=0/\c=(VQ x (k:Int) S).1:=by
 have hp1:1<=2^x.orders.length:=Nat.one_le_two_pow;rw [XF,Ms]
 constructor
 ·grind [VK]
 ·rintro ⟨k,S,h1,h2,h3,h4,h5⟩;exact ⟨k,S,h1,Za,Za,by simp_all [VK]⟩
theorem fB {x:Inst} {c:Col} (h:c∈XF x): ∃(k S:Nat) (m:List Vis),k<x.types.length/\0<S/\S<2^x.orders.length/\m.length=WV x S/\F2 x k m=true/\c=YU x k S m:=by
 obtain ⟨k,S,h1,h2,h3,h4,rfl⟩:=BY.1 h;obtain ⟨m,m1,m2,m3⟩:=Dp h4;exact ⟨k,S,m,h1,h2,h3,by have:=Lw _ _ _ m m1;grind,m2,m3⟩
theorem Ey {x:Inst} (hn:x.orders.length<=4) (h6:x.types.length<=6):(XF x).length<=96/\ ∀c∈XF x,c.set<9223372036854775808/\Zdm c.route:=by
 have hp2:2^x.orders.length<=2^4:=Ys Za hn;refine ⟨?_,fun c hc=> ?_⟩
 ·have h1:=BX (N:=2^x.orders.length-1) (KS (x:=x)) x.types.length;have h2:x.types.length*(2^x.orders.length-1)<=6*16:=AC Za Za;unfold XF;omega
 ·obtain ⟨k,S,m,_,_,h3,h4,_,rfl⟩:=fB hc;have:=Dg x S x.orders.length;unfold WV at h4;exact ⟨by grind [YU],by grind [YU,Jf],by simp [YU,Jf]⟩
theorem uL (x:Inst) (hx:InstOk x) (hn:x.orders.length<=4) (h6:x.types.length<=6) (hbl:x.before.length<=1048576) (hal:x.apart.length<=1048576) :
  ACalls Tryz.prog 47 [.p (Zv x)] [] fun y H'=> ∃p c e,oU x (XF x) p c e/\y= .tup [.p (JO p),.p (.int .i64 c),.p (.int .i64 e)]/\H'= []:=by
 obtain ⟨hl,hc⟩:=Ey hn h6;have ca:=NP x hx hn h6 hbl hal;have cc:=bM x (XF x) false hx hn Za (fun c h=>(hc c h).1) Za;rw [show Ug (VK x) (2^x.orders.length-1) x.types.length=XF x from rfl] at ca;generalize XF x=L at ca cc ⊢;refine Zf [] Tryz.func47 rfl ZiK ?_;simp (disch:=omega) only [Tryz.f47,go_sem,seval];refine W3 ca (Zc ?_);refine BS cc fun p c e hR=>Zc ?_;exact ⟨.tup [.p (JO p),.p (.int .i64 c),.p (.int .i64 e)],[],wk,p,c,e,hR,rfl,rfl⟩
theorem cW (x:Inst) (hx:InstOk x) (hn:x.orders.length<=4) (h6:x.types.length<=6) (hbl:x.before.length<=1048576)
  (hsk: ∀k,k<x.orders.length->(nth x.orders k).off=false->0<=(nth x.orders k).penalty->0<=skR x k/\skR x k<=18014398509481984) (hus: ∀i,scoR 1152921504606846976 (unsF x i).1) :
  ACalls Tryz.prog 12 [.p (Zv x)] [] fun y H'=> ∃p c e,Mk x (XF x) p c e/\y= .tup [.p (JO p),.p (.int .i64 c),.p (.int .i64 e)]/\H'= []:=by
 obtain ⟨hl,hc⟩:=Ey hn h6;have ca:=pA x hx hn h6 hbl;have cc:=ML x (XF x) false hn h6 Za (fun c h=>(hc c h).1) hsk hus;rw [show Ug (VK x) (2^x.orders.length-1) x.types.length=XF x from rfl] at ca;generalize XF x=L at ca cc ⊢;refine Zf [] Tryz.func12 rfl Zid ?_;simp (disch:=omega) only [Tryz.f12,go_sem,seval];refine W3 ca (Zc ?_);refine BS cc fun p c e hR=>Zc ?_;exact ⟨.tup [.p (JO p),.p (.int .i64 c),.p (.int .i64 e)],[],wk,p,c,e,hR,rfl,rfl⟩
theorem SL {x:Inst} {r:Rte} (h0:r.start=0) (hz:r.rests= []):YL x r=YL x (Jf r.typ r.visits):=by
 cases r
 simp only at h0 hz;subst h0;subst hz;rfl
theorem gZ {x:Inst} (hx:InstOk x) {r:Rte} (he:(YL x r).2=0) (hty:0<=r.typ/\r.typ<(x.types.length:Int)) (h0:r.start=0) (hz:r.rests= []) :
  ∃j,j<(XF x).length/\(nth (XF x) j).typ=r.typ/\(nth (XF x) j).set=((Xt r.visits:Nat):Int)/\(nth (XF x) j).price<=(YL x r).1:=by
 obtain ⟨k,hk⟩: ∃k:Nat,r.typ=(k:Int):=⟨r.typ.toNat,Za⟩
 have hkl:k<x.types.length:=Za
 have hok:F2 x (k:Int) r.visits=true:=by
  grind [F2,SL]
 have hr:RightV x r.visits:=WD (r:=Jf (k:Int) r.visits) (Up hok)
 have hopn:0<=(nth x.types (k:Int).toNat).opn:=by
  simp_all [WM]
 obtain ⟨g1,g2,g3⟩:=TQ hx (k:=(k:Int)) (m:=r.visits) hopn hok (WA,false)
 have hv:VQ x (k:Int) (Xt r.visits)=((Ek x (k:Int) (Xt r.visits) (WA,false)).1,0):=by
  simp_all [VQ]
 have hS:Xt r.visits<2^x.orders.length:=by
  rcases Nat.div_eq_zero_iff.1 (hr.lt (XK hx)).2 with h | h
  ·grind [pw]
  ·exact h
 have hmem:(VQ x (k:Int) (Xt r.visits)).1∈XF x:=BY.2 ⟨k,Xt r.visits,hkl,Nat.pos_of_ne_zero (NO hr),hS,by rw [hv],rfl⟩;obtain ⟨m,_,_,m3⟩:=Dp (x:=x) (k:=(k:Int)) (S:=Xt r.visits) (by rw [hv]);obtain ⟨j,hj,e⟩:=List.getElem_of_mem hmem;refine ⟨j,hj,?_⟩;rw [Zh hj,e];refine ⟨by rw [m3,hk];rfl,by rw [m3];rfl,?_⟩
 grind [SL]
end Go.Proofs.YtenjikkmmibffaaGreatDoor.K
