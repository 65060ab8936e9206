/- Declarations that the closing texts need, part 24: joined by tools/slim.py. -/
import Derived.Test.YtiigdaohjanidaaGreatDoorS23
import Derived.Shelf.SlSortCmp.NoneTotal
set_option linter.unusedVariables false
set_option linter.unusedSimpArgs false
namespace Go.AM
open Go.RowKit Go.Shelf Go.Lib Go.Sort Go.Proofs
theorem bC {W w':World} {H':List AM.Obj} {ι':List (Option Nat)} (g:Good KJ [] [] W H' ι' w'): ∃q os',w'=grow (W.drewN q) os':=by
 refine ⟨w'.drawn-W.drawn,w'.heap.extract W.heap.size w'.heap.size,?_⟩
 have h1:w'.heap=W.heap++w'.heap.extract W.heap.size w'.heap.size:=by
  apply Array.ext_getElem?;intro i
  by_cases hi:i<W.heap.size
  ·rw [B4 hi];exact g.keep i hi Zb
  ·rw [Array.getElem?_append_right Za];have:=g.size;rw [Array.getElem?_extract]
   split
   ·congr 1;omega
   ·rw [Array.getElem?_eq_none Za]
 have h2:W.drawn<=w'.drawn:=g.tape.2.resolve_right fun h=>h;have h3:=g.tape.1;have h4:=g.os;have h5:=g.output
 cases w'
 simp only [grow,World.drewN] at *
 congr 1
 omega
def NA (c:Array Value) (k i:Nat):List Value:=(List.range k).map fun j=>c.getD (i*k+j) undef
theorem Ep (c k i):(NA c k i).length=k:=by simp [NA]
theorem Bw {c k i j} (h:j<k):(NA c k i)[j]! =c.getD (i*k+j) undef:=by
 rw [List.getElem!_eq_getElem?_getD,NA,Xq,List.getElem?_range h];rfl
theorem ACalls.sortFunc {P : Program} {ρ : Ren} (L : SlLaysF0.n6 P ρ) (hg : Zi P (ρ.f 6)) (k : Nat) (aE : ∀ w, (isAgg (ρ.t 24)).run P w = .ok true w) (zE : ∀ w, (Go.sizeOf (ρ.t 24)).run P w = .ok k w)
    {β : Type} [Inhabited β] (f : β -> PV) (hf : ∀ x, ∃ cs, f x = .agg cs /\ cs.length = k /\ cs.all (·.one) = true) (cf : β -> β -> Int) (hO : SWO (ltOf cf)) (g : FuncId)
    (hcmp : ∀ x y, ACalls P g [.p (f x), .p (f y)] [] fun r H' => r = .p (.int .i64 (cf x y)) /\ H' = []) (xs : List β) (hlen : xs.length < 4611686018427387904) {H : List AM.Obj} {o : Nat} (hHo : H[o]? = some (.elems k (xs.map f))) :
    ACalls P (ρ.f 6) [.sl o 0 xs.length xs.length, .fn (.func g) [] []] H fun y H' => y = .tup [] /\ ∃ ys : List β, ys.Perm xs /\ ys.Pairwise (fun a b => ¬ cf b a < 0) /\ H' = H.set o (.elems k (ys.map f)) := by
  refine ⟨hg, fun F ι w vs hr hv => ?_⟩;obtain ⟨hv1, hv2⟩ := hv;have h0 := hv2 0 _ rfl;have h1 := hv2 1 _ rfl
  have hvs : vs = #[vs.getD 0 undef, vs.getD 1 undef] := by
    apply Array.ext
    · simpa using hv1
    · intro i h2 h3
      have : i = 0 \/ i = 1 := by simp at hv1; omega
      rcases this with rfl | rfl <;> simp [Array.getD, h2]
  rw [hvs];generalize vs.getD 0 undef = v0 at h0 ⊢;generalize vs.getD 1 undef = v1 at h1 ⊢;clear hvs hv1 hv2
  cases h1 with | fn _ _ _ a e hs ht _ _ =>
  have ea : a = #[] := CY (by simpa using hs);have ee : e = #[] := CY (by simpa using ht);subst ea; subst ee;generalize hL : xs.length = n at h0 hlen
  by_cases hz : n = 0
  · subst hz
    obtain rfl : xs = [] := List.length_eq_zero_iff.1 hL
    have e1 : H.set o (.elems k (([] : List β).map f)) = H := by
      apply Q2;intro i;rw [Ui]
      split
      · rename_i hi; subst hi; rw [hHo]; simp [(ZK.1 hHo).1]
      · rfl
    obtain ⟨ad, cap, rfl⟩ : ∃ ad cap, v0 = .slice ad 0 cap := by
      cases h0 with
      | slNil => exact ⟨_, _, rfl⟩
      | sl => exact ⟨_, _, rfl⟩
      | slD _ _ _ _ _ hd => rw [hHo] at hd; cases hd
      | slS _ _ _ _ _ S2 xs2 hd hne => rw [hHo] at hd; simp at hd; obtain ⟨_, rfl⟩ := hd; simp at hne
      | slC _ _ _ _ _ _ hd => rw [hHo] at hd; cases hd
    refine (AnyF.slices_SortFunc_none L ad cap _ w).mono ?_;rintro e w' ⟨rfl, rfl⟩;exact ⟨.tup [], _, ι, _, rfl, ⟨rfl, [], .refl _, .nil, e1.symm⟩, Good.refl hr, .tup [] #[] Zb Zb⟩
  have hn : 0 < n := Za
  cases h0 with
  | slNil => omega
  | slD _ _ _ _ _ hd => rw [hHo] at hd; cases hd
  | slS _ _ _ _ _ S ys hd hlt => rw [hHo] at hd; simp at hd; obtain ⟨_, rfl⟩ := hd; simp at hlt; omega
  | slC _ _ _ _ _ _ hd => rw [hHo] at hd; cases hd
  | sl _ _ _ _ b S cap t ys c hι hH ht2 hw hcap hl hle hm =>
  rw [hHo] at hH;simp at hH;obtain ⟨rfl, rfl⟩ := hH;rcases hr.elm o k (xs.map f) hHo with ⟨e1, _⟩ | ⟨b2, c2, t2, cap2, e1, e2, e3, e4, e5, e6, e7⟩
  · rw [hι] at e1; cases e1
  rw [hι] at e1;simp at e1; subst e1;rw [hw] at e2;simp at e2;obtain ⟨rfl, rfl⟩ := e2;have hbs : b < w.heap.size := (hr.avo o b hι).2;have hbF : ¬ F b := (hr.avo o b hι).1
  -- an index, made one that there is
  let ix : Nat -> Nat := fun i => if i < n then i else 0
  have hix : ∀ i, ix i < n := fun i => by simp only [ix]; split <;> omega
  have hixe : ∀ i, i < n -> ix i = i := fun i hi => by simp only [ix]; rw [if_pos hi]
  let enc : Nat -> List Value := fun i => NA c k (ix i)
  have hk : ∀ x, (enc x).length = k := fun x => Ep _ _ _
  -- one cell of an element
  have cell : ∀ i, i < n -> ∃ cs, f (nth xs i) = .agg cs /\ cs.length = k /\ ∀ (j : Nat) (y : PV), cs[j]? = some y -> y.one = true /\ RP (Own F ι) w y (c.getD (i * k + j) undef) := fun i hi => by
    obtain ⟨cs, q1, q2, q3⟩ := hf (nth xs i);refine ⟨cs, q1, q2, fun j y hj => ⟨Zu.1 q3 y (Xj hj), ?_⟩⟩;refine e7 i (f (nth xs i)) j y ?_ (by rw [q1]; exact hj);rw [Xq, WG Za, Zh Za]; rfl
  have one : ∀ x, ∀ v ∈ enc x, v.oneCell' = true := fun x v hv => by
    obtain ⟨j, hj, rfl⟩ := ZW.1 hv
    have hjk : j < k := by rw [hk] at hj; exact hj
    obtain ⟨cs, q1, q2, q3⟩ := cell (ix x) (hix x);have hg := q3 j (cs[j]'(Za)) Zb
    have e9 : (enc x)[j] = c.getD (ix x * k + j) undef := by
      have := Bw (c := c) (i := ix x) hjk;rw [List.getElem!_eq_getElem?_getD, WG (by rw [Ep]; exact hjk)] at this;exact this
    rw [e9];exact hg.2.oneCell hg.1
  let d : Array Nat := Array.range n
  have hd : d.size = n := by simp [d]
  let cf' : Nat -> Nat -> Int := fun i j => cf (nth xs (ix i)) (nth xs (ix j))
  have hO' : SWO (ltOf cf') := ⟨fun x => hO.irrefl _, fun x y z h1 h2 => hO.trans _ _ _ h1 h2, fun x y z h1 h2 => hO.ntrans _ _ _ h1 h2⟩
  have hsz : n * k <= c.size := by
    rw [e3]; exact XY k (by simpa [hL] using e4)
  have hcell : ∀ j, j < c.size -> w.cell? ⟨b, j, none⟩ = some (c.getD j undef) := fun j hj => by
    simp [World.cell?, hw, hj]
  have hHolds : HoldsK enc k w b (0 * k) d := fun j hj => by
    have hj2 : j < n * k := by simpa [hd] using hj
    have k0 : 0 < k := by rcases Nat.eq_zero_or_pos k with h | h; · subst h; simp at hj2
                          · exact h
    rw [get_flatK enc k d j (by rw [hd]; exact hj2)];have hdj : j / k < n := Nat.div_lt_of_lt_mul (by rw [Kw]; exact hj2)
    have hde : d[j / k]! = j / k := by simp [d, hdj]
    rw [hde]
    have e9 : (enc (j / k))[j % k]! = c.getD j undef := by
      show (NA c k (ix (j / k)))[j % k]! = _
      rw [hixe _ hdj, Bw (UD _ k0), Nat.div_add_mod']
    rw [e9, Nat.zero_mul, XG];exact ⟨hcell j Za, by simp [World.frozen?, hw]⟩
  have hcmp' : CmpLays P g #[] enc k cf' b (0 * k) d.size w := fun m os dk hdk x y => by
    generalize hW : sortWorldK enc k w b (0 * k) m dk os = W
    have hKeep : Keeps (Own F ι) w KJ W := fun b' hb' hs' => by
      have hne : b' ≠ b := fun e => hb' (.inr (e ▸ Xj hι));refine ⟨fun h => h, ?_, ?_⟩
      · rw [<- hW]; simp [sortWorldK, grow, putRowK, putRow, mapBlock, ahead]; omega
      · rw [<- hW]
        simp only [sortWorldK, grow, putRowK, putRow, mapBlock, ahead];rw [B4 (by simpa using hs'), C3, if_neg (fun e => hne e.symm)]
        rfl
    have heW : Env KJ [] W := (hr.env.of (w' := W) (ι' := ι) (by rw [<- hW]; simp [sortWorldK, grow, putRowK, putRow, mapBlock, ahead]) (fun b' hb' hni => by
      have hne : b' ≠ b := fun e => hni (e ▸ Xj hι);rw [<- hW];simp only [sortWorldK, grow, putRowK, putRow, mapBlock, ahead];rw [B4 (by simpa using hb'), C3, if_neg (fun e => hne e.symm)]
      rfl) (fun _ _ h => h)).noth
    have arg : ∀ i, RV KJ [] [] W (.p (f (nth xs (ix i)))) (.agg (enc i).toArray) := fun i => by
      obtain ⟨cs, q1, q2, q3⟩ := cell (ix i) (hix i);refine .p _ _ ?_;rw [q1]
      refine (RP.agg cs (enc i).toArray (by simp [hk, q2]) fun j y hj => ?_ : RP KJ W _ _).weaker fun b hb => by
        rcases hb with hb | hb
        · exact hb
        · simp at hb
      have hjk : j < k := by rw [<- q2]; exact (ZK.1 hj).1
      have e9 : (enc i).toArray.getD j undef = c.getD (ix i * k + j) undef := by
        have := Bw (c := c) (i := ix i) hjk;rw [List.getElem!_eq_getElem?_getD, WG (by rw [Ep]; exact hjk)] at this;simp only [Xi, JA];rw [WG (by rw [hk]; exact hjk), QT];rw [QT] at this;simpa only [Xi] using this
      rw [e9];exact (q3 j y hj).2.ext hKeep
    refine ((hcmp (nth xs (ix x)) (nth xs (ix y))).2 KJ [] W _ (Es heW) ⟨rfl, fun j q hj => ?_⟩).mono ?_
    · cases j with
      | zero => simp at hj; subst hj; exact arg x
      | succ j => cases j with
        | zero => simp at hj; subst hj; exact arg y
        | succ j => simp at hj
    · rintro e' w' ⟨x', H', ι', v, rfl, ⟨rfl, rfl⟩, gd, rv⟩
      cases rv with | p _ _ rp =>
      rw [rp.int_inv];exact ⟨rfl, bC gd⟩
  have eg := (hcmp default default).1;have main := AnyQ.slices_SortFunc L k aE zE enc hk one cf' hO' g #[] b (0 * k) cap d w (fun args w => eg args w) hcmp' hHolds hbs (by rw [hd]; exact hlen);rw [hd] at main;refine main.mono ?_;rintro e' w' ⟨rfl, d', m, os, hp, hso, rfl⟩;obtain ⟨p1, _, p3⟩ := hp;rw [hd] at p1
  have hperm : d'.toList.Perm (List.range n) := by
    have e8 : (d'.extract 0 n).toList = d'.toList := by rw [<- p1]; simp
    have e9 : (d.extract 0 n).toList = List.range n := by
      have : d.extract 0 n = d := by rw [<- hd]; simp
      rw [this]; simp [d]
    rw [e8, e9] at p3; exact p3
  have hlt : ∀ i ∈ d'.toList, i < n := fun i hi => by simpa using hperm.mem_iff.1 hi
  have hlt2 : ∀ i, i < n -> d'.toList[i]?.isSome = true := fun i hi => by simp [p1, hi]
  have hget : ∀ i (hi : i < n), d'[i]! = d'.toList[i]'(by simp [p1, hi]) := fun i hi => by
    rw [getElem!_pos d' i Za]; simp
  let ys : List β := d'.toList.map (nth xs)
  have hyl : ys.length = n := by simp [ys, p1]
  have hys : ∀ i (hi : i < n), ys[i]'(Za) = nth xs d'[i]! := fun i hi => by
    simp only [ys, List.getElem_map]; rw [hget i hi]
  have hdl : ∀ i, i < n -> d'[i]! < n := fun i hi => by rw [hget i hi]; exact hlt _ (JF _)
  have yperm : ys.Perm xs := by
    have h9 : (List.range n).map (nth xs) = xs := by
      refine QS (by simp [hL]) fun i h1 h2 => ?_;simp only [List.getElem_map, List.getElem_range];rw [Zh h2]
    have := hperm.map (nth xs);rw [h9] at this; exact this
  have ysort : ys.Pairwise fun a b => ¬ cf b a < 0 := by
    rw [A2];intro i j hi hj hij;rw [hys i Za, hys j Za];have h9 := hso i j (Nat.zero_le _) hij Za;simp only [ltOf, cf', Yc] at h9;rwa [hixe _ (hdl j Za), hixe _ (hdl i Za)] at h9
  let c' : Array Value := putCells id (0 * k) (flatK enc k d') c
  have hcs : c'.size = c.size := by simp [c', putCells]
  have hat : (sortWorldK enc k w b (0 * k) m d' os).heap[b]? = some (.cells c' t (0, 0)) := by
    simp only [sortWorldK, grow, putRowK, putRow, mapBlock, ahead];rw [B4 (by simpa using hbs), C3, if_pos rfl]
    show Option.map _ w.heap[b]? = _
    rw [hw]; rfl
  have hoth : ∀ q, q < w.heap.size -> q ≠ b -> (sortWorldK enc k w b (0 * k) m d' os).heap[q]? = w.heap[q]? := fun q hq hne => by
    simp only [sortWorldK, grow, putRowK, putRow, mapBlock, ahead];rw [B4 (by simpa using hq), C3, if_neg (fun e => hne e.symm)]
    rfl
  have hc' : ∀ i j, i < n -> j < k -> c'.getD (i * k + j) undef = c.getD (d'[i]! * k + j) undef := fun i j hi hj => by
    have hb1 : i * k + j < n * k := by
      have := XY k (show i + 1 <= n from hi);rw [XS, Vo] at this; omega
    have e8 : (flatK enc k d')[i * k + j]! = c.getD (d'[i]! * k + j) undef := by
      rw [get_flatK enc k d' _ (by rw [p1]; exact hb1)]
      have q1 : (i * k + j) / k = i := by rw [Kw, Nat.mul_add_div Za, Ba hj]; omega
      have q2 : (i * k + j) % k = j := by rw [Kw, Nat.mul_add_mod, Kq hj]
      rw [q1, q2]
      show (NA c k (ix d'[i]!))[j]! = _
      rw [Bw hj, hixe _ (hdl i hi)]
    have e9 : c'[i * k + j]? = some ((flatK enc k d')[i * k + j]!) := by
      simp only [c', putCells, Array.getElem?_mapIdx];rw [Array.getElem?_eq_getElem Za];simp only [Bc, Nat.zero_mul, Nat.zero_le, true_and, XG, size_flatK, p1, hb1, if_true, Nat.sub_zero, id]
    rw [Xi, e9, QT, e8]
  have good := XN (w' := sortWorldK enc k w b (0 * k) m d' os) (c := c') (t := t) (xs' := ys.map f) (cap := cap2) (b' := b) hr (o := o) (S := k) (xs := xs.map f) hHo rfl (Tp.of rfl (by simp [sortWorldK, grow, putRowK, putRow, mapBlock, ahead])) rfl
    (fun c0 t0 h => by rw [hw] at h; simp at h; obtain ⟨rfl, rfl⟩ := h; exact ⟨rfl, hcs⟩) (by simp [sortWorldK, grow, putRowK, putRow, mapBlock, ahead]) hat hoth (.inl ⟨hι, .inl ⟨by simp [hyl, hL], fun c0 t0 h => by rw [hw] at h; simp at h; obtain ⟨rfl, rfl⟩ := h; exact ⟨rfl, hcs⟩⟩⟩)
    (by rw [hcs]; exact e3) (by simp only [ZM, hyl]; simpa [hL] using e4) e5
    (fun i x hi => by
      rw [Xq, ZL] at hi;obtain ⟨y, _, rfl⟩ := hi;obtain ⟨cs, q1, q2, _⟩ := hf y
      rw [q1]; exact q2)
    (fun i x j y hi hj => by
      rw [Xq, ZL] at hi;obtain ⟨z, hz, rfl⟩ := hi
      have hin : i < n := by have := (ZK.1 hz).1; omega
      have e8 : z = nth xs d'[i]! := by
        obtain ⟨h9, h10⟩ := ZK.1 hz;rw [<- h10]; exact hys i hin
      obtain ⟨cs, q1, q2, q3⟩ := cell _ (hdl i hin);rw [e8, q1] at hj
      have hjk : j < k := by rw [<- q2]; exact (ZK.1 hj).1
      rw [hc' i j hin hjk]
      exact (q3 j y hj).2)
  have hset : ι.set o (some b) = ι := by
    refine Q2 fun i => ?_;rw [Ui]
    split
    · rename_i e; subst e
      have := (ZK.1 hι).1;rw [if_pos this, hι]
    · rfl
  rw [hset] at good;exact ⟨.tup [], _, ι, .tuple #[], rfl, ⟨rfl, ys, yperm, ysort, rfl⟩, good, .tup [] #[] rfl (fun j c hj => by simp at hj)⟩
end Go.AM
namespace Go.Proofs.YtiigdaohjanidaaGreatDoor.K
open Go Go.AM Go.Proofs
set_option maxRecDepth 60000
set_option maxHeartbeats 8000000
theorem OY {α:Type} [Inhabited α] {l:List α} {i j:Nat} {a:α} (h:i<l.length):nth (l.set i a) j=if i=j then a else nth l j:=by
 grind [nth]
theorem lL {α:Type} [Inhabited α] {l:List α} {j:Nat} {a:α} (h:j<l.length):nth (l++ [a]) j=nth l j:=by
 grind [nth]
theorem Hz {α:Type} [Inhabited α] {l:List α} {a:α} :nth (l++ [a]) l.length=a:=by
 grind [nth]
def cfK (a b:Col):Int:=lU [UR a.typ b.typ,UR a.set b.set]
theorem TQ {a b:Int} :UR a b<0↔a<b:=by grind [UR]
theorem TR {a b:Int} :UR a b=0↔a=b:=by grind [UR]
theorem BW {a b:Col} :cfK a b<0↔a.typ<b.typ\/(a.typ=b.typ/\a.set<b.set):=by
 grind [cfK,HE,TR,TQ]
theorem jM : Go.Sort.SWO (ltOf cfK) where
 irrefl x:=by grind [ltOf,BW]
 trans x y z h1 h2:=by simp only [ltOf,Zp,BW] at *;omega
 ntrans x y z h1 h2:=by grind [ltOf,BW]
theorem IM (a b:Col):PC 197 [.p (X5 a),.p (X5 b)] (.int .i64 (cfK a b)):=by
 refine Zd Tryz.func197 rfl wS ?_;simp (disch:=omega) only [Tryz.f197,go_sem,seval];refine Xn (Zc ?_);refine Zq (FM a.typ b.typ) (Zc ?_);refine Zq (FM a.set b.set) (Zc ?_);refine Zq (Zax [UR a.typ b.typ,UR a.set b.set] false Zb) (Zc ?_)
 rfl
theorem nE (xs:List Col) (hl:xs.length<=1048576) {H:List AM.Obj} {o:Nat} (hH:H[o]? =some (.elems 7 (xs.map X5))) :
  ACalls Tryz.prog 103 [.sl o 0 xs.length xs.length,.fn (.func 197) [] []] H fun y H'=>y= .tup []/\ ∃ys:List Col,ys.Perm xs/\ys.Pairwise (fun a b=> ¬cfK b a<0)/\H'=H.set o (.elems 7 (ys.map X5)) :=
 ACalls.sortFunc L8 bI 7 Tryz.isAgg158 Tryz.sizeOf158 X5 (fun x=>⟨_,rfl,rfl,rfl⟩) cfK jM 197 IM xs Za hH
def kd (c:Col):Kd:=⟨c.typ,c.set⟩
def Bst (l:List Col) (k:Nat) (d:Col):Prop:= ∃j,j<k/\nth l j=d/\ ∀i,i<k->kd (nth l i)=kd d->d.price<(nth l i).price\/(d.price=(nth l i).price/\j<=i)
structure Chp (l:List Col) (k:Nat) (m:List (Kd×Int)) (out:List Col):Prop where
 len:out.length<=k
 at1: ∀i,i<out.length->mq m (kd (nth out i))=some (i:Int)
 at2: ∀q v,mq m q=some v-> ∃i,i<out.length/\v=i/\kd (nth out i)=q
 bst: ∀i,i<out.length->Bst l k (nth out i)
 all: ∀j,j<k-> ∃i,i<out.length/\kd (nth out i)=kd (nth l j)
theorem TM (l:List Col):Chp l 0 [] []:=⟨Zb,fun i h=>by simp at h,fun q v h=>by simp [mq] at h,fun i h=>by simp at h,fun j h=>by simp at h⟩
theorem jT {l:List Col} {k:Nat} {m m':List (Kd×Int)} {out:List Col} (h:Chp l k m out) (hn:mq m (kd (nth l k))=none) (hm: ∀q,mq m' q=if q=kd (nth l k) then some (out.length:Int) else mq m q):Chp l (k+1) m' (out++ [nth l k]):=by
 have hno: ∀i,i<out.length->kd (nth out i)≠kd (nth l k):=fun i hi e=>by
  have:=h.at1 i hi
  grind
 have split: ∀i,i<(out++ [nth l k]).length->(i<out.length/\nth (out++ [nth l k]) i=nth out i)\/(i=out.length/\nth (out++ [nth l k]) i=nth l k):=fun i hi=>by
  simp only [ZI,Zz,ZA] at hi;rcases Vn i out.length with h1 | h1
  ·grind [lL]
  ·obtain rfl:i=out.length:=Za
   exact .inr ⟨rfl,Hz⟩
 refine ⟨by have:=h.len;simp;omega,fun i hi=> ?_,fun q v hq=> ?_,fun i hi=> ?_,fun j hj=> ?_⟩
 ·rcases split i hi with ⟨h1,e⟩ | ⟨rfl,e⟩
  ·rw [e,hm,if_neg (hno i h1)];exact h.at1 i h1
  grind
 ·rw [hm] at hq
  split at hq
  ·grind [Hz]
  ·obtain ⟨i,h1,h2,h3⟩:=h.at2 q v hq
   grind
 ·rcases split i hi with ⟨h1,e⟩ | ⟨rfl,e⟩
  ·rw [e];obtain ⟨j,h2,h3,h4⟩:=h.bst i h1;refine ⟨j,Za,h3,fun p hp he=> ?_⟩
   grind
  ·rw [e];refine ⟨k,Za,rfl,fun p hp he=> ?_⟩;rcases A3.1 hp with h5 | rfl
   ·obtain ⟨i,h6,h7⟩:=h.all p h5
    grind
   omega
 ·rcases A3.1 hj with h5 | rfl
  ·obtain ⟨i,h6,h7⟩:=h.all j h5
   grind
  ·exact ⟨out.length,Zb,by rw [Hz]⟩
theorem jU {l:List Col} {k:Nat} {m:List (Kd×Int)} {out:List Col} {i:Nat} (h:Chp l k m out) (hi:i<out.length) (hk:kd (nth out i)=kd (nth l k)):Chp l (k+1) m (if (nth l k).price<(nth out i).price then out.set i (nth l k) else out):=by
 have hun: ∀j,j<out.length->kd (nth out j)=kd (nth l k)->j=i:=fun j hj e=>by
  have h1:=h.at1 j hj;have h2:=h.at1 i hi
  grind
 split
 ·rename_i hp
  have key: ∀j,kd (nth (out.set i (nth l k)) j)=kd (nth out j):=fun j=>by
   grind [OY]
  refine ⟨by have:=h.len;simp;omega,fun j hj=> ?_,fun q v hq=> ?_,fun j hj=> ?_,fun j hj=> ?_⟩
  ·rw [key];exact h.at1 j (by grind)
  ·obtain ⟨j,h1,h2,h3⟩:=h.at2 q v hq
   grind
  ·simp only [Bb] at hj;rw [OY hi]
   split
   ·rename_i e;subst e;refine ⟨k,Za,rfl,fun p hp2 he=> ?_⟩;rcases A3.1 hp2 with h5 | rfl
    ·obtain ⟨j,h6,h7,h8⟩:=h.bst i hi
     grind
    omega
   ·rename_i e;obtain ⟨p,h2,h3,h4⟩:=h.bst j hj;refine ⟨p,Za,h3,fun p' hp' he=> ?_⟩
    grind
  ·rcases A3.1 hj with h5 | rfl
   ·obtain ⟨p,h6,h7⟩:=h.all j h5
    grind
   grind
 ·rename_i hp;refine ⟨by have:=h.len;omega,h.at1,h.at2,fun j hj=> ?_,fun j hj=> ?_⟩
  ·obtain ⟨p,h2,h3,h4⟩:=h.bst j hj;refine ⟨p,Za,h3,fun p' hp' he=> ?_⟩
   grind
  ·rcases A3.1 hj with h5 | rfl
   ·exact h.all j h5
   grind
structure Cheap (l ys:List Col):Prop where
 asc:ys.Pairwise fun a b=>cfK a b<0
 bst: ∀d∈ys,Bst l l.length d
 all: ∀c∈l,∃d∈ys,kd d=kd c
theorem jS {l:List Col} {m:List (Kd×Int)} {out ys:List Col} (h:Chp l l.length m out) (hp:ys.Perm out) (ha:ys.Pairwise fun a b=> ¬cfK b a<0):Cheap l ys:=by
 have hnd:out.Pairwise fun a b=>kd a≠kd b:=by
  rw [A2];intro i j hi hj hij e;have h1:=h.at1 i hi;have h2:=h.at1 j hj
  grind [Zh]
 have hnd2:ys.Pairwise fun a b=>kd a≠kd b:=(hp.pairwise_iff fun h e=>h e.symm).2 hnd;refine ⟨(hnd2.and ha).imp fun {a b} hh=> ?_,fun d hd=> ?_,fun c hc=> ?_⟩
 ·rw [BW] at hh ⊢
  grind [kd]
 ·obtain ⟨i,hi,rfl⟩:=ZW.1 (hp.mem_iff.1 hd);rw [<- Zh hi];exact h.bst i hi
 ·obtain ⟨j,hj,rfl⟩:=ZW.1 hc;obtain ⟨i,hi,e⟩:=h.all j hj
  grind [Zh]
theorem MN (l:List Col) (c:Bool) (hl:l.length<=8192):ACalls Tryz.prog 150 [.p (.list c (l.map X5))] [] fun y H'=> ∃ys:List Col,(Cheap l ys/\ys.length<=l.length)/\y= .p (.list false (ys.map X5))/\H'= []:=by
 refine Zg [15] Tryz.func150 rfl vP ?_;simp (disch:=omega) only [Tryz.f150,go_sem,seval];refine Zl [3,11,12] (fun q:Nat×List (Kd×Int)×List Col=> [(4,.sl 1 0 q.2.2.length q.2.2.length),(13,.p (.int .i64 q.1))]) (fun q=> [.map (q.2.1.map (IV SK)),.elems 7 (q.2.2.map X5)]) (fun q=>q.1<=l.length/\Chp l q.1 q.2.1 q.2.2) (fun q=>l.length-q.1) (0,[],[]) ⟨Zb,TM l⟩ (Weak.ofNil 4 7 (by simp (disch:=omega) only [go_sem,seval]) Zb (Weak.mk ?_)) ?_
 ·simp (disch:=omega) only [Zm,ZA,go_sem,seval]
 ·rintro ⟨k,m,out⟩ ⟨hk,hC⟩;simp only at hk hC;have hol:=hC.len;refine Zc ?_;refine cD ?_ ?_<;>intro h1<;>simp (disch:=omega) only [Sh.out h1,go_sem,seval,↓reduceIte]
  ·have hk2:k<l.length:=Za
   refine cA (l:=m) (k:=kd (nth l k)) bT (fun _ _=>trivial) trivial (by rfl) (Zc ?_)
   cases hq:mq m (kd (nth l k)) with
   | none =>
    simp (disch:=omega) only [Km,Option.getD_none,go_sem,seval];refine HM (l:=m) (k:=kd (nth l k)) bT (fun _ _=>trivial) trivial (by rfl) fun m' hm' _=> ?_;simp (disch:=omega) only [Z7,go_sem,seval];exact ⟨(k+1,m',out++ [nth l k]),⟨Za,jT hC hq hm'⟩,Za,Weak.mk (by simp (disch:=omega) only [Xx,Zt,Zm,ZI,Zz,ZA,XG,go_sem,seval])⟩
   | some v =>
    obtain ⟨i,hi,rfl,hkd⟩:=hC.at2 _ _ hq;have hold:=jU hC hi hkd;simp (disch:=omega) only [Q0,QT,go_sem,seval];refine Xn ?_;simp (disch:=first | omega | (simp only [Zz,ZA,ZI,ZM,ZY,Xf]<;>omega)) only [WY hi,hi,go_sem,seval,↓reduceIte];refine ZD ?_ ?_<;>intro h2
    ·rw [if_pos h2] at hold;simp (disch:=first | omega | (simp only [Zz,ZA,ZI,ZM,ZY,Xf]<;>omega)) only [go_sem,seval];exact ⟨(k+1,m,out.set i (nth l k)),⟨Za,hold⟩,Za,Weak.mk (by simp (disch:=omega) only [Vu,Bb,go_sem,seval])⟩
    ·rw [if_neg h2] at hold;exact ⟨(k+1,m,out),⟨Za,hold⟩,Za,wk⟩
  ·have hkl:k=l.length:=Za
   subst hkl;refine (nE out Za (H:=_) (o:=1) rfl).mono ?_;rintro y H' ⟨rfl,ys,g1,g2,rfl⟩;have hyl:ys.length=out.length:=g1.length_eq;simp (disch:=omega) only [Xp,Z7,go_sem,seval];rw [<- hyl];refine Zr (Weak.fz (o:=1) (by rfl)) (Zf [] _ _ _ _ (VG ?_));exact ⟨.p (.list false (ys.map X5)),[],wk,ys,⟨jS hC g1 g2,Za⟩,rfl,rfl⟩
def Ye (x:Inst):Nat->Nat
 | 0=>0
 | i+1=>if (nth x.orders i).off=true then Ye x i else Ye x i|||pw i
theorem Lp (x:Inst): ∀i,Ye x i<2^i
 | 0=>by simp [Ye]
 | i+1=>by
  have:=Lp x i
  have h:2^(i+1)=2*2^i:=Za
  rw [Ye]
  split
  ·omega
  ·exact JD Za (by rw [pw];omega)
theorem KA (x:Inst): ∀(n i:Nat),(Ye x n).testBit i=(decide (i<n)&& !(nth x.orders i).off)
 | 0,i=>by simp [Ye]
 | n+1,i=>by
  rw [Ye]
  split
  ·rename_i h;rw [KA x n i]
   by_cases e:i=n
   ·subst e;simp [h]
   ·have:decide (i<n+1)=decide (i<n):=by simp;omega
    rw [this]
  ·rename_i h;rw [Ks,KA x n i,pw,Nat.testBit_two_pow]
   grind
theorem rT (o:Ord):PC 195 [.p (eOrd o)] (.bool true):=by
 refine Zd Tryz.func195 rfl wQ ?_;simp (disch:=omega) only [Tryz.f195,go_sem,seval,↓reduceIte]
theorem ZaV (x:Inst) (hn:x.orders.length<=10):PC 194 [.p (ZF x),.fn (.func 195) [] []] (.int .i64 ((Ye x x.orders.length:Nat):Int)):=by
 refine Zg [] Tryz.func194 rfl wP ?_;simp (disch:=omega) only [Tryz.f194,go_sem,seval];refine Zl [1,9,10] (fun k:Nat=> [(5,.p (.int .i64 ((Ye x k:Nat):Int))),(11,.p (.int .i64 k))]) (fun _=> [Zj x]) (fun k=>k<=x.orders.length) (fun k=>x.orders.length-k) 0 Zb (Weak.mk ?_) ?_
 ·have h00:((Ye x 0:Nat):Int)=0:=rfl;simp (disch:=omega) only [h00,Zj,go_sem,seval]
 ·intro k hk;refine Ve ?_;refine cD ?_ ?_<;>intro h1<;>simp (disch:=omega) only [Sh.out h1,go_sem,seval,↓reduceIte]
  ·have hk2:k<x.orders.length:=Za
   have hm:=Lp x k;have hp:2^k<=2^10:=Wk Za Za;have hpw:pw k<=1024:=hp;refine K6 ?_ ?_<;>intro h2
   ·refine (rT (nth x.orders k)).use (Zc ?_)
    have ho:(nth x.orders k).off=false:=by grind
    exact ⟨k+1,Za,Za,Weak.mk (by simp (disch:=omega) only [Ye,ho,Yh,go_sem,seval,↓reduceIte])⟩
   ·have ho:(nth x.orders k).off=true:=by grind
    exact ⟨k+1,Za,Za,Weak.mk (by simp (disch:=omega) only [Ye,ho,go_sem,seval,↓reduceIte])⟩
  ·have hkl:k=x.orders.length:=Za
   subst hkl;exact we
theorem ZaA (x:Inst) (hn:x.orders.length<=10):PC 148 [.p (ZF x)] (.int .i64 ((Ye x x.orders.length:Nat):Int)):=by
 refine Zd Tryz.func148 rfl vN ?_;simp (disch:=omega) only [Tryz.f148,go_sem,seval];refine (ZaV x hn).use ?_;simp (disch:=omega) only [go_sem,seval]
def Za6 (S M:Nat):Bool:=(List.range 63).all fun i=> !S.testBit i||M.testBit i
theorem nA (S M:Nat) (hS:S<9223372036854775808):PC 196 [.p (.int .i64 (S:Int)),.p (.int .i64 (M:Int))] (.bool (Za6 S M)):=by
 refine Zd Tryz.func196 rfl wR ?_;simp (disch:=omega) only [Tryz.f196,go_sem,seval];have hb:=Cv (S:=S) (M:=M) hS
 have hd:decide (IntKind.i64.wrap ((BitVec.ofInt 64 (S:Int)&&& ~~~BitVec.ofInt 64 (M:Int)).toNat:Int)=0)=((List.range 63).all fun i=> !S.testBit i||M.testBit i):=by
  grind
 exact ZV (fun b=>V.p (PV.bool b)) hd
def rightB (x:Inst) (c:Col):Bool:=decide (0<=c.typ)&&(decide (c.typ<x.types.length)&&(decide (0<c.set)&&(Za6 c.set.toNat (Ye x x.orders.length)&&(decide (0<=c.price)&&decide (c.price<=18014398509481984)))))
theorem P1 (x:Inst) (c:Col) (hs:c.set<9223372036854775808) (ht:x.types.length<=1048576):PC 149 [.p (ZF x),.p (X5 c),.p (.int .i64 ((Ye x x.orders.length:Nat):Int))] (.bool (rightB x c)):=by
 refine Zd Tryz.func149 rfl vO ?_;simp (disch:=omega) only [Tryz.f149,go_sem,seval];refine gT ?_ ?_<;>intro h1<;>simp (disch:=omega) only [Sh.out h1,go_sem,seval,↓reduceIte]
 ·refine gT ?_ ?_<;>intro h2<;>simp (disch:=omega) only [Sh.out h2,go_sem,seval,↓reduceIte]
  ·refine gT ?_ ?_<;>intro h3<;>simp (disch:=omega) only [Sh.out h3,go_sem,seval,↓reduceIte]
   ·obtain ⟨S,hS⟩: ∃S:Nat,c.set=(S:Int):=⟨c.set.toNat,Za⟩
    have e1:rightB x c=(Za6 S (Ye x x.orders.length)&&(decide (0<=c.price)&&decide (c.price<=18014398509481984))):=by
     simp_all [rightB]
    rw [hS];refine (nA S (Ye x x.orders.length) Za).use (Zc ?_);refine gT ?_ ?_<;>intro h4<;>simp (disch:=omega) only [Sh.out h4,go_sem,seval,↓reduceIte]
    ·refine gT ?_ ?_<;>intro h5<;>simp (disch:=omega) only [Sh.out h5,go_sem,seval,↓reduceIte]
     ·grind
     grind
    grind
   grind [rightB]
  grind [rightB]
 ·simp [rightB,h1]
theorem Zmj (n:Nat) (h0:0<n) (h:n<16):PC 159 [.p (.int .u64 n)] (.int .i64 (KH n)):=by
 refine Zd Tryz.func159 rfl vW ?_;simp (disch:=omega) only [Tryz.f159,go_sem,seval];refine (Za1 n h0 h).use ?_;simp (disch:=omega) only [go_sem,seval]
theorem LX (n:Nat) (h0:0<n) (h:n<16):PC 107 [.p (.int .i64 n)] (.int .i64 (KH n)):=by
 refine Zd Tryz.func107 rfl uR ?_;simp (disch:=omega) only [Tryz.f107,go_sem,seval];refine cD ?_ ?_<;>intro h1<;>simp (disch:=omega) only [Sh.out h1,go_sem,seval]
 ·omega
 ·refine (Zmj n h0 h).use ?_;simp (disch:=omega) only [go_sem,seval]
def skpF (x:Inst) (i:Nat):Int:=if (Yk x i).2=0/\(XV (Yk x i).1).2=0 then (XV (Yk x i).1).1 else-1
def YL (ys:List Col) (i:Nat):List Col:=ys.filter fun c=>decide (KH c.set.toNat=(i:Int))
def fstF (n:Nat) (ys:List Col):List (List Col):=(List.range n).map (YL ys)
theorem R2 {ys:List Col} {k i:Nat} (h:k<ys.length):YL (ys.take (k+1)) i=if KH (nth ys k).set.toNat=(i:Int) then YL (ys.take k) i++ [nth ys k] else YL (ys.take k) i:=by
 grind [Xw,YL,nth]
theorem eT (i:Nat):YL [] i= []:=rfl
theorem Bt (ys:List Col) (k i:Nat):(YL (ys.take k) i).length<=ys.length:=by
 refine Nat.le_trans (List.length_filter_le _ _) ?_;simp;omega
theorem QN (ys):fstF 0 ys= []:=rfl
theorem UU (ys):fstF 1 ys= [YL ys 0]:=rfl
theorem UV (ys):fstF 2 ys= [YL ys 0,YL ys 1]:=rfl
theorem UW (ys):fstF 3 ys= [YL ys 0,YL ys 1,YL ys 2]:=rfl
theorem UX (ys):fstF 4 ys= [YL ys 0,YL ys 1,YL ys 2,YL ys 3]:=rfl
def Bx : List (List Col)->Nat->List V
 | [],_=> []
 | p::P,o=> .sl o 0 p.length p.length::Bx P (o+1)
def Gx (P:List (List Col)):List AM.Obj:=P.map fun p=> .elems 7 (p.map X5)
theorem RG {n0:Nat} {fr:List V} {a b c:AM.Obj} (h0:n0<=4) (n:Nat):Weak n0 fr [a,b,c,.cells (List.replicate n (.p (.list true [])))] fr (a::b::c:: .cells (Bx (List.replicate n []) 4)::Gx (List.replicate n [])):=by
 have hr: ∀(k o:Nat),Bx (List.replicate k []) o=(List.range k).map fun j=>V.sl (o+j) 0 0 0:=fun k=>by
  induction k with
  | zero=>intro o;rfl
  | succ k ih =>
   intro o;rw [Ac,Bx,ih,List.range_succ_eq_map,Zt,List.map_map];simp only [ZA,W3,List.cons.injEq,true_and];apply YN
   grind
 have key: ∀k,k<=n->Weak n0 fr [a,b,c,.cells (List.replicate n (.p (.list true [])))] fr (a::b::c:: .cells (((List.range k).map fun j=>V.sl (4+j) 0 0 0)++List.replicate (n-k) (.p (.list true [])))::List.replicate k (.elems 7 [])):=fun k=>by
  induction k with
  | zero=>grind [Weak.refl]
  | succ k ih =>
   intro hk
   have h1:=(ih Za).trans (Weak.nilC (n0:=n0) (fr:=fr) (o:=3) (j:=k) 7 (by rfl) (by
    grind) (by simp;omega))
   have e1:List.length (a::b::c::AM.Obj.cells (((List.range k).map fun j=>V.sl (4+j) 0 0 0)++List.replicate (n-k) (.p (.list true [])))::List.replicate k (AM.Obj.elems 7 []))=4+k:=by simp;omega
   have e2:(((List.range k).map fun j=>V.sl (4+j) 0 0 0)++List.replicate (n-k) (V.p (.list true []))).set k (.sl (4+k) 0 0 0)=((List.range (k+1)).map fun j=>V.sl (4+j) 0 0 0)++List.replicate (n-(k+1)) (V.p (.list true [])):=by
    rw [List.set_append_right _ _ Zb,show n-k=(n-(k+1))+1 by omega,Ac,Yj,Xx];simp
   grind [List.replicate_succ']
 have:=key n (Zx _)
 simp_all [Gx]
def skF (x:Inst) (n:Nat):List Int:=(List.range n).map (skpF x)
def jI (x:Inst) (m:Int) (f g:V):AM.Obj:= .cells [.p (.list x.net.places_c (x.net.places.map eS)),.p (.list x.net.arcs_c (x.net.arcs.map Wp)),.p (.list x.types_c (x.types.map Wq)),.p (.list x.orders_c (x.orders.map eOrd)),.p (.list x.apart_c (x.apart.map eP)),.p (.list x.before_c (x.before.map eP)),f,g,.mp 1,.p (.int .i64 m)]
theorem Q5 {x:Inst} {c:Col} (h:rightB x c=true) (hs:c.set<9223372036854775808): ∃S:Nat,c.set=S/\0<S/\S<2^x.orders.length/\ ∀i,S.testBit i=true->i<x.orders.length/\(nth x.orders i).off=false:=by
 simp only [rightB,Zy,Zp] at h;obtain ⟨_,_,h3,h4,_⟩:=h
 have key: ∀i,c.set.toNat.testBit i=true->i<x.orders.length/\(nth x.orders i).off=false:=fun i hi=>by
  have h63:i<63:=by
   rcases Vn i 63 with h | h
   ·exact h
   ·have:2^63<=2^i:=Wk Za h
    grind [C2]
  have:=Zu.1 h4 i (ZS.2 h63)
  grind [KA]
 refine ⟨c.set.toNat,Za,Za,?_,key⟩;refine Nat.lt_pow_two_of_testBit _ fun i hi=> ?_
 grind
theorem Za2 {S n:Nat} (h0:0<S) (h:S<2^n) (hn:n<=4):KH S<n/\0<=KH S:=by
 have:n=0\/n=1\/n=2\/n=3\/n=4:=Za
 unfold KH
 grind
theorem EK (x:Inst) (k:Nat):skF x (k+1)=skF x k++ [skpF x k]:=by simp [skF,Yj]
theorem Q8 (x:Inst) (k:Nat):(skF x k).length=k:=by simp [skF]
theorem Zg8 (x:Inst):skF x 0= []:=rfl
theorem bX {P:Program} {ko:List Nat} {l:List Oper} {n:Nat} {rem:List Nat} {fr:List V} {H:List AM.Obj} {K:List V->List AM.Obj->Prop} (m:Nat) (Y:V) (Z:List AM.Obj) (hr:Vs l rem= [m]) (h:Zs P (ZU l m) fr H fun y H'=>y=Y/\H'=Z)
  (k:(∀k∈ko,oat Z k=oat H k)/\KU P ko l n (rem.erase m) (YZ fr (ZU l m).dst Y) Z K):KU P ko l (n+1) rem fr H K :=
 F9 m _ hr h fun y H' hq=>by grind
theorem P0 (x:Inst) (l:List Col) (lc:Bool) (hn:x.orders.length<=4) (ht:x.types.length<=1048576) (hu: ∀i:Nat,CP 1152921504606846976 (Yk x i).1) (hs: ∀c∈l,c.set<9223372036854775808) (hl:l.length<=1048576) :
  ACalls Tryz.prog 99 [.p (ZF x),.p (.list lc (l.map X5))] [] fun y H'=>(8192<l.length/\y= .tup [.p .nilp,.p (.int .i64 4)]/\H'= [])\/(l.length<=8192/\(∃c∈l,rightB x c=false)/\y= .tup [.p .nilp,.p (.int .i64 2)]/\H'= []) \/
   (l.length<=8192/\(∀c∈l,rightB x c=true)/\ ∃ys,(Cheap l ys/\ys.length<=l.length)/\y= .tup [.ptr 2 0,.p (.int .i64 0)]/\H'= .cells (List.replicate 6 .junk)::(Yz x (.list false ((fstF x.orders.length ys).map YT)) (.list false ((skF x x.orders.length).map eI)) (Ye x x.orders.length) []).map (shO 1)):=by
 refine Zg [10] Tryz.func99 rfl Zgl ?_;simp (disch:=omega) only [Tryz.f99,go_sem,seval];refine cD ?_ ?_<;>intro h0<;>simp (disch:=omega) only [Sh.out h0,go_sem,seval]
 ·exact ⟨_,[],wk,.inl ⟨Za,rfl,rfl⟩⟩
 ·refine XX [1] 4 mixed Ze Ze Ze Zb (Zc ?_);refine Zq (ZaA x Za) (Zc ?_);refine Xb 1 _ _ Ze (by refine Zc ?_;exact ⟨rfl,rfl⟩) (Wb ?_);simp (disch:=omega) only [show ∀(l:List V),UO (V.mp 1::l)=none from fun _=>rfl,Option.map_none,go_sem,seval];refine Zl [1,2,6,27,28] (fun k:Nat=> [(29,.p (.int .i64 k))]) (fun _=> [Zj x,.map [],jI x ((Ye x x.orders.length:Nat):Int) (.p (.list true [])) (.p (.list true []))]) (fun k=>k<=l.length/\ ∀j,j<k->rightB x (nth l j)=true) (fun k=>l.length-k) 0 ⟨Za,fun j hj=>Za⟩ (Weak.mk ?_) ?_
  ·simp (disch:=omega) only [Zj,jI,go_sem,seval]
  ·rintro k ⟨hk,hr⟩;simp (disch:=omega) only [Zj,jI,go_sem,seval];refine cD ?_ ?_<;>intro h1<;>simp (disch:=omega) only [Sh.out h1,go_sem,seval,↓reduceIte]
   ·have hk2:k<l.length:=Za
    refine Xn (Zc ?_);refine Zq (P1 x (nth l k) (hs _ (ZH hk2)) ht) (Zc ?_)
    cases hq:rightB x (nth l k) with
    | false =>
     refine CJ ?_;exact ⟨_,[],wk,.inr (.inl ⟨Za,⟨_,ZH hk2,hq⟩,rfl,rfl⟩)⟩
    | true =>
     refine BJ ?_
     exact ⟨k+1,⟨Za,fun j hj=>by
      grind⟩,Za,wk⟩
   ·have hkl:k=l.length:=Za
    subst hkl
    have X9: ∀c∈l,rightB x c=true:=fun c hc=>by
     obtain ⟨j,hj,rfl⟩:=ZW.1 hc
     grind [Zh]
    clear hr hk h1;generalize ((Ye x x.orders.length:Nat):Int)=m;have hun: ∀i:Nat,PT 151 [.p (ZF x),.p (.int .i64 i)] [.p (Hi (Yk x i).1),.p (.int .i64 (Yk x i).2)]:=fun i=>LD x i Za;refine Vt (G3 4 rfl rfl (Zc ?_));refine ⟨_,_,Gl 205 110 _ _ x.orders.length 24 (.list true []) rfl Ze Ze Ze Ze (by rfl) Za Za (by simp (disch:=omega) only [go_sem,seval]) (by simp (disch:=omega) only [go_sem,seval]),?_⟩
    refine Zc ?_
    have h5:x.orders.length=0\/x.orders.length=1\/x.orders.length=2\/x.orders.length=3\/x.orders.length=4:=Za
    refine Zr (RG Zb x.orders.length) ?_;refine Zf [17] _ _ _ _ (Zc ?_);refine (MN l lc Za).useV fun ys hC=>Zc ?_;obtain ⟨hC,hyl⟩:=hC;rcases h5 with h5 | h5 | h5 | h5 | h5
    all_goals
     simp (disch:=omega) only [h5,List.replicate,Bx,Gx,Zt,Zm,go_sem,seval];refine Zl [2,6,50,51] (fun k:Nat=> [(52,.p (.int .i64 k))]) (fun k=> [Zj x,.map [],jI x m (.sl 3 0 x.orders.length x.orders.length) (.p (.list true [])),.cells (Bx (fstF x.orders.length (ys.take k)) 4)]++Gx (fstF x.orders.length (ys.take k))) (fun k=>k<=ys.length) (fun k=>ys.length-k) 0 Za (Weak.mk ?_) ?_
     ·simp (disch:=omega) only [h5,Y6,eT,ZA,QN,UU,UV,UW,UX,Bx,Gx,Zt,Zm,ZQ,ZG,Zj,jI,go_sem,seval]
     ·intro k hk;simp (disch:=omega) only [h5,QN,UU,UV,UW,UX,Bx,Gx,Zt,Zm,ZQ,ZG,Zj,jI,go_sem,seval];refine cD ?_ ?_<;>intro h1<;>simp (disch:=omega) only [Sh.out h1,go_sem,seval,↓reduceIte]
      ·have hk2:k<ys.length:=Za
       obtain ⟨j,hj,hjl,_⟩:=hC.bst _ (ZH hk2)
       have hmem:nth ys k∈l:=by rw [<- hjl];exact ZH hj
       obtain ⟨S,hS,hS0,hS1,hS2⟩:=Q5 (X9 _ hmem) (hs _ hmem);have hlt:=Za2 hS0 hS1 hn;have h16:S<16:=JC hS1 (by rw [h5];decide)
       have cl:PC 107 [.p (.int .i64 (nth ys k).set)] (.int .i64 (KH (nth ys k).set.toNat)):=by
        rw [hS];exact LX S hS0 h16
       refine (cl).use ?_;simp (disch:=omega) only [go_sem,seval]
       have htz:KH (nth ys k).set.toNat=KH S:=by rw [hS];rfl
       have hi:KH (nth ys k).set.toNat=0\/KH (nth ys k).set.toNat=1\/KH (nth ys k).set.toNat=2\/KH (nth ys k).set.toNat=3:=Za
       rcases hi with hi | hi | hi | hi
       all_goals try omega
       all_goals
        simp (disch:=omega) only [hi,go_sem,seval];refine K3 [14] [1,2,3] [2] 15 mixed Ze Ze Ze Ze Zb ?_;simp (disch:=omega) only [go_sem,seval,↓reduceIte];refine ⟨fun q hq p' hp=> ?_,?_⟩
        ·simp only [XR,Kp,or_false] at hq;rcases hq with rfl | rfl | rfl
         ·obtain rfl:59=p':=Uk hp;exact V4 (by decide)
         ·obtain rfl:60=p':=Uk hp;exact V4 (by decide)
         ·obtain rfl:61=p':=Uk hp;exact V4 (by decide)
        ·have q0:=Bt ys k 0;have q1:=Bt ys k 1;have q2:=Bt ys k 2;have q3:=Bt ys k 3;refine bX 14 _ _ Ze (by simp (disch:=omega) only [go_sem,seval,↓reduceIte];exact ⟨rfl,rfl⟩) ?_;refine ⟨fun k hk=>by simp at hk;subst hk;rfl,OL ?_⟩;simp (disch:=omega) only [go_sem,seval];exact ⟨k+1,Za,Za,Weak.mk (by simp (disch:=omega) only [h5,R2 hk2,hi,Xx,ZI,Zz,ZA,XG,UU,UV,UW,UX,Bx,Zt,Zm,go_sem,seval,↓reduceIte])⟩
      ·have hkl:k=ys.length:=Za
       subst hkl;clear hk h1
       try refine Zr (Weak.fz (o:=4) (by rfl)) ?_
       try refine Zr (Weak.fz (o:=5) (by rfl)) ?_
       try refine Zr (Weak.fz (o:=6) (by rfl)) ?_
       try refine Zr (Weak.fz (o:=7) (by rfl)) ?_
       refine Zf [17] _ _ _ _ ?_;simp (disch:=omega) only [XZ,Zt,Zm,Xp,Z7,eq_self,go_sem,seval,↓reduceIte];refine Zr (Weak.fzC (o:=3) (ys:=(fstF x.orders.length ys).map YT) (by rw [h5];rfl) (fun y hy=>by obtain ⟨p,_,rfl⟩:=XM.1 hy;rfl)) ?_;refine Zf [17] _ _ _ _ ?_;simp (disch:=omega) only [h5,QN,UU,UV,UW,UX,Zt,Zm,Xp,Z7,Zz,ZA,XG,Nat.reduceAdd,eq_self,go_sem,seval,↓reduceIte]
       refine Zf [28] _ _ _ _ ?_;simp (disch:=omega) only [go_sem,seval,↓reduceIte];refine Zl [2,6,78] (fun k:Nat=> [(79,.p (.int .i64 k))]) (fun k=> [Zj x,.map [],jI x m (.p (.list false ((fstF x.orders.length ys).map YT))) (.sl (4+x.orders.length) 0 k k),.dead]++List.replicate x.orders.length .dead++ [.elems 1 ((skF x k).map eI)]) (fun k=>k<=x.orders.length) (fun k=>x.orders.length-k) 0 Za ((Weak.nilC (o:=2) (j:=7) 1 (by rfl) (by rfl) Zb).trans (Weak.mk ?_)) ?_
       ·simp (disch:=omega) only [h5,Zg8,List.replicate,Xp,Z7,Zz,ZA,XG,Nat.reduceAdd,QN,UU,UV,UW,UX,Zt,Zm,ZQ,ZG,Zj,jI,go_sem,seval]
       ·intro k hk;simp (disch:=omega) only [h5,List.replicate,Nat.reduceAdd,QN,UU,UV,UW,UX,Zt,Zm,ZQ,ZG,Zj,jI,go_sem,seval];refine cD ?_ ?_<;>intro h1<;>simp (disch:=omega) only [Sh.out h1,go_sem,seval,↓reduceIte]
        ·have hk2:k<x.orders.length:=Za
         refine WV (hun k) ?_;simp (disch:=omega) only [go_sem,seval,↓reduceIte];refine cD ?_ ?_<;>intro h2<;>simp (disch:=omega) only [Sh.out h2,go_sem,seval,↓reduceIte]
         ·refine WV (Gm _ (hu k)) ?_;simp (disch:=omega) only [go_sem,seval];refine cD ?_ ?_<;>intro h3<;>simp (disch:=omega) only [Sh.out h3,go_sem,seval,↓reduceIte]
          ·have hsk:skpF x k=(XV (Yk x k).1).1:=by simp [skpF,h2,h3]
           simp (disch:=omega) only [Q8,go_sem,seval];rw [if_pos ⟨Za,Za⟩];simp (disch:=omega) only [Q8,ZM,ZI,Zz,ZA,XG,eq_self,Vp,go_sem,seval];exact ⟨k+1,Za,Za,Weak.mk (by simp (disch:=omega) only [h5,EK,hsk,Xx,List.replicate,Nat.reduceAdd,QN,UU,UV,UW,UX,Zt,Zm,ZQ,ZG,go_sem,seval])⟩
          ·have hsk:skpF x k= -1:=by simp [skpF,h3]
           simp (disch:=omega) only [Q8,go_sem,seval];rw [if_pos ⟨Za,Za⟩];simp (disch:=omega) only [Q8,ZM,ZI,Zz,ZA,XG,eq_self,Vp,go_sem,seval];exact ⟨k+1,Za,Za,Weak.mk (by simp (disch:=omega) only [h5,EK,hsk,Xx,List.replicate,Nat.reduceAdd,QN,UU,UV,UW,UX,Zt,Zm,ZQ,ZG,go_sem,seval])⟩
         ·have hsk:skpF x k= -1:=by simp [skpF,h2]
          simp (disch:=omega) only [Q8,go_sem,seval];rw [if_pos ⟨Za,Za⟩];simp (disch:=omega) only [Q8,ZM,ZI,Zz,ZA,XG,eq_self,Vp,go_sem,seval];exact ⟨k+1,Za,Za,Weak.mk (by simp (disch:=omega) only [h5,EK,hsk,Xx,List.replicate,Nat.reduceAdd,QN,UU,UV,UW,UX,Zt,Zm,ZQ,ZG,go_sem,seval])⟩
        ·have hkl:k=x.orders.length:=Za
         clear hk h1;refine Zr (Weak.fz (o:=4+x.orders.length) (S:=1) (xs:=(skF x k).map eI) (by rw [h5];rfl)) ?_;refine Zf [] _ _ _ _ ?_;simp (disch:=omega) only [h5,Zt,Zm,Xp,Z7,ZM,Q8,Nat.reduceAdd,eq_self,go_sem,seval,↓reduceIte];exact ⟨.tup [.ptr 2 0,.p (.int .i64 0)],_,Weak.mk (by simp (disch:=omega) only [hkl,h5,Yz,W9,shO,shVs,shV,QN,UU,UV,UW,UX,Zt,Zm,go_sem,seval]),.inr (.inr ⟨Za,X9,ys,⟨hC,hyl⟩,rfl,rfl⟩)⟩
theorem Za3 : ∀S:Fin 16,0<S.val->sHas (S.val:Int) (KH S.val)=true:=by decide+kernel
theorem fN {x:Inst} (hx:InstOk x) (i:Nat): -1<=skpF x i/\skpF x i<=18014398509481984:=by
 unfold skpF
 split
 ·rename_i h
  have hm:(Yk x i).1.cost<=1000000/\(Yk x i).1.moved<=1/\0<=(Yk x i).1.moved/\(Yk x i).1.other=0/\(Yk x i).1.work=0:=by
   unfold Yk
   split
   ·simp [zSco]
   ·split
    ·simp [zSco]
    ·split
     ·simp [zSco]
     ·have ha:=(hx.orders.2 (i:Int).toNat Za).arg;simp only [argOk,rng,Zy,Zp] at ha
      grind
  obtain ⟨_,h2⟩:=h;unfold XV at h2 ⊢
  grind
 ·omega
theorem Og {x:Inst} {l ys:List Col} (hx:InstOk x) (hn:x.orders.length<=4) (hC:Cheap l ys) (hr: ∀c∈l,rightB x c=true) (hs: ∀c∈l,c.set<9223372036854775808):ChOk x.orders.length x (fstF x.orders.length ys) (skF x x.orders.length):=by
 refine ⟨fun i hi c hc=> ?_,?_,fun i hi=> ?_⟩
 ·have e:nth (fstF x.orders.length ys) i=YL ys i:=by
   grind [fstF,Zh]
  rw [e,YL,QU] at hc;obtain ⟨h1,h2⟩:=hc;simp only [Zp] at h2;obtain ⟨j,hj,hjl,_⟩:=hC.bst c h1
  have hm:c∈l:=by grind [ZH]
  obtain ⟨S,q1,q2,q3,_⟩:=Q5 (hr c hm) (hs c hm);have h16:S<16:=JC q3 (Wk (n:=2) Za hn);have hb:=Za3 ⟨S,h16⟩ q2;have hr1:=hr c hm;simp only [rightB,Zy,Zp] at hr1
  grind
 ·have ht:=hx.types;simp only [typesOk,rng,Zp] at ht;refine ⟨Za,fun t _=> ?_⟩;rcases Vn t x.types.length with h | h
  ·have:=ht.2 t h;unfold KY at this;have:=this.1.1.1.1.1.1.2;simp only [rng,Zp] at this;omega
  ·rw [show nth x.types t=default from by grind [nth]]
   decide
 simp_all [skF,Zh,fN]
def zSt : St:=⟨0,0,[0,0,0,0,0,0]⟩
def Rv (x:Inst) (ys:List Col):Int:=YJ x.orders.length ((Ye x x.orders.length:Nat):Int) x (fstF x.orders.length ys) (skF x x.orders.length) 20 (WH x.orders.length ((Ye x x.orders.length:Nat):Int) zSt)
theorem rA (n:Nat):StV n zSt:=⟨rfl,⟨by decide,by simp [zSt]⟩,⟨0,rfl,Za⟩,fun j hj=>by
 have:nth zSt.used j=0:=by
  have:j=0\/j=1\/j=2\/j=3\/j=4\/j=5:=Za
  rcases this with rfl | rfl | rfl | rfl | rfl | rfl<;>rfl
 omega⟩
def kp (c:Col):Int×Int×Int:=(c.typ,c.set,c.price)
theorem qL {c d:Col} :kp c=kp d↔c.typ=d.typ/\c.set=d.set/\c.price=d.price:=by simp [kp]
theorem Al {α:Type} {r:α->α->Prop} (irr: ∀a,¬r a a) (asy: ∀a b,r a b-> ¬r b a): ∀ {l l':List α},l.Pairwise r->l'.Pairwise r->(∀a,a∈l↔a∈l')->l=l'
 | [],[],_,_,_=>rfl
 | [],b::_,_,_,h=>by have:=(h b).2 Zb;simp at this
 | a::_,[],_,_,h=>by have:=(h a).1 Zb;simp at this
 | a::l,b::l',h1,h2,h=>by
  rw [List.pairwise_cons] at h1 h2
  have hab:a=b:=by
   rcases XR.1 ((h a).1 Zb) with e | e
   ·exact e
   ·rcases XR.1 ((h b).2 Zb) with e' | e'
    ·exact e'.symm
    ·exact absurd (h1.1 b e') (asy _ _ (h2.1 a e))
  subst hab
  rw [Al irr asy h1.2 h2.2 fun c=>⟨fun hc=>by
   rcases XR.1 ((h c).1 (Wj _ hc)) with e | e
   ·subst e;exact absurd (h1.1 c hc) (irr c)
   ·exact e,fun hc=>by
   rcases XR.1 ((h c).2 (Wj _ hc)) with e | e
   ·subst e;exact absurd (h2.1 c hc) (irr c)
   ·exact e⟩]
theorem IL {l ys:List Col} (h:Cheap l ys) {c:Col} (hc:c∈l): ∃d∈ys,kd d=kd c/\d.price<=c.price:=by
 obtain ⟨d,hd,e⟩:=h.all c hc;obtain ⟨j,hj,rfl⟩:=ZW.1 hc;obtain ⟨i,hi,_,h3⟩:=h.bst d hd
 grind [Zh]
theorem Qc {l ys:List Col} (h:Cheap l ys) {d:Col} (hd:d∈ys):d∈l:=by
 obtain ⟨j,hj,e,_⟩:=h.bst d hd
 grind [ZH]
theorem TI {l l' ys ys':List Col} (h:Cheap l ys) (h':Cheap l' ys') (hm: ∀c,c∈l↔c∈l'):ys.map kp=ys'.map kp:=by
 have one: ∀ {l l' ys ys':List Col},Cheap l ys->Cheap l' ys'->(∀c,c∈l↔c∈l')-> ∀a,a∈ys.map kp->a∈ys'.map kp:=fun {l l' ys ys'} h h' hm a ha=>by
  obtain ⟨d,hd,rfl⟩:=XM.1 ha;obtain ⟨e,he,k1,p1⟩:=IL h' ((hm d).1 (Qc h hd));obtain ⟨g,hg,k2,p2⟩:=IL h ((hm e).2 (Qc h' he));obtain ⟨i,hi,e1,h3⟩:=h.bst d hd;have hgl:=Qc h hg;obtain ⟨j,hj,e2⟩:=ZW.1 hgl
  grind [Zh,kd,qL]
 refine Al (r:=fun a b:Int×Int×Int=>a.1<b.1\/(a.1=b.1/\a.2.1<b.2.1)) (fun a=>Za) (fun a b=>Za) ?_ ?_ fun a=>⟨one h h' hm a,one h' h (fun c=>(hm c).symm) a⟩
 ·exact List.pairwise_map.2 (h.asc.imp fun hh=>by rw [BW] at hh;exact hh)
 ·exact List.pairwise_map.2 (h'.asc.imp fun hh=>by rw [BW] at hh;exact hh)
theorem Lt {n i:Nat} {ys:List Col} :nth (fstF n ys) i=if i<n then YL ys i else []:=by
 split
 ·grind [fstF,Zh]
 ·rename_i h;rw [nth,QV,List.getElem?_eq_none (by simp [fstF];omega)];rfl
theorem FZ {x:Inst} {s:St} {r:Col->Int} : ∀ {l:List Col} {a:Int},l.foldl (fun o c=>if Vq x s c=true then VA o c.price (r c) else o) a=a\/ ∃c∈l,Vq x s c=true/\0<=r c/\l.foldl (fun o c=>if Vq x s c=true then VA o c.price (r c) else o) a=c.price+r c
 | [],a=> .inl rfl
 | d::l,a=>by
  rw [Vl];rcases FZ (x:=x) (s:=s) (r:=r) (l:=l) (a:=if Vq x s d=true then VA a d.price (r d) else a) with h | ⟨c,h1,h2,h3,h4⟩
  ·rw [h]
   split
   ·rename_i hy;unfold VA
    split
    ·grind
    omega
   omega
  grind
def KO (x:Inst) (S:Nat) (l:List Vis):List Vis:=(BT x S x.orders.length).filter fun v=>decide (v ∉ l)
theorem lG {x:Inst} {S:Nat} {l:List Vis} {v:Vis} :v∈KO x S l↔v∈BT x S x.orders.length/\v ∉ l:=by
 grind [KO]
def mT (b:Rte) (m:List Vis):Rte:=⟨b.typ,b.start,b.rests_c,b.rests,b.visits_c&&decide (m.length=b.visits.length),m⟩
def CD (x:Inst) (b:Rte) (S:Nat) (m:List Vis):Bool:=decide ((ordR m).2=0)&&(decide ((ordR m).1=(S:Int))&&decide ((prcF x (mT b m)).2=0))
def VW (x:Inst) (b:Rte) (S:Nat) (m:List Vis):Col:=⟨b.typ,S,(prcF x (mT b m)).1,mT b m⟩
theorem Gp {x:Inst} {r:Rte} (h:(prcF x r).2=0):evalE x r=0:=by
 grind [prcF]
theorem RJ {x:Inst} (hf:IFacts x) {b:Rte} {S:Nat} {m:List Vis} (h:CD x b S m=true):RightV x m/\ordS m=S:=by
 simp only [CD,Zy,Zp] at h;have hr:RightV x m:=WM (Gp h.2.2);have e:=hr.ord hf
 grind
def kG (b:Rte):Bool:=decide (b.visits.length<b.rests.length)
def TD (x:Inst) (b:Rte) (S f:Nat) (z:Col×Bool):Col×Bool:=(if kG b=true then [b.visits] else E6 (Gk x S) f b.visits).foldl (VP (CD x b S) (VW x b S) Jl) z
theorem Oe {x:Inst} {b:Rte} {S f:Nat} {z:Col×Bool} (h:(ordR b.visits).2≠0\/ ∃i,(ordS b.visits).testBit i=true/\S.testBit i=false) (hf:IFacts x):TD x b S f z=z:=GI fun m hm=>by
 cases ho:CD x b S m with
 | false=>rfl
 | true =>
  exfalso;obtain ⟨hr,rfl⟩:=RJ hf ho
  obtain ⟨r,rfl⟩: ∃r,m=b.visits++r:=by
   split at hm
   ·simp_all
   grind [OO]
  rcases h with h | ⟨i,h1,h2⟩
  ·refine h ?_;rw [ordR,if_pos];rw [Zu];intro v hv;have:=hr.inr v (List.mem_append_left _ hv);have:=hf.len;simp [Cy];omega
  grind [Wu]
def Z1 (l:List Rte):Nat:=ordS (l.flatMap fun r=>r.visits)
theorem Vz {l:List Rte} {i:Nat} :(Z1 l).testBit i=true↔ ∃r∈l,∃v∈r.visits,v.order.toNat=i:=by
 grind [Z1,Wu]
def Ar (x:Inst) (b:Rte) (S:Nat):Col×Bool:=TD x b S (EQ x S) (Qz,false)
def Bi (x:Inst) (b:Rte) (S:Nat):List Col:=if (Ar x b S).2=true then [(Ar x b S).1] else []
def Aa (need wout S:Nat):Bool:=decide (S&&&need=need)&&decide (S&&&wout=0)
def DL (x:Inst) (b:Rte) (need wout S:Nat):List Col:=if Aa need wout S=true then Bi x b S else []
def Je (x:Inst) (b:Rte) (need wout:Nat):List Col:=Fo (DL x b need wout) (2^x.orders.length-1)
def Ib (x:Inst) (bs:List Rte):Nat->List Col
 | 0=> []
 | k+1=>Ib x bs k++Je x (nth bs k) (Z1 [nth bs k]) (Z1 (bs.take k++bs.drop (k+1)))
def Ad (k now:Int):Rte:=⟨k,now,true,[],true,[]⟩
def Nq (x:Inst) (bs:List Rte) (now:Int):Nat->List Col
 | 0=>Ib x bs bs.length
 | k+1=>Nq x bs now k++Je x (Ad (k:Int) now) 0 (Z1 bs)
def HH (x:Inst) (bs:List Rte) (now:Int):List Col:=Nq x bs now x.types.length
def M0 (bs:List Rte) (a:Int) (S:Nat):Bool:=(List.range bs.length).all fun i=>(nth bs i).visits.all fun v=>S.testBit v.order.toNat==decide ((i:Int)=a)
theorem iE {S T:Nat} :S&&&T=T↔ ∀i,T.testBit i=true->S.testBit i=true:=by
 constructor
 ·grind
 ·intro h;refine JB fun i=> ?_
  grind
theorem N4 {S T:Nat} :S&&&T=0↔ ∀i,T.testBit i=true->S.testBit i=false:=by
 constructor
 ·intro h i hi;have:=ZV (·.testBit i) h
  grind
 ·intro h;refine JB fun i=> ?_
  grind
theorem AP {bs:List Rte} {a:Int} {S:Nat} :M0 bs a S=true↔ ∀i,i<bs.length-> ∀v∈(nth bs i).visits,S.testBit v.order.toNat=decide ((i:Int)=a):=by
 simp_all [M0]
theorem OS {bs:List Rte} {a:Nat} {r:Rte} :r∈bs.take a++bs.drop (a+1)↔ ∃i,i<bs.length/\i≠a/\r=nth bs i:=by
 rw [Xr]
 constructor
 ·rintro (h | h)
  ·obtain ⟨i,hi,rfl⟩:=List.mem_take_iff_getElem.1 h;exact ⟨i,Za,Za,by grind [Zh]⟩
  ·obtain ⟨i,hi,rfl⟩:=ZW.1 h;rw [Xf] at hi;exact ⟨a+1+i,Za,Za,by grind [Zh]⟩
 ·rintro ⟨i,h1,h2,rfl⟩;rcases Vn i a with h | h
  ·grind [List.mem_take_iff_getElem,Zh]
  ·right
   refine ZW.2 ⟨i-(a+1),by grind,?_⟩
   grind [Zh]
theorem Ot {bs:List Rte} {a S:Nat} (ha:a<bs.length):M0 bs (a:Int) S=Aa (Z1 [nth bs a]) (Z1 (bs.take a++bs.drop (a+1))) S:=by
 rw [Yp,AP,Aa,Zy,Zp,Zp,iE,N4]
 constructor
 ·intro h
  constructor
  ·intro i hi;obtain ⟨r,hr,v,hv,rfl⟩:=Vz.1 hi
   grind
  ·intro i hi;obtain ⟨r,hr,v,hv,rfl⟩:=Vz.1 hi;obtain ⟨q,q1,q2,rfl⟩:=OS.1 hr
   grind
 ·rintro ⟨h1,h2⟩ i hi v hv
  by_cases c:i=a
  ·subst c;rw [h1 _ (Vz.2 ⟨_,Zb,v,hv,rfl⟩)];simp
  ·rw [h2 _ (Vz.2 ⟨_,OS.2 ⟨i,hi,c,rfl⟩,v,hv,rfl⟩),Yd Za]
theorem Ou {bs:List Rte} {S:Nat} :M0 bs (-1) S=Aa 0 (Z1 bs) S:=by
 have e:Aa 0 (Z1 bs) S=true↔S&&&Z1 bs=0:=by simp [Aa]
 rw [Yp,AP,e,N4]
 constructor
 ·intro h i hi;obtain ⟨r,hr,v,hv,rfl⟩:=Vz.1 hi;obtain ⟨q,hq,rfl⟩:=ZW.1 hr
  grind [Zh]
 ·intro h2 i hi v hv;rw [h2 _ (Vz.2 ⟨_,Zo hi,v,hv,rfl⟩),Yd Za]
def E7 (x:Inst) (p:Pln) (j:Nat):Ord:= { nth x.orders j with now:=nth (KN x p) j }
def nX (x:Inst) (p:Pln):Inst:= { x with orders_c:=false,orders:=Wm (E7 x p) x.orders.length }
def hJ (x:Inst) (p:Pln):V:= .tup [.p (ZF (if YI x p=0 then nX x p else E4)),.p (.int .i64 (YI x p))]
def Ts (x:Inst) (p:Pln) (S j:Nat):Ord:=if S.testBit j=true then { E7 x p j with penalty:= -1 } else E7 x p j
def Jd (x:Inst) (p:Pln) (S:Nat):Inst:= { x with orders_c:=false,orders:=Wm (Ts x p S) x.orders.length }
theorem Tt {x:Inst} {p:Pln} {S j:Nat} : ∃v:Int,Ts x p S j= { nth x.orders j with now:=nth (KN x p) j,penalty:=v } /\(v=(nth x.orders j).penalty\/v= -1):=by
 rw [Ts]
 split
 ·exact ⟨_,rfl,.inr rfl⟩
 ·exact ⟨_,rfl,.inl rfl⟩
theorem Tq {x:Inst} {p:Pln} {S:Nat} (hx:InstOk x) (h:YI x p=0):InstOk (Jd x p S):=by
 have hlen:(Jd x p S).orders.length=x.orders.length:=Wx;have hn: ∀i,i<x.orders.length->nth (Jd x p S).orders i=Ts x p S i:=fun i hi=>JV hi;refine ⟨hx.net,hx.types,⟨by rw [hlen];exact hx.orders.1,fun i hi=> ?_⟩,by rw [hlen];exact hx.rules⟩;rw [hlen] at hi;have ho:=hx.orders.2 i hi;obtain ⟨v,e,hv⟩:=Tt (x:=x) (p:=p) (S:=S) (j:=i)
 constructor
 ·rw [hn i hi,e];exact ho.name
 ·intro j hj;obtain ⟨v2,e2,_⟩:=Tt (x:=x) (p:=p) (S:=S) (j:=j);rw [hn i hi,hn j Za,e,e2];exact ho.twin j hj
 ·rw [hn i hi,e];exact ho.load
 ·rw [hn i hi,e];exact ho.pick
 ·rw [hn i hi,e];exact ho.drp
 ·rw [hn i hi,e];exact ho.one
 ·rw [hn i hi,e];exact ho.pstp
 ·rw [hn i hi,e];exact ho.dstp
 ·rw [hn i hi,e];exact ho.skills
 ·rw [hn i hi,e];have ha:=ho.arg;have hk:=bV h hi
  show argOk _ (x.types.length:Int)=true
  simp only [argOk,rng,Zy,Zp] at ha ⊢;obtain ⟨⟨a1,a2⟩,a3,a4,a5,a6,a7⟩:=ha;refine ⟨⟨?_,a2⟩,a3,?_⟩
  ·omega
  omega
theorem KS (l:List Ord) (c:Bool) (hl:l.length<=1048576):ACalls Tryz.prog 58 [.p (.list c (l.map eOrd))] [] fun y H'=>y= .sl 0 0 l.length l.length/\H'= [.elems 16 (l.map eOrd)]:=by
 refine Zg [1] Tryz.func58 rfl ZfY ?_;simp (disch:=omega) only [Tryz.f58,go_sem,seval];refine Vt (IA (e:=59) (cl:=c) (xs:=l.map eOrd) Tryz.underlying40 (by rfl) Zb fun b hb=> ?_);refine Zf [] _ _ _ _ (Zc ?_);refine cD ?_ ?_<;>intro h<;>simp (disch:=omega) only [Sh.out h,go_sem,seval]
 ·have:l= []:=by simp_all
  subst this;exact ⟨_,_,Weak.nil 0 16 rfl Zb,rfl,rfl⟩
 ·refine Zf [] _ _ _ _ (Zc ?_);exact we
theorem SB (l:List Ord) (i:Nat) (k:Int) (hi:i<l.length):ACalls Tryz.prog 94 [.ep 0 i 0 l.length,.p (.int .i64 k)] [.elems 16 (l.map eOrd)] fun y H'=>y= .tup []/\H'= [.elems 16 ((l.set i { nth l i with now:=k }).map eOrd)]:=by
 have hel:UT (l.map eOrd) i=eOrd (nth l i):=WY hi
 have hset:(l.map eOrd).set i (eOrd { nth l i with now:=k })=(l.set i { nth l i with now:=k }).map eOrd:=Zb
 simp only [CV] at hset;refine Zg [] Tryz.func94 rfl Zgg ?_;simp (disch:=omega) only [Tryz.f94,go_sem,seval];exact ⟨.tup [],_,Weak.refl _ _ _,rfl,ZV (fun q=> [AM.Obj.elems 16 q]) hset⟩
def SP (x:Inst) (p:Pln) (k:Nat):List Ord:=Wm (fun j=>if j<k then E7 x p j else nth x.orders j) x.orders.length
theorem Pj {x:Inst} {p:Pln} {k:Nat} :(SP x p k).length=x.orders.length:=Wx
theorem gC {x:Inst} {p:Pln} :SP x p 0=x.orders:=(Q6 fun j _=>by rfl).trans Si
theorem nY {x:Inst} {p:Pln} :SP x p x.orders.length=Wm (E7 x p) x.orders.length:=Q6 fun j hj=>by grind
theorem nZ {x:Inst} {p:Pln} {k:Nat} (h:k<x.orders.length):nth (SP x p k) k=nth x.orders k:=by simp_all [SP,JV]
theorem oA {x:Inst} {p:Pln} {k:Nat} :(SP x p k).set k (E7 x p k)=SP x p (k+1):=by
 rw [SP,LL];refine Q6 fun i _=> ?_
 grind
theorem TH (x:Inst) (p:Pln) (ho:x.orders.length<=4) (ht:x.types.length<=1048576) (hr:p.routes.length<=1048576) (hv: ∀r∈p.routes,r.visits.length<=1048576) :
  ACalls Tryz.prog 93 [.p (ZF x),.p (Vk p),.fn (.func 94) [] []] [] fun y H'=>y=hJ x p/\H'= []:=by
 have ck:=RD x p ho ht hr hv;have zI:ZF E4= .agg [.list true [],.list true [],.list true [],.list true [],.list true [],.list true []]:=rfl;obtain ⟨T,hT⟩: ∃T,T=hJ x p:=⟨_,rfl⟩;rw [<- hT];unfold hJ at hT;refine Zg [10] Tryz.func93 rfl Zgf ?_;simp (disch:=omega) only [Tryz.f93,go_sem,seval]
 by_cases h0:YI x p=0
 ·rw [AZ,if_pos h0] at ck;rw [if_pos h0,h0] at hT;have hkl:=DY (x:=x) (p:=p);refine WV ck (Zc ?_);refine (KS x.orders x.orders_c Za).useF (Zc ?_);refine ZT [10] [2,3,6,8,27] (fun k:Nat=> [(28,.p (.int .i64 k))]) (fun k=> [.cells (CM x 3 x.orders.length),Z9 p,.cells (List.replicate 6 (.p (.list true []))),.elems 16 ((SP x p k).map eOrd)]) (fun k=>k<=x.orders.length) (fun k=>x.orders.length-k) 0 Zb (Weak.mk ?_) ?_
  ·simp (disch:=omega) only [CM,Z9,List.replicate,gC,go_sem,seval]
  ·intro k hk;have hrl:=Pj (x:=x) (p:=p) (k:=k);simp (disch:=omega) only [CM,Z9,List.replicate,go_sem,seval];refine cD ?_ ?_<;>intro h<;>simp (disch:=omega) only [Sh.out h,go_sem,seval,↓reduceIte]
   ·have hk2:k<x.orders.length:=Za
    have cw:=SB (SP x p k) k (nth (KN x p) k) Za;rw [nZ hk2,show ({ nth x.orders k with now:=nth (KN x p) k } :Ord)=E7 x p k from rfl,oA] at cw
    have hxl:((SP x p k).map eOrd).length=x.orders.length:=by grind
    rw [hrl,<- hxl] at cw;have ca:=fun H (hH:H[3]? =some (AM.Obj.elems 16 ((SP x p k).map eOrd)))=>ACalls.atE (o:=3) (ps:= [.int .i64 (nth (KN x p) k)]) (H:=H) hH cw (by simp [Pj]);simp only [hxl] at ca;refine Z5 9 mixed Ze Ze (Zc ?_);refine (ca _ (by rfl)).mono ?_;rintro y H' ⟨rfl,rfl⟩;simp (disch:=omega) only [Xp,Z7,go_sem,seval];exact ⟨k+1,Za,Za,wk⟩
   ·have hkl:k=x.orders.length:=Za
    subst hkl;refine Zr (Weak.fz (o:=3) (by rfl)) ?_;refine Zf [] _ _ _ _ ?_;simp (disch:=omega) only [Zt,Zm,Xp,Z7,ZM,hrl,eq_self,go_sem,seval];exact ⟨T,[],Weak.mk (by simp (disch:=omega) only [hT,nX,nY,go_sem,seval]),rfl,rfl⟩
 ·rw [AZ,if_neg h0] at ck;rw [if_neg h0,zI] at hT;refine WV ck (Zc ?_);refine cD ?_ ?_<;>intro h2<;>simp (disch:=omega) only [Sh.out h2,go_sem,seval,↓reduceIte]
  ·exact ⟨T,[],Weak.mk (by simp (disch:=omega) only [hT,go_sem,seval]),rfl,rfl⟩
  ·omega
theorem cK (x:Inst) (p:Pln) (ho:x.orders.length<=4) (ht:x.types.length<=1048576) (hr:p.routes.length<=1048576) (hv: ∀r∈p.routes,r.visits.length<=1048576) :
  ACalls Tryz.prog 57 [.p (ZF x),.p (Vk p)] [] fun y H'=>y=hJ x p/\H'= []:=by
 have ck:=TH x p ho ht hr hv;unfold hJ at ck ⊢;refine Zg [] Tryz.func57 rfl ZfX ?_;simp (disch:=omega) only [Tryz.f57,go_sem,seval];refine WV ck ?_;generalize (if YI x p=0 then nX x p else E4)=Z;refine Zc ?_;exact we
theorem gD (x:Inst) (p:Pln) (ho:x.orders.length<=1048576) (ht:x.types.length<=1048576) (hr:p.routes.length<=1048576) (hv: ∀r∈p.routes,r.visits.length<=1048576) :
  ACalls Tryz.prog 61 [.p (ZF x),.p (Vk p)] [] fun y H'=>y=hJ x p/\H'= []:=by
 have ck:=Nz x p ho ht hr hv;have zI:ZF E4= .agg [.list true [],.list true [],.list true [],.list true [],.list true [],.list true []]:=rfl;obtain ⟨T,hT⟩: ∃T,T=hJ x p:=⟨_,rfl⟩;rw [<- hT];unfold hJ at hT;refine Zg [6,12] Tryz.func61 rfl Zf1 ?_;simp (disch:=omega) only [Tryz.f61,go_sem,seval]
 by_cases h0:YI x p=0
 ·rw [AZ,if_pos h0] at ck;rw [if_pos h0,h0] at hT;have hkl:=DY (x:=x) (p:=p);refine WV ck (Zc ?_);refine Zr (Weak.nilC (o:=3) (j:=3) 16 (by rfl) (by rfl) Zb) ?_;refine Zf [12] _ _ _ _ ?_;simp (disch:=omega) only [Xp,Z7,ZQ,ZG,Zz,ZA,go_sem,seval];refine ZT [12] [2,4,6,8] (fun q:Nat×List Ord=> [(9,.p (.int .i64 q.1))]) (fun q=> [Zj x,Z9 p,.cells (List.replicate 6 (.p (.list true []))),.cells (CM x 4 q.2.length),.elems 16 (q.2.map eOrd)]) (fun q=>q.1<=x.orders.length/\q.2=Wm (E7 x p) q.1) (fun q=>x.orders.length-q.1) (0,[]) ⟨Zb,by simp [Wm]⟩ (Weak.mk ?_) ?_
  ·simp (disch:=omega) only [Zj,Z9,CM,List.replicate,ZA,Zm,go_sem,seval]
  ·rintro ⟨k,m⟩ ⟨hk,hm⟩;simp only at hk hm
   have hml:m.length=k:=by rw [hm];exact Wx
   simp (disch:=omega) only [Zj,Z9,CM,List.replicate,go_sem,seval];refine ZD ?_ ?_<;>intro h
   ·have hk2:k<x.orders.length:=Za
    have hsn:Wm (E7 x p) (k+1)=m++ [E7 x p k]:=by rw [Sj,hm]
    exact ⟨(k+1,m++ [E7 x p k]),⟨Za,hsn.symm⟩,Za,Weak.mk (by simp (disch:=omega) only [E7,Xx,ZI,Zt,Zm,Zz,ZA,CV,go_sem,seval])⟩
   ·have hkl:k=x.orders.length:=Za
    subst hkl;refine Zr (Weak.fz (o:=4) (by rfl)) ?_;refine Zf [] _ _ _ _ ?_;simp (disch:=omega) only [Zt,Zm,Xp,Z7,eq_self,go_sem,seval];exact ⟨T,[],Weak.mk (by simp (disch:=omega) only [hT,nX,hm,go_sem,seval]),rfl,rfl⟩
 ·rw [AZ,if_neg h0] at ck;rw [if_neg h0,zI] at hT;refine WV ck (Zc ?_);refine cD ?_ ?_<;>intro h2<;>simp (disch:=omega) only [Sh.out h2,go_sem,seval,↓reduceIte]
  ·exact ⟨T,[],Weak.mk (by simp (disch:=omega) only [hT,go_sem,seval]),rfl,rfl⟩
  ·omega
theorem AC (l:List Vis) (c:Bool) (hl:l.length<=1048576):ACalls Tryz.prog 251 [.p (.list c (l.map ZX))] [] fun y H'=>y= .sl 0 0 l.length l.length/\H'= [.elems 2 (l.map ZX)]:=by
 refine Zg [1] Tryz.func251 rfl xR ?_;simp (disch:=omega) only [Tryz.f251,go_sem,seval];refine Vt (IA (e:=126) (cl:=c) (xs:=l.map ZX) Tryz.underlying47 (by rfl) Zb fun b hb=> ?_);refine Zf [] _ _ _ _ (Zc ?_);refine cD ?_ ?_<;>intro h<;>simp (disch:=omega) only [Sh.out h,go_sem,seval]
 ·have:l= []:=by simp_all
  subst this;exact ⟨_,_,Weak.nil 0 2 rfl Zb,rfl,rfl⟩
 ·refine Zf [] _ _ _ _ (Zc ?_);exact we
def WT (x:Inst) (b:Rte) (S:Nat) (z:Col×Bool):AM.Obj:= .cells [.p (.list x.net.places_c (x.net.places.map eS)),.p (.list x.net.arcs_c (x.net.arcs.map Wp)),.p (.list x.types_c (x.types.map Wq)),.p (.list x.orders_c (x.orders.map eOrd)),.p (.list x.apart_c (x.apart.map eP)),.p (.list x.before_c (x.before.map eP)),.p (.int .i64 b.typ),.p (.int .i64 b.start),.p (.list b.rests_c (b.rests.map eB)),.p (.list b.visits_c (b.visits.map ZX)),.p (.int .i64 S),.p (.bool z.2),.p (.int .i64 z.1.typ),.p (.int .i64 z.1.set),.p (.int .i64 z.1.price),.p (.int .i64 z.1.route.typ),.p (.int .i64 z.1.route.start),.p (.list z.1.route.rests_c (z.1.route.rests.map eB)),.p (.list z.1.route.visits_c (z.1.route.visits.map ZX))]
def ZnJ (v:Vis):AM.Obj:= .cells [.p (.int .i64 v.order),.p (.bool v.drp)]
def AS (b:Rte) (l:List Vis):Bool:=b.visits_c&&decide (l.length=b.visits.length)
theorem pH (x:Inst) (hx:InstOk x) (b:Rte) (S:Nat) (l:List Vis) (z:Col×Bool) (hl:l.length<=1048576) (hr:b.rests.length<=1048576) (hz:z.1.route.visits.length<=1048576) :
  ACalls Tryz.prog 192 [.ptr 0 0,.p (.list (AS b l) (l.map ZX))] [WT x b S z] fun y H'=>y= .tup []/\H'= [WT x b S (VP (CD x b S) (VW x b S) Jl z l)]:=by
 obtain ⟨R,hR⟩: ∃R,R=WT x b S (VP (CD x b S) (VW x b S) Jl z l):=⟨_,rfl⟩;rw [<- hR]
 have hno:CD x b S l=false->R=WT x b S z:=fun h=>by simp_all [VP]
 have hrt:mT b l=⟨b.typ,b.start,b.rests_c,b.rests,AS b l,l⟩:=rfl;have hpr:=eO x (mT b l);obtain ⟨⟨zt,zs,zp,zr⟩,zf⟩:=z;refine Zg [] Tryz.func192 rfl wO ?_;simp (disch:=omega) only [Tryz.f192,WT,go_sem,seval];refine WV (UL ⟨b.typ,b.start,b.rests_c,b.rests,AS b l,l⟩ hl) (Zc ?_);refine gF ?_ ?_<;>intro h1<;>simp (disch:=omega) only [Sh.out h1,go_sem,seval,↓reduceIte]
 ·have e:=hno (by simp_all [CD]);exact ⟨.tup [],[R],Weak.mk (by simp (disch:=omega) only [e,WT,go_sem,seval]),rfl,rfl⟩
 ·refine cD ?_ ?_<;>intro h2<;>simp (disch:=omega) only [Sh.out h2,go_sem,seval]
  ·have e:=hno (by simp_all [CD]);exact ⟨.tup [],[R],Weak.mk (by simp (disch:=omega) only [e,WT,go_sem,seval]),rfl,rfl⟩
  ·refine Xn (Zc ?_);refine BY (Sl x (mT b l) hx ⟨hl,hr⟩) (Zc ?_);refine cD ?_ ?_<;>intro h3<;>simp (disch:=omega) only [Sh.out h3,go_sem,seval]
   ·have e:=hno (by simp_all [CD]);exact ⟨.tup [],[R],Weak.mk (by simp (disch:=omega) only [e,WT,go_sem,seval]),rfl,rfl⟩
   ·have hok:CD x b S l=true:=by
     simp_all [CD]
    have hcol:(⟨b.typ,(S:Int),(prcF x (mT b l)).1,⟨b.typ,b.start,b.rests_c,b.rests,AS b l,l⟩⟩:Col)=VW x b S l:=rfl;refine XX [9,10] 11 mixed Ze Ze Ze Zb (Zc ?_);refine Xb 9 _ _ Ze (by refine Zc ?_;exact ⟨rfl,rfl⟩) ?_;refine Zc ?_;refine Xb 10 _ _ Ze (by refine Zc ?_;exact ⟨rfl,rfl⟩) (Wb ?_);refine Zc ?_
    cases zf with
    | false =>
     have e:R=WT x b S (VW x b S l,true):=by rw [hR,VP,if_pos ⟨hok,.inl rfl⟩]
     refine Xn (CJ ?_);exact ⟨.tup [],[R],Weak.mk (by simp (disch:=omega) only [e,WT,VW,mT,AS,go_sem,seval]),rfl,rfl⟩
    | true =>
     refine Xn (BJ ?_);refine Zq (ML (VW x b S l) ⟨zt,zs,zp,zr⟩ hl hz) (Zc ?_)
     cases hb:Jl (VW x b S l) ⟨zt,zs,zp,zr⟩ with
     | true =>
      have e:R=WT x b S (VW x b S l,true):=by simp_all [VP]
      refine Zc ?_;exact ⟨.tup [],[R],Weak.mk (by simp (disch:=omega) only [e,WT,VW,mT,AS,go_sem,seval]),rfl,rfl⟩
     | false =>
      have e:R=WT x b S (⟨zt,zs,zp,zr⟩,true):=by simp_all [VP]
      refine Zc ?_;exact ⟨.tup [],[R],Weak.mk (by simp (disch:=omega) only [e,WT,go_sem,seval]),rfl,rfl⟩
theorem Nh {x:Inst} {S:Nat} {l:List Vis} {v:Vis} (h:v∈Gk x S l):v∈KO x S l:=by
 obtain ⟨i,h1,h2,h3,h4,h5⟩:=Bf.1 h
 grind [lG,Be,Ag]
theorem LN {x:Inst} {S:Nat} {l:List Vis} {v:Vis} (h:v∈KO x S l):(KO x S (l++ [v])).length+1<=(KO x S l).length:=by
 have e:KO x S (l++ [v])=(KO x S l).filter fun w=>decide (w≠v):=by
  simp_all [KO,Bool.and_comm]
 rw [e];exact List.length_filter_lt_length_iff_exists.2 ⟨v,h,Zb⟩
def NX (x:Inst) (b:Rte) (S f:Nat):Prop:= ∀(l:List Vis) (z:Col×Bool),(KO x S l).length<=f->b.visits.length<=l.length->l.length+(KO x S l).length<=1048576->z.1.route.visits.length<=1048576 ->
  ACalls Tryz.prog 193 [.ptr 0 0,.p (.list (AS b l) (l.map ZX))] [WT x b S z] fun y H'=>y= .tup []/\H'= [WT x b S ((E6 (Gk x S) f l).foldl (VP (CD x b S) (VW x b S) Jl) z)]
theorem Mg {x:Inst} {b:Rte} {S N:Nat} : ∀(L:List (List Vis)) (z:Col×Bool),z.1.route.visits.length<=N->(∀m∈L,m.length<=N)->(L.foldl (VP (CD x b S) (VW x b S) Jl) z).1.route.visits.length<=N
 | [],z,h,_=>h
 | m::L,z,h,hL=>by
  rw [Vl];refine Mg L _ ?_ fun q hq=>hL q (Wj _ hq);unfold VP
  split
  ·exact hL m Zb
  ·exact h
theorem D2 {x:Inst} {S:Nat} : ∀(f:Nat) (l:List Vis),∀m∈E6 (Gk x S) f l,m.length<=l.length+(KO x S l).length
 | 0,l,m,hm=>by
  simp_all [E6]
 | f+1,l,m,hm=>by
  rw [E6] at hm
  split at hm
  ·grind
  ·obtain ⟨v,hv,hm⟩:=W2.1 hm;have h1:=D2 f _ m hm;have h2:=LN (Nh hv)
   grind
theorem EX (x:Inst) (hx:InstOk x) (b:Rte) (S:Nat) (hS:S<9223372036854775808) (hbl:x.before.length<=1048576) (hr:b.rests.length<=1048576) (l:List Vis) (z:Col×Bool) (hnx:Gk x S l= []) (hl:l.length<=1048576) (hz:z.1.route.visits.length<=1048576) :
  ACalls Tryz.prog 193 [.ptr 0 0,.p (.list (AS b l) (l.map ZX))] [WT x b S z] fun y H'=>y= .tup []/\H'= [WT x b S (VP (CD x b S) (VW x b S) Jl z l)]:=by
 have hf:=V3 hx
 have hn:x.orders.length<=60:=by have:=hf.len;omega
 have hsn:=GC x S l (AS b l) hS hl hn hbl (fun q hq=>by have:=(hf.val q hq);omega);rw [show nextU x S l x.orders.length= [] from hnx] at hsn;have ca:=pH x hx b S l z hl hr hz;obtain ⟨R,hR⟩: ∃R,R=WT x b S (VP (CD x b S) (VW x b S) Jl z l):=⟨_,rfl⟩;rw [<- hR] at ca ⊢;refine Zg [] Tryz.func193 rfl bK ?_;simp (disch:=omega) only [Tryz.f193,WT,go_sem,seval];refine Xn (Zc ?_);refine Zq (hsn) (Zc ?_);refine ca.useH (Zc ?_);exact ⟨.tup [],[R],Weak.refl _ _ _,rfl,rfl⟩
theorem nR (x:Inst) (hx:InstOk x) (b:Rte) (S:Nat) (hS:S<9223372036854775808) (hbl:x.before.length<=1048576) (hr:b.rests.length<=1048576):NX x b S 0:=by
 intro l z h1 h2 h3 h4;simp only [E6,Vl,UB];refine EX x hx b S hS hbl hr l z ?_ Za h4;refine List.eq_nil_iff_forall_not_mem.2 fun v hv=> ?_;have:=List.length_pos_of_mem (Nh hv);omega
theorem nS (x:Inst) (hx:InstOk x) (b:Rte) (S f:Nat) (hS:S<9223372036854775808) (hbl:x.before.length<=1048576) (hr:b.rests.length<=1048576) (ih:NX x b S f):NX x b S (f+1):=by
 intro l z g1 g2 g3 g4
 by_cases hnx:Gk x S l= []
 ·rw [show E6 (Gk x S) (f+1) l= [l] by rw [E6,if_pos hnx]]
  grind [EX]
 ·rw [show E6 (Gk x S) (f+1) l=(Gk x S l).flatMap fun v=>E6 (Gk x S) f (l++ [v]) by rw [E6,if_neg hnx]];have hf:=V3 hx
  have hn:x.orders.length<=60:=by have:=hf.len;omega
  have hsn:=GC x S l (AS b l) hS Za hn hbl (fun q hq=>by have:=(hf.val q hq);omega);have hnl:=B7 x S l x.orders.length;have hnv:nextU x S l x.orders.length=Gk x S l:=rfl;rw [hnv] at hsn hnl;have hrs: ∀v∈Gk x S l,(KO x S (l++ [v])).length+1<=(KO x S l).length:=fun v hv=>LN (Nh hv);generalize Gk x S l=nx at hnx hsn hnl hrs ⊢;obtain ⟨B,hB⟩: ∃B:Nat->Col×Bool,B=fun q=>((nx.take q).flatMap fun v=>E6 (Gk x S) f (l++ [v])).foldl (VP (CD x b S) (VW x b S) Jl) z:=⟨_,rfl⟩
  have hB0:B 0=z:=by rw [hB];rfl
  have hBn:(nx.flatMap fun v=>E6 (Gk x S) f (l++ [v])).foldl (VP (CD x b S) (VW x b S) Jl) z=B nx.length:=by rw [hB];simp
  have hBs: ∀q,q<nx.length->B (q+1)=(E6 (Gk x S) f (l++ [nth nx q])).foldl (VP (CD x b S) (VW x b S) Jl) (B q):=fun q hq=>by
   rw [hB];simp only;rw [Xw hq,List.flatMap_append,List.foldl_append,<- Zh hq];simp
  have hBl: ∀q,(B q).1.route.visits.length<=1048576:=fun q=>by
   rw [hB];refine Mg _ _ g4 fun m hm=> ?_;obtain ⟨v,hv,hm⟩:=W2.1 hm;have h1:=D2 _ _ m hm
   grind
  rw [hBn];clear hB hBn;have hne: ¬nx.length=0:=fun h=>hnx (Yb h);obtain ⟨R,hR⟩: ∃R,R=WT x b S (B nx.length):=⟨_,rfl⟩;rw [<- hR];refine Zg [] Tryz.func193 rfl bK ?_;simp (disch:=omega) only [Tryz.f193,WT,go_sem,seval];refine Xn (Zc ?_);refine Zq (hsn) (Zc ?_);refine cD ?_ ?_<;>intro h1<;>simp (disch:=omega) only [Sh.out h1,go_sem,seval]
  ·omega
  ·refine Zl [0,1,23,24] (fun q:Nat=> [(25,.p (.int .i64 q))]) (fun q=> [WT x b S (B q)]) (fun q=>q<=nx.length) (fun q=>nx.length-q) 0 Zb (Weak.mk ?_) ?_
   ·simp (disch:=omega) only [WT,hB0,go_sem,seval,↓reduceIte]
   ·intro q hq;simp (disch:=omega) only [WT,go_sem,seval];refine cD ?_ ?_<;>intro h2<;>simp (disch:=omega) only [Sh.out h2,go_sem,seval,↓reduceIte]
    ·have hq2:q<nx.length:=Za
     have hBq:=hBs q hq2;have hmem:=ZH hq2;have hr1:=hrs _ hmem;have ihc:=ih (l++ [nth nx q]) (B q) Za (by simp;omega) (by simp;omega) (hBl q);rw [<- hBq,Xx,show AS b (l++ [nth nx q])=false by rw [AS,Yd (by simp;omega),Kn]] at ihc;refine XX [2,4,5] 6 mixed Ze Ze Ze Zb ?_;refine Zc ?_;refine Ga 2 4 (.sl 2 0 l.length l.length) [.elems 2 (l.map ZX)] (.sl 2 0 1 1) [.elems 2 [ZX (nth nx q)]] Ze (by refine Zc ?_;refine (AC l _ Za).useF ?_;exact ⟨rfl,rfl⟩) (by simp (disch:=omega) only [go_sem,seval,↓reduceIte]) ?_ ?_
     ·refine Xb 4 (.sl 3 0 1 1) [.elems 2 (l.map ZX),.elems 2 [ZX (nth nx q)]] Ze (by simp (disch:=omega) only [ZQ,ZG,go_sem,seval,↓reduceIte]) ?_;refine Xb 5 (.sl 2 0 (l.length+1) (l.length+1)) [.elems 2 (l.map ZX++ [ZX (nth nx q)]),.elems 2 [ZX (nth nx q)]] Ze (by simp (disch:=omega) only [ZQ,ZG,go_sem,seval,↓reduceIte]) (Wb ?_);simp (disch:=omega) only [ZQ,ZG,go_sem,seval];refine ACalls.weakA (Weak.fz (o:=2) (by rfl)) ?_;simp (disch:=omega) only [Zt,Zm,Xp,Z7,eq_self,go_sem,seval]
      refine ihc.useP (L:= [_,_,_]) (by rfl) ?_ (by rfl) (by rfl);simp (disch:=omega) only [WT,ZQ,ZG,go_sem,seval];exact ⟨q+1,Za,Za,wk⟩
     ·refine Xb 2 (.sl 3 0 l.length l.length) [.elems 2 [ZX (nth nx q)],.elems 2 (l.map ZX)] Ze (by simp (disch:=omega) only [ZQ,ZG,go_sem,seval];refine (AC l _ Za).useF ?_;exact ⟨rfl,rfl⟩) ?_;refine Xb 5 (.sl 3 0 (l.length+1) (l.length+1)) [.elems 2 [ZX (nth nx q)],.elems 2 (l.map ZX++ [ZX (nth nx q)])] Ze (by simp (disch:=omega) only [ZQ,ZG,go_sem,seval,↓reduceIte]) (Wb ?_);simp (disch:=omega) only [ZQ,ZG,go_sem,seval];refine ACalls.weakA (Weak.fz (o:=3) (by rfl)) ?_;simp (disch:=omega) only [Zt,Zm,Xp,Z7,eq_self,go_sem,seval]
      refine ihc.useP (L:= [_,_,_]) (by rfl) ?_ (by rfl) (by rfl);simp (disch:=omega) only [WT,ZQ,ZG,go_sem,seval];exact ⟨q+1,Za,Za,wk⟩
    ·have hql:q=nx.length:=Za
     subst hql;exact ⟨.tup [],[R],Weak.mk (by simp (disch:=omega) only [hR,WT,go_sem,seval]),rfl,rfl⟩
theorem Pi (x:Inst) (hx:InstOk x) (b:Rte) (S:Nat) (hS:S<9223372036854775808) (hbl:x.before.length<=1048576) (hr:b.rests.length<=1048576): ∀f,NX x b S f
 | 0=>nR x hx b S hS hbl hr
 | f+1=>nS x hx b S f hS hbl hr (Pi x hx b S hS hbl hr f)
theorem MT (x:Inst) (S:Nat) (hn:x.orders.length<=60) (h0:0<S) (hS:S<9223372036854775808):PC 190 [.p (ZF x),.p (.int .i64 S)] (.bool (decide (S / pw x.orders.length=0))):=by
 refine Zd Tryz.func190 rfl wM ?_;simp (disch:=omega) only [Tryz.f190,go_sem,seval];refine gT ?_ ?_<;>intro h1<;>simp (disch:=omega) only [Sh.out h1,go_sem,seval,↓reduceIte]
 ·refine ZV (fun q=>V.p (PV.bool q)) ?_
  grind
 ·omega
theorem MY (b:Rte) (hv:b.visits.length<=1048576) (hr:b.rests.length<=1048576):PC 191 [.p (Z0 b)] (.bool (kG b)):=by
 refine Zd Tryz.func191 rfl wN ?_;simp (disch:=omega) only [Tryz.f191,go_sem,seval];refine ZV (fun q=>V.p (PV.bool q)) ?_
 simp_all [kG]
def IJ (x:Inst) (b:Rte) (S:Nat):Col×Int:=if (Ar x b S).2=true then ((Ar x b S).1,0) else (Qz,24)
theorem fE {x:Inst} {S:Nat} {l:List Vis} :(KO x S l).length<=EQ x S:=by
 have:=List.length_filter_le (fun v=>decide (v ∉ l)) (BT x S x.orders.length);rw [Aw] at this;exact this
theorem PS (x:Inst) (hx:InstOk x) (b:Rte) (S:Nat) (hk:0<=b.typ/\b.typ<x.types.length) (hv:b.visits.length<=1000000) (hr:b.rests.length<=1000000) (hbl:x.before.length<=1048576) (hS0:0<S) (hS1:S<2^x.orders.length) :
  PT 147 [.p (ZF x),.p (Z0 b),.p (.int .i64 S)] [.p (X5 (IJ x b S).1),.p (.int .i64 (IJ x b S).2)]:=by
 have hf:=V3 hx;have hn:=Bj hx;have ht:=NQ hx;have hp2:2^x.orders.length<=2^10:=Wk Za hn;have hdiv:S / pw x.orders.length=0:=Ba hS1
 have htot:EQ x S<=20:=by grind [Di,EQ]
 have hrl:=fE (x:=x) (S:=S) (l:=b.visits);have cw:=Pi x hx b S Za hbl Za (EQ x S) b.visits (Qz,false) hrl (Zx _) Za (by simp [Qz]);have ca:=pH x hx b S b.visits (Qz,false) Za Za (by simp [Qz]);rw [show AS b b.visits=b.visits_c by simp [AS]] at cw ca;obtain ⟨Z,hZ⟩: ∃Z,Z=IJ x b S:=⟨_,rfl⟩
 have hZ2: ∀B,Ar x b S=B->Z=if B.2=true then (B.1,0) else (Qz,24):=fun B h=>by rw [hZ,IJ,h]
 rw [<- hZ];refine Zg [] Tryz.func147 rfl vM ?_;simp (disch:=omega) only [Tryz.f147,go_sem,seval];refine gF ?_ ?_<;>intro h1<;>simp (disch:=omega) only [Sh.out h1,go_sem,seval,↓reduceIte]
 ·omega
 ·refine gF ?_ ?_<;>intro h2<;>simp (disch:=omega) only [Sh.out h2,go_sem,seval,↓reduceIte]
  ·omega
  ·refine (MT x S Za hS0 Za).use (Zc ?_);simp (disch:=omega) only [hdiv,eq_self,Vp,go_sem,seval];refine WV (UL b Za) (Zc ?_)
   have none:Ar x b S=(Qz,false)->Z=(Qz,24):=fun h=>by grind
   refine gF ?_ ?_<;>intro h3<;>simp (disch:=omega) only [Sh.out h3,go_sem,seval,↓reduceIte]
   ·have e:=none (Oe (.inl h3) hf);exact ⟨.tup [.p (X5 Z.1),.p (.int .i64 Z.2)],[],Weak.mk (by simp (disch:=omega) only [e,Qz,Zm,go_sem,seval]),rfl,rfl⟩
   ·have h3':(ordR b.visits).2=0:=XF.1 h3
    have X9:b.visits.all Cy=true:=by
     grind [ordR]
    have ho:(ordR b.visits).1=((ordS b.visits:Nat):Int):=by rw [ordR,if_pos X9]
    have hlt:=UH b.visits.length (l:=b.visits) (Zx _) (fun v hv=>Zu.1 X9 v (by grind));rw [XZ] at hlt;simp (disch:=omega) only [ho,go_sem,seval];refine cD ?_ ?_<;>intro h4<;>simp (disch:=omega) only [go_sem,seval,↓reduceIte]
    ·have h4':((T2 (ordS b.visits) S:Nat):Int)≠0:=by
      rw [<- Om hlt (show S<9223372036854775808 by omega)];exact h4
     have e:=none (Oe (.inr (T3 Za)) hf);exact ⟨.tup [.p (X5 Z.1),.p (.int .i64 Z.2)],[],Weak.mk (by simp (disch:=omega) only [e,Qz,Zm,go_sem,seval]),rfl,rfl⟩
    ·refine (MY b Za Za).use (Zc ?_)
     cases hfin:kG b with
     | true =>
      have hk:Ar x b S=VP (CD x b S) (VW x b S) Jl (Qz,false) b.visits:=by simp_all [Ar,TD]
      have hZ3:=hZ2 _ hk;generalize VP (CD x b S) (VW x b S) Jl (Qz,false) b.visits=B at ca hZ3;refine Zc ?_;refine ACalls.mono (ca.back [Zj x,ZO b,jX] (by rfl)) ?_;rintro y H' ⟨y1,H1,⟨rfl,rfl⟩,rfl,rfl⟩;simp (disch:=omega) only [AM.shV,AM.shVs,AM.shO,Zj,ZO,jX,sY,Qz,WT,Zt,Zm,ZQ,ZG,go_sem,seval];obtain ⟨C,f⟩:=B
      cases f with
      | false =>
       rw [if_neg Zb] at hZ3;refine CJ ?_;exact ⟨.tup [.p (X5 Z.1),.p (.int .i64 Z.2)],[],Weak.mk (by simp (disch:=omega) only [hZ3,Qz,Zm,go_sem,seval]),rfl,rfl⟩
      | true =>
       rw [if_pos rfl] at hZ3;refine BJ ?_;exact ⟨.tup [.p (X5 Z.1),.p (.int .i64 Z.2)],[],Weak.mk (by simp (disch:=omega) only [hZ3,go_sem,seval]),rfl,rfl⟩
     | false =>
      have hk:Ar x b S=(E6 (Gk x S) (EQ x S) b.visits).foldl (VP (CD x b S) (VW x b S) Jl) (Qz,false):=by simp_all [Ar,TD]
      have hZ3:=hZ2 _ hk;generalize (E6 (Gk x S) (EQ x S) b.visits).foldl (VP (CD x b S) (VW x b S) Jl) (Qz,false)=B at cw hZ3;refine Zc ?_;refine ACalls.mono (cw.back [Zj x,ZO b,jX] (by rfl)) ?_;rintro y H' ⟨y1,H1,⟨rfl,rfl⟩,rfl,rfl⟩;simp (disch:=omega) only [AM.shV,AM.shVs,AM.shO,Zj,ZO,jX,sY,Qz,WT,Zt,Zm,ZQ,ZG,go_sem,seval];obtain ⟨C,f⟩:=B
      cases f with
      | false =>
       rw [if_neg Zb] at hZ3;refine CJ ?_;exact ⟨.tup [.p (X5 Z.1),.p (.int .i64 Z.2)],[],Weak.mk (by simp (disch:=omega) only [hZ3,Qz,Zm,go_sem,seval]),rfl,rfl⟩
      | true =>
       rw [if_pos rfl] at hZ3;refine BJ ?_;exact ⟨.tup [.p (X5 Z.1),.p (.int .i64 Z.2)],[],Weak.mk (by simp (disch:=omega) only [hZ3,go_sem,seval]),rfl,rfl⟩
theorem dG {x:Inst} {b:Rte} {S:Nat} :(Bi x b S).length<=1:=by grind [Bi]
theorem I5 {x:Inst} {b:Rte} {need wout:Nat} (S:Nat):(DL x b need wout S).length<=1:=by
 grind [DL,dG]
theorem N1 (x:Inst) (hx:InstOk x) (b:Rte) (need wout:Nat) (hk:0<=b.typ/\b.typ<x.types.length) (hv:b.visits.length<=1000000) (hr:b.rests.length<=1000000) (hbl:x.before.length<=1048576) (h1:need<9223372036854775808) (h2:wout<9223372036854775808) :
  PC 98 [.p (ZF x),.p (Z0 b),.p (.int .i64 need),.p (.int .i64 wout)] (.list false ((Je x b need wout).map X5)):=by
 have hn:=Bj hx;have ht:=NQ hx;have hp:pw x.orders.length=2^x.orders.length:=rfl;have hp1:1<=2^x.orders.length:=Nat.one_le_two_pow;have hp2:2^x.orders.length<=2^10:=Wk Za hn;obtain ⟨N,hN⟩: ∃N,N=2^x.orders.length-1:=⟨_,rfl⟩
 have hcf:Je x b need wout=Fo (DL x b need wout) N:=by rw [hN];rfl
 rw [hcf];obtain ⟨W,hW⟩: ∃W:Nat->List Col,W=fun q=>Fo (DL x b need wout) (q-1):=⟨_,rfl⟩
 have hW1:W 1= []:=by rw [hW];rfl
 have hWn:Fo (DL x b need wout) N=W (N+1):=by rw [hW];rfl
 have hWl: ∀q,(W q).length<=q:=fun q=>by
  grind [Ew,I5]
 have hWs: ∀q,1<=q->W (q+1)=W q++DL x b need wout q:=fun q h=>by
  obtain ⟨p,rfl⟩: ∃p,q=p+1:=⟨q-1,Za⟩;rw [hW];rfl
 rw [hWn];clear hW hcf hWn;refine Zg [9] Tryz.func98 rfl Zgk ?_;simp (disch:=omega) only [Tryz.f98,go_sem,seval];refine ZT [9] [2,3,4,5] (fun q:Nat=> [(9,.sl 2 0 (W q).length (W q).length),(10,.p (.int .i64 q))]) (fun q=> [Zj x,ZO b,.elems 7 ((W q).map X5)]) (fun q=>1<=q/\q<=N+1) (fun q=>N+1-q) 1 Za (Weak.ofNil 9 7 (by simp (disch:=omega) only [go_sem,seval]) Zb (Weak.mk ?_)) ?_
 ·have e0:((1:Nat):Int)=1:=rfl;simp (disch:=omega) only [Zj,ZO,hW1,e0,Zm,ZA,go_sem,seval]
 ·rintro q ⟨hq0,hq⟩;have hql:=hWl q;have hqs:=hWs q hq0;refine Jk ?_;refine cD ?_ ?_<;>intro g1<;>simp (disch:=omega) only [Sh.out g1,go_sem,seval,↓reduceIte]
  ·have hq2:q<2^x.orders.length:=Za
   have hfc:DL x b need wout q=if Aa need wout q=true then Bi x b q else []:=rfl;rw [hfc] at hqs;refine Go.AM.AD ?_ ?_<;>intro g2
   ·have:Aa need wout q=false:=by rw [Aa,Yd Za,U2]
    rw [this,if_neg Zb,Uj] at hqs;exact ⟨q+1,Za,Za,Weak.mk (by simp (disch:=omega) only [hqs,go_sem,seval])⟩
   ·refine ZD ?_ ?_<;>intro g3
    ·have:Aa need wout q=false:=by simp_all [Aa]
     rw [this,if_neg Zb,Uj] at hqs;exact ⟨q+1,Za,Za,Weak.mk (by simp (disch:=omega) only [hqs,go_sem,seval])⟩
    ·have:Aa need wout q=true:=by rw [Aa,YO (p:=q&&&need=need) Za,YO (p:=q&&&wout=0) Za];rfl
     rw [this,if_pos rfl] at hqs;refine WV (PS x hx b q hk hv hr hbl Za hq2) ?_
     have ho:Bi x b q=if (IJ x b q).2=0 then [(IJ x b q).1] else []:=by
      unfold Bi IJ
      split
      ·simp
      ·simp
     rw [ho] at hqs;generalize IJ x b q=Z at hqs ⊢;refine Zc ?_;refine ZD ?_ ?_<;>intro g4
     ·rw [if_pos g4] at hqs;exact ⟨q+1,Za,Za,Weak.mk (by simp (disch:=omega) only [hqs,Xx,Zt,Zm,ZI,Zz,ZA,XG,go_sem,seval])⟩
     ·rw [if_neg g4,Uj] at hqs;exact ⟨q+1,Za,Za,Weak.mk (by simp (disch:=omega) only [hqs,go_sem,seval])⟩
  ·have hqn:q=N+1:=Za
   subst hqn;refine Zr (Weak.fz (o:=2) (by rfl)) ?_;refine Zf [] _ _ _ _ ?_;simp (disch:=omega) only [Zt,Zm,Xp,Z7,eq_self,go_sem,seval];exact ⟨.p (.list false ((W (N+1)).map X5)),[],wk,rfl,rfl⟩
theorem dP (a b:List Vis):ordS (a++b)=ordS a|||ordS b:=JB fun i=>by
 rw [Ks,Yp,Y5,Wu,Wu,Wu]
 grind
theorem HG {l:List Vis} (h: ∀v∈l,0<=v.order/\v.order<62):ordS l<4611686018427387904:=by
 refine Nat.lt_pow_two_of_testBit (n:=62) _ fun i hi=> ?_
 grind [Wu]
theorem BV {l:List Rte} {k:Nat} (hk:k<l.length):Z1 (l.take (k+1))=Z1 (l.take k)|||ordS (nth l k).visits:=by
 grind [Z1,Xw,dP,Zh]
theorem MJ (l:List Rte) (c:Bool) (hl:l.length<=1048576) (hv: ∀r∈l,r.visits.length<=1048576/\ ∀v∈r.visits,0<=v.order/\v.order<62) :
  PC 96 [.p (.list c (l.map Z0))] (.int .i64 (Z1 l:Nat)):=by
 refine Zd Tryz.func96 rfl Zgi ?_;simp (disch:=omega) only [Tryz.f96,go_sem,seval];refine Zl [8,9] (fun k:Nat=> [(3,.p (.int .i64 (Z1 (l.take k):Nat))),(10,.p (.int .i64 k))]) (fun _=> []) (fun k=>k<=l.length) (fun k=>l.length-k) 0 Zb (Weak.mk ?_) ?_
 ·simp (disch:=omega) only [Y6,Z1,List.flatMap_nil,ordS,UB,go_sem,seval]
 ·intro k hk
  have hbk:Z1 (l.take k)<4611686018427387904:=HG fun v h=>by
   grind
  refine Zc ?_;refine cD ?_ ?_<;>intro h<;>simp (disch:=omega) only [Sh.out h,go_sem,seval,↓reduceIte]
  ·have hk2:k<l.length:=Za
   obtain ⟨v1,v2⟩:=hv _ (Zo hk2);have hs:=BV hk2;refine Zl [8,9,10,15,16] (fun q:Nat=> [(3,.p (.int .i64 (Z1 (l.take k)|||ordS ((nth l k).visits.take q):Nat))),(17,.p (.int .i64 q))]) (fun _=> [ZO (nth l k)]) (fun q=>q<=(nth l k).visits.length) (fun q=>(nth l k).visits.length-q) 0 Zb (Weak.mk ?_) ?_
   ·have e0:Z1 (l.take k)|||ordS []=Z1 (l.take k):=by rw [show ordS []=0 from rfl,Nat.or_zero]
    simp (disch:=omega) only [e0,ZO,go_sem,seval]
   ·intro q hq;have hq1:ordS ((nth l k).visits.take q)<4611686018427387904:=HG fun v h=>v2 v (QY h);have hq3:Z1 (l.take k)|||ordS ((nth l k).visits.take q)<4611686018427387904:=JD (n:=62) hbk hq1;refine EO ?_;refine ZD ?_ ?_<;>intro h2
    ·have hq2:q<(nth l k).visits.length:=Za
     have hvq:=v2 _ (Zo hq2);have ht:=KC hq2;have hpo:pw (nth (nth l k).visits q).order.toNat<=pw 61:=CF Za;have h61:pw 61=2305843009213693952:=rfl;refine K6 ?_ ?_<;>intro h3
     ·refine ZD ?_ ?_<;>intro h4
      ·exact ⟨q+1,Za,Za,Weak.mk (by simp (disch:=omega) only [ht,Nat.or_assoc,go_sem,seval])⟩
      ·omega
     ·omega
    ·have hql:q=(nth l k).visits.length:=Za
     subst hql;rw [XZ,<- hs];exact ⟨k+1,Za,Za,wk⟩
  grind
def QA (x:Inst) (p:Pln) (P:Nat->Bool):List Ord:=Wm (fun j=>if P j=true then { E7 x p j with penalty:= -1 } else E7 x p j) x.orders.length
section
variable {x : Inst} {p : Pln} {P Q : Nat -> Bool} {v : Nat}
theorem CT : (QA x p P).length=x.orders.length:=Wx
theorem TC : QA x p (fun _=>false)=Wm (E7 x p) x.orders.length:=Q6 fun j _=>Zb
theorem QL (h: ∀j,j<x.orders.length->P j=Q j):QA x p P=QA x p Q:=Q6 fun j hj=>by rw [h j hj]
theorem Od (hv:v<x.orders.length):(QA x p P).set v { nth (QA x p P) v with penalty:= -1 } =QA x p (fun j=>P j||decide (j=v)):=by
 have e:({ nth (QA x p P) v with penalty:= -1 } :Ord)= { E7 x p v with penalty:= -1 } :=by
  grind [QA,JV]
 rw [e,QA,LL];refine Q6 fun j _=> ?_
 grind
end
def pU (x:Inst) (p:Pln) (S:Nat):V:= .tup [.p (ZF (if YI x p=0 then Jd x p S else E4)),.p (.int .i64 (YI x p))]
theorem PM (x:Inst) (p:Pln) (l:List Rte) (c:Bool) (ho:x.orders.length<=4) (ht:x.types.length<=1048576) (hr:p.routes.length<=1048576) (hv: ∀r∈p.routes,r.visits.length<=1048576)
  (hl:l.length<=1048576) (hb: ∀r∈l,r.visits.length<=1048576/\ordR r.visits=(((ordS r.visits:Nat):Int),0)/\ ∀v∈r.visits,0<=v.order/\v.order<62) :
  ACalls Tryz.prog 22 [.p (ZF x),.p (Vk p),.p (.list c (l.map Z0))] [] fun y H'=>y=pU x p (Z1 l)/\H'= []:=by
 have ck:=cK x p ho ht hr hv;have zI:ZF E4= .agg [.list true [],.list true [],.list true [],.list true [],.list true [],.list true []]:=rfl;obtain ⟨T,hT⟩: ∃T,T=pU x p (Z1 l):=⟨_,rfl⟩;rw [<- hT];unfold pU at hT;unfold hJ at ck;refine Zg [18] Tryz.func22 rfl ZfJ ?_;simp (disch:=omega) only [Tryz.f22,go_sem,seval]
 by_cases h0:YI x p=0
 ·rw [if_pos h0,h0] at ck;rw [if_pos h0,h0] at hT;have hwl:(Wm (E7 x p) x.orders.length).length=x.orders.length:=Wx;refine WV ck ?_;simp (disch:=omega) only [nX,go_sem,seval];refine (KS (Wm (E7 x p) x.orders.length) false Za).useF (Zc ?_);refine ZT [18] [6,8,30,31] (fun k:Nat=> [(32,.p (.int .i64 k))]) (fun k=> [Zj x,Z9 p,.cells (List.replicate 6 (.p (.list true []))),.cells (CM x 4 x.orders.length),.elems 16 ((QA x p (fun j=>(Z1 (l.take k)).testBit j)).map eOrd)]) (fun k=>k<=l.length) (fun k=>l.length-k) 0 Zb (Weak.mk ?_) ?_
  ·have e0:QA x p (fun j=>(Z1 ([]:List Rte)).testBit j)=Wm (E7 x p) x.orders.length:=(QL fun j _=>by simp [Z1,ordS]).trans TC;simp (disch:=omega) only [CM,Zj,Z9,List.replicate,hwl,Y6,e0,go_sem,seval]
  ·intro k hk;have hrl:(QA x p (fun j=>(Z1 (l.take k)).testBit j)).length=x.orders.length:=CT;simp (disch:=omega) only [CM,Zj,Z9,List.replicate,go_sem,seval];refine cD ?_ ?_<;>intro h<;>simp (disch:=omega) only [Sh.out h,go_sem,seval,↓reduceIte]
   ·have hk2:k<l.length:=Za
    obtain ⟨v1,v2,v3⟩:=hb _ (Zo hk2);have hs:=BV hk2;have co:=UL (nth l k) v1;rw [v2] at co;refine WV co (Zc ?_);refine ((Gg ((ordS (nth l k).visits:Nat):Int)).frozen Zb).use (Zc ?_)
    generalize hS:ordS (nth l k).visits=S at *
    generalize hB:Z1 (l.take k)=B at *
    refine Zl [6,8,30,31,32,46,47] (fun m:Nat=> [(48,.p (.int .i64 m))]) (fun m=> [Zj x,Z9 p,.cells (List.replicate 6 (.p (.list true []))),.cells (CM x 4 x.orders.length),.elems 16 ((QA x p (fun j=>B.testBit j||decide ((j:Int)∈(XK (S:Int) 63).take m))).map eOrd),ZO (nth l k)]) (fun m=>m<=(XK (S:Int) 63).length) (fun m=>(XK (S:Int) 63).length-m) 0 Zb (Weak.mk ?_) ?_
    ·simp (disch:=omega) only [CM,Zj,Z9,List.replicate,ZO,Y6,Kp,Kx,Bool.or_false,go_sem,seval]
    ·intro m hm;have hrl2:(QA x p (fun j=>B.testBit j||decide ((j:Int)∈(XK (S:Int) 63).take m))).length=x.orders.length:=CT;have hml:=D5 (S:Int) 63;simp (disch:=omega) only [CM,Zj,Z9,List.replicate,ZO,go_sem,seval];refine ZD ?_ ?_<;>intro h2
     ·have hm2:m<(XK (S:Int) 63).length:=Za
      obtain ⟨i,hvi,hi63,hbit⟩:=Lq.1 (ZH hm2)
      have htk:(XK (S:Int) 63).take (m+1)=(XK (S:Int) 63).take m++ [(i:Int)]:=by grind [Xw,Zh]
      have hse: ∀j:Nat,j<x.orders.length->(B.testBit j||decide ((j:Int)∈(XK (S:Int) 63).take (m+1)))=((B.testBit j||decide ((j:Int)∈(XK (S:Int) 63).take m))||decide (j=i)):=fun j _=>by
       grind
      simp (disch:=omega) only [hrl2,eq_self,hvi,go_sem,seval]
      by_cases h3:i<x.orders.length
      ·have hset:=Od (x:=x) (p:=p) (P:=fun j=>B.testBit j||decide ((j:Int)∈(XK (S:Int) 63).take m)) h3;rw [<- QL hse] at hset;have hel:UT ((QA x p (fun j=>B.testBit j||decide ((j:Int)∈(XK (S:Int) 63).take m))).map eOrd) i=eOrd (nth (QA x p (fun j=>B.testBit j||decide ((j:Int)∈(XK (S:Int) 63).take m))) i):=WY Za
       have hxl:((QA x p (fun j=>B.testBit j||decide ((j:Int)∈(XK (S:Int) 63).take m))).map eOrd).length=x.orders.length:=by simp_all
       have hstp:=ZV (List.map eOrd) hset;rw [Vu] at hstp;simp only [CV] at hstp;refine ZD ?_ ?_<;>intro h4
       ·simp (disch:=omega) only [hrl2,eq_self,Vp,go_sem,seval];exact ⟨m+1,Za,Za,Weak.mk (by simp (disch:=omega) only [hstp,go_sem,seval])⟩
       ·omega
      ·have hset:QA x p (fun j=>B.testBit j||decide ((j:Int)∈(XK (S:Int) 63).take (m+1)))=QA x p (fun j=>B.testBit j||decide ((j:Int)∈(XK (S:Int) 63).take m)):=QL fun j hj=>by
        rw [hse j hj,Yd (show ¬j=i by omega),Bool.or_false]
       refine ZD ?_ ?_<;>intro h4
       ·omega
       ·exact ⟨m+1,Za,Za,Weak.mk (by simp (disch:=omega) only [hset,go_sem,seval])⟩
     ·have hkl:m=(XK (S:Int) 63).length:=Za
      subst hkl
      have hend:QA x p (fun j=>B.testBit j||decide ((j:Int)∈XK (S:Int) 63))=QA x p (fun j=>(Z1 (l.take (k+1))).testBit j):=QL fun j hj=>by
       rw [hs,Ks];refine ZV _ ?_;rw [Yp,Zp,Lq];exact ⟨fun ⟨i,e,_,hi⟩=>by rw [show j=i by omega];exact hi,fun hi=>⟨j,rfl,Za,hi⟩⟩
      exact ⟨k+1,Za,Za,Weak.mk (by simp (disch:=omega) only [XZ,hend,go_sem,seval])⟩
   ·have hkl:k=l.length:=Za
    subst hkl;rw [XZ] at hrl ⊢;refine Zr (Weak.fz (o:=4) (by rfl)) ?_;refine Zf [] _ _ _ _ ?_;simp (disch:=omega) only [Zt,Zm,Xp,Z7,ZM,hrl,eq_self,go_sem,seval];have hb2:Wm (Ts x p (Z1 l)) x.orders.length=QA x p (fun j=>(Z1 l).testBit j):=rfl;exact ⟨T,[],Weak.mk (by simp (disch:=omega) only [hT,Jd,hb2,go_sem,seval]),rfl,rfl⟩
 ·rw [if_neg h0,zI] at ck;rw [if_neg h0,zI] at hT;refine WV ck (Zc ?_);refine cD ?_ ?_<;>intro h2<;>simp (disch:=omega) only [Sh.out h2,go_sem,seval,↓reduceIte]
  ·exact ⟨T,[],Weak.mk (by simp (disch:=omega) only [hT,go_sem,seval]),rfl,rfl⟩
  ·omega
theorem Ty (S i:Nat):IntKind.i64.wrap ((BitVec.ofInt 64 ((S / pw i:Nat):Int)&&&1#64).toNat:Int)=if S.testBit i=true then 1 else 0:=by
 have h1:=N5 ((S / pw i:Nat):Int);rw [show BitVec.ofInt 64 1=1#64 from rfl] at h1;rw [h1,D0];unfold pw
 grind
theorem PN (x:Inst) (p:Pln) (l:List Rte) (c:Bool) (ho:x.orders.length<=4) (ht:x.types.length<=1048576) (hr:p.routes.length<=1048576) (hv: ∀r∈p.routes,r.visits.length<=1048576)
  (hl:l.length<=1048576) (hb: ∀r∈l,r.visits.length<=1048576/\ordR r.visits=(((ordS r.visits:Nat):Int),0)/\ ∀v∈r.visits,0<=v.order/\v.order<62) :
  ACalls Tryz.prog 23 [.p (ZF x),.p (Vk p),.p (.list c (l.map Z0))] [] fun y H'=>y=pU x p (Z1 l)/\H'= []:=by
 have ck:=gD x p Za ht hr hv;have zI:ZF E4= .agg [.list true [],.list true [],.list true [],.list true [],.list true [],.list true []]:=rfl;obtain ⟨T,hT⟩: ∃T,T=pU x p (Z1 l):=⟨_,rfl⟩;rw [<- hT];unfold pU at hT;unfold hJ at ck;refine Zg [5,17] Tryz.func23 rfl ZfK ?_;simp (disch:=omega) only [Tryz.f23,go_sem,seval]
 by_cases h0:YI x p=0
 ·rw [if_pos h0,h0] at ck;rw [if_pos h0,h0] at hT;have hwl:(Wm (E7 x p) x.orders.length).length=x.orders.length:=Wx;refine WV ck ?_;simp (disch:=omega) only [nX,go_sem,seval];refine Zr (Weak.ofNil 10 16 (by simp (disch:=omega) only [go_sem,seval]) Zb (Weak.refl _ _ _)) ?_;refine Zf [17] _ _ _ _ ?_;simp (disch:=omega) only [hwl,go_sem,seval];refine ZT [17] [2,6,8,10] (fun k:Nat=> [(11,.p (.int .i64 k))]) (fun k=> [Zj x,Z9 p,.cells (List.replicate 6 (.p (.list true []))),.cells ([.p (.list x.net.places_c (x.net.places.map eS)),.p (.list x.net.arcs_c (x.net.arcs.map Wp)),.p (.list x.types_c (x.types.map Wq)),.p (.list false ((nX x p).orders.map eOrd)),.p (.list x.apart_c (x.apart.map eP)),.p (.list x.before_c (x.before.map eP))]),.elems 16 ((QA x p (fun j=>(Z1 (l.take k)).testBit j)).map eOrd)]) (fun k=>k<=l.length) (fun k=>l.length-k) 0 Zb (Weak.mk ?_) ?_
  ·have e0:QA x p (fun j=>(Z1 ([]:List Rte)).testBit j)=Wm (E7 x p) x.orders.length:=(QL fun j _=>by simp [Z1,ordS]).trans TC;simp (disch:=omega) only [Zj,Z9,nX,List.replicate,Y6,e0,go_sem,seval]
  ·intro k hk;have hrl:(QA x p (fun j=>(Z1 (l.take k)).testBit j)).length=x.orders.length:=CT;simp (disch:=omega) only [Zj,Z9,List.replicate,go_sem,seval];refine cD ?_ ?_<;>intro h<;>simp (disch:=omega) only [Sh.out h,go_sem,seval,↓reduceIte]
   ·have hk2:k<l.length:=Za
    obtain ⟨v1,v2,v3⟩:=hb _ (Zo hk2);have hs:=BV hk2;have co:=Ch (nth l k) v1;rw [v2] at co;refine WV co (Zc ?_)
    generalize hS:ordS (nth l k).visits=S at *
    generalize hB:Z1 (l.take k)=B at *
    refine Zl [2,6,8,10,11,12] (fun m:Nat=> [(14,.p (.int .i64 m))]) (fun m=> [Zj x,Z9 p,.cells (List.replicate 6 (.p (.list true []))),.cells ([.p (.list x.net.places_c (x.net.places.map eS)),.p (.list x.net.arcs_c (x.net.arcs.map Wp)),.p (.list x.types_c (x.types.map Wq)),.p (.list false ((nX x p).orders.map eOrd)),.p (.list x.apart_c (x.apart.map eP)),.p (.list x.before_c (x.before.map eP))]),.elems 16 ((QA x p (fun j=>B.testBit j||(S.testBit j&&decide (j<m)))).map eOrd)]) (fun m=>m<=x.orders.length) (fun m=>x.orders.length-m) 0 Zb (Weak.mk ?_) ?_
    ·have e0:QA x p (fun j=>B.testBit j||(S.testBit j&&decide (j<0)))=QA x p (fun j=>B.testBit j):=QL fun j _=>Zb
     simp (disch:=omega) only [Zj,Z9,List.replicate,e0,go_sem,seval]
    ·intro m hm;have hrl2:(QA x p (fun j=>B.testBit j||(S.testBit j&&decide (j<m)))).length=x.orders.length:=CT
     have hxl:((QA x p (fun j=>B.testBit j||(S.testBit j&&decide (j<m)))).map eOrd).length=x.orders.length:=by grind
     simp (disch:=omega) only [Zj,Z9,List.replicate,go_sem,seval];simp (disch:=omega) only [hrl2,eq_self,go_sem,seval];refine ZD ?_ ?_<;>intro h2
     ·have hm2:m<x.orders.length:=Za
      have hbt:=Ty S m
      have hse: ∀j:Nat,j<x.orders.length->(B.testBit j||(S.testBit j&&decide (j<m+1)))=((B.testBit j||(S.testBit j&&decide (j<m)))||(S.testBit m&&decide (j=m))):=fun j _=>by
       rw [Bool.or_assoc];refine ZV _ ?_
       by_cases c:j=m
       ·subst c;simp
       ·rw [Yd (p:=j=m) c,Kn,Bool.or_false]
        grind
      erw [hbt]
      cases hbm:S.testBit m with
      | true =>
       rw [if_pos rfl];have hset:=Od (x:=x) (p:=p) (P:=fun j=>B.testBit j||(S.testBit j&&decide (j<m))) hm2
       have hq:QA x p (fun j=>(B.testBit j||(S.testBit j&&decide (j<m)))||decide (j=m))=QA x p (fun j=>B.testBit j||(S.testBit j&&decide (j<m+1))):=QL fun j hj=>by simp_all
       rw [hq] at hset;have hel:UT ((QA x p (fun j=>B.testBit j||(S.testBit j&&decide (j<m)))).map eOrd) m=eOrd (nth (QA x p (fun j=>B.testBit j||(S.testBit j&&decide (j<m)))) m):=WY Za;have hstp:=ZV (List.map eOrd) hset;rw [Vu] at hstp;simp only [CV] at hstp;refine ZD ?_ ?_<;>intro h4
       ·simp (disch:=omega) only [hrl2,eq_self,Vp,go_sem,seval];exact ⟨m+1,Za,Za,Weak.mk (by simp (disch:=omega) only [hstp,go_sem,seval])⟩
       grind
      | false =>
       rw [if_neg Zb]
       have hset:QA x p (fun j=>B.testBit j||(S.testBit j&&decide (j<m+1)))=QA x p (fun j=>B.testBit j||(S.testBit j&&decide (j<m))):=QL fun j hj=>by
        simp_all
       refine ZD ?_ ?_<;>intro h4
       ·omega
       ·exact ⟨m+1,Za,Za,Weak.mk (by simp (disch:=omega) only [hset,go_sem,seval])⟩
     ·have hkl:m=x.orders.length:=Za
      subst hkl
      have hend:QA x p (fun j=>B.testBit j||(S.testBit j&&decide (j<x.orders.length)))=QA x p (fun j=>(Z1 (l.take (k+1))).testBit j):=QL fun j hj=>by
       grind
      exact ⟨k+1,Za,Za,Weak.mk (by simp (disch:=omega) only [hend,go_sem,seval])⟩
   ·have hkl:k=l.length:=Za
    subst hkl;rw [XZ] at hrl ⊢;have hb2:Wm (Ts x p (Z1 l)) x.orders.length=QA x p (fun j=>(Z1 l).testBit j):=rfl;refine Zr (Weak.fz (o:=4) (by rfl)) ?_;refine Zf [] _ _ _ _ ?_;simp (disch:=omega) only [Zt,Zm,Xp,Z7,ZM,hrl,eq_self,go_sem,seval];exact ⟨T,[],Weak.mk (by simp (disch:=omega) only [hT,Jd,hb2,go_sem,seval]),rfl,rfl⟩
 ·rw [if_neg h0,zI] at ck;rw [if_neg h0,zI] at hT;refine WV ck (Zc ?_);refine cD ?_ ?_<;>intro h2<;>simp (disch:=omega) only [Sh.out h2,go_sem,seval,↓reduceIte]
  ·exact ⟨T,[],Weak.mk (by simp (disch:=omega) only [hT,go_sem,seval]),rfl,rfl⟩
  ·omega
abbrev Cm := { c:Col // ∃S:Nat,c.set=S/\0<S/\S<16 }
instance : Inhabited Cm := ⟨⟨⟨0, 1, 0, default⟩, 1, rfl, by decide, by decide⟩⟩
def lo (c:Col):Int:=KH c.set.toNat
def tI (a b:Col):Int:=lU [UR a.typ b.typ,UR (lo a) (lo b)]
theorem K5 {a b:Col} :tI a b<0↔a.typ<b.typ\/(a.typ=b.typ/\lo a<lo b):=by
 grind [tI,HE,TR,TQ]
def tJ (a b:Cm):Int:=tI a.val b.val
theorem jN : Go.Sort.SWO (ltOf tJ) where
 irrefl x:=by grind [ltOf,tJ,K5]
 trans x y z h1 h2:=by simp only [ltOf,tJ,Zp,K5] at *;omega
 ntrans x y z h1 h2:=by grind [ltOf,tJ,K5]
theorem Zgu (c:Cm):PC 107 [.p (.int .i64 c.val.set)] (.int .i64 (lo c.val)):=by
 obtain ⟨c,S,h1,h2,h3⟩:=c
 grind [lo,LX]
theorem P3 (a b:Cm):PC 104 [.p (X5 a.val),.p (X5 b.val)] (.int .i64 (tJ a b)):=by
 refine Zd Tryz.func104 rfl uO ?_;simp (disch:=omega) only [Tryz.f104,go_sem,seval];refine Xn (Zc ?_);refine Zq (FM a.val.typ b.val.typ) (Zc ?_);refine Zq (Zgu a) (Zc ?_);refine Zq (Zgu b) (Zc ?_);refine Zq (FM (lo a.val) (lo b.val)) (Zc ?_);refine Zq (Zax [UR a.val.typ b.val.typ,UR (lo a.val) (lo b.val)] false Zb) (Zc ?_)
 rfl
theorem nD (xs:List Cm) (hl:xs.length<=1048576) {H:List AM.Obj} {o:Nat} (hH:H[o]? =some (.elems 7 (xs.map fun c=>X5 c.val))) :
  ACalls Tryz.prog 103 [.sl o 0 xs.length xs.length,.fn (.func 104) [] []] H fun y H'=>y= .tup []/\ ∃ys:List Cm,ys.Perm xs/\ys.Pairwise (fun a b=> ¬tJ b a<0)/\H'=H.set o (.elems 7 (ys.map fun c=>X5 c.val)) :=
 ACalls.sortFunc L8 bI 7 Tryz.isAgg158 Tryz.sizeOf158 (fun c:Cm=>X5 c.val) (fun x=>⟨_,rfl,rfl,rfl⟩) tJ jN 104 P3 xs Za hH
theorem Cc {n:Nat} {m:Int} {x:Inst} {fst:List (List Col)} {sk:List Int} : ∀(d:Nat) (s:St),∀c∈(X6 n m x fst sk d s).1,∃i,i<fst.length/\c∈nth fst i
 | 0,s,c,h=>by simp [X6] at h
 | d+1,s,c,h=>by
  rw [X6] at h
  split at h
  ·simp at h
  ·split at h
   ·rename_i c' hf;simp only [XR] at h;rcases h with rfl | h
    ·refine ⟨s.ix.toNat,?_,QX hf⟩;rcases Vn s.ix.toNat fst.length with h | h
     ·exact h
     ·rw [show nth fst s.ix.toNat= [] from by simp [nth,QV,List.getElem?_eq_none h];rfl] at hf;simp at hf
    ·exact Cc d _ c h
   ·exact Cc d _ c h
def Ia : Pln:=⟨true,[],true,[]⟩
def Mp (x:Inst) (l:List Col) (p:Pln) (c e:Int):Prop:=(8192<l.length/\p=Ia/\c=0/\e=4)\/(l.length<=8192/\(∃c∈l,rightB x c=false)/\p=Ia/\c=0/\e=2) \/
 (l.length<=8192/\(∀c∈l,rightB x c=true)/\ ∃ys,Cheap l ys/\ys.length<=l.length/\((Rv x ys<0/\p=Ia/\c=0/\e=24)\/(0<=Rv x ys/\c=Rv x ys/\e=0 /\
  ∃zs:List Col,zs.Perm (X6 x.orders.length ((Ye x x.orders.length:Nat):Int) x (fstF x.orders.length ys) (skF x x.orders.length) 20 (WH x.orders.length ((Ye x x.orders.length:Nat):Int) zSt)).1/\zs.Pairwise (fun a b=> ¬tI b a<0) /\
   p=⟨false,zs.map (·.route),false,(X6 x.orders.length ((Ye x x.orders.length:Nat):Int) x (fstF x.orders.length ys) (skF x x.orders.length) 20 (WH x.orders.length ((Ye x x.orders.length:Nat):Int) zSt)).2⟩)))
theorem Cb {n:Nat} {m:Int} {x:Inst} {fst:List (List Col)} {sk:List Int} : ∀(d:Nat) (s:St),(X6 n m x fst sk d s).1.length<=d/\(X6 n m x fst sk d s).2.length<=d
 | 0,s=>by simp [X6]
 | d+1,s=>by
  rw [X6]
  split
  ·simp
  ·split
   ·rename_i c' hf;have:=Cb (n:=n) (m:=m) (x:=x) (fst:=fst) (sk:=sk) d (W7 n m s c');simp;omega
   ·have:=Cb (n:=n) (m:=m) (x:=x) (fst:=fst) (sk:=sk) d (B8 n m s);simp;omega
theorem RY (x:Inst) (l:List Col) (lc:Bool) (hx:InstOk x) (hn:x.orders.length<=4) (ht:x.types.length<=1048576) (hs: ∀c∈l,c.set<9223372036854775808) (hl:l.length<=1048576) :
  ACalls Tryz.prog 64 [.p (ZF x),.p (.list lc (l.map X5))] [] fun y H'=> ∃p c e,Mp x l p c e/\y= .tup [.p (Vk p),.p (.int .i64 c),.p (.int .i64 e)]/\H'= []:=by
 refine Zg [16] Tryz.func64 rfl Zf4 ?_;simp (disch:=omega) only [Tryz.f64,go_sem,seval];refine ((P0 x l lc hn ht (fun i=>GA Za (fX hx _)) hs hl).behind (by rfl) _).mono ?_;rintro y H' ⟨y1,H1,hq,rfl,rfl⟩;rcases hq with ⟨h1,rfl,rfl⟩ | ⟨h1,h2,rfl,rfl⟩ | ⟨h1,h2,ys,⟨hC,hyl⟩,rfl,rfl⟩
 ·simp (disch:=omega) only [shV,shVs,Zm,go_sem,seval];exact ⟨.tup [.p (Vk Ia),.p (.int .i64 0),.p (.int .i64 4)],[],Weak.mk (by simp (disch:=omega) only [Ia,Zm,go_sem,seval]),_,_,_,Or.inl ⟨h1,rfl,rfl,rfl⟩,rfl,rfl⟩
 ·simp (disch:=omega) only [shV,shVs,Zm,go_sem,seval];exact ⟨.tup [.p (Vk Ia),.p (.int .i64 0),.p (.int .i64 2)],[],Weak.mk (by simp (disch:=omega) only [Ia,Zm,go_sem,seval]),_,_,_,Or.inr (Or.inl ⟨h1,h2,rfl,rfl,rfl⟩),rfl,rfl⟩
 ·have hok:=Og hx hn hC h2 hs
  have hcl: ∀r∈fstF x.orders.length ys,r.length<=1048576:=fun r hr=>by
   obtain ⟨p,_,rfl⟩:=XM.1 hr
   grind [YL]
  obtain ⟨m,hm⟩: ∃m:Int,m=((Ye x x.orders.length:Nat):Int):=⟨_,rfl⟩;obtain ⟨B,hB⟩: ∃B,B=Rv x ys:=⟨_,rfl⟩;simp (disch:=omega) only [shV,shVs,shO,Yz,W9,Zt,Zm,List.replicate,ZQ,ZG,go_sem,seval];rw [<- hm];refine ACalls.mono ((EI x (.list false ((fstF x.orders.length ys).map YT)) (.list false ((skF x x.orders.length).map eI)) m [] zSt rfl (by decide) Za (by decide)).back [Zj x,.cells [.p (.list true []),.p (.list true [])],.cells (List.replicate 6 .junk)] (by rfl)) ?_;rintro y H' ⟨y1,H1,⟨rfl,rfl⟩,rfl,rfl⟩;obtain ⟨v1,_⟩:=NN (m:=m) (rA x.orders.length)
  have hrg:=Ul (m:=m) hok 20 _ v1
  have hbb:B=YJ x.orders.length m x (fstF x.orders.length ys) (skF x x.orders.length) 20 (WH x.orders.length m zSt):=by rw [hB,Rv,hm]
  rw [<- hbb] at hrg;obtain ⟨R,hR⟩: ∃R,R=X6 x.orders.length m x (fstF x.orders.length ys) (skF x x.orders.length) 20 (WH x.orders.length m zSt):=⟨_,rfl⟩;obtain ⟨i,w,b0,b1,b2,b3,b4,b5,hw⟩:=Yt v1.len;have hRr:=hR;rw [hw] at hbb v1 hR ⊢;simp (disch:=omega) only [shV,shVs,shO,Yz,W9,Zt,Zm,List.replicate,ZQ,ZG,go_sem,seval];have c3:=((CW x (fstF x.orders.length ys) (skF x x.orders.length) false false m Za (by simp [fstF]) (by simp [skF]) hok hcl 20 ⟨i,w,[b0,b1,b2,b3,b4,b5]⟩ [] Za v1 (by have:=v1.ix;omega) (fun p hp=>by simp at hp)).mono (fun y H' hq=>(⟨hq,by obtain ⟨l',_,_,rfl⟩:=hq;rfl⟩:_/\H'.length=(Yz x (.list false ((fstF x.orders.length ys).map YT)) (.list false ((skF x x.orders.length).map eI)) m []).length))).front (by rfl) (by rfl) [Am ⟨i,w,[b0,b1,b2,b3,b4,b5]⟩]
  refine ACalls.mono (c3.back [Zj x,.cells [.p (.list true []),.p (.list true [])],.cells (List.replicate 6 .junk)] (by rfl)) ?_;rintro y H' ⟨y1,H1,⟨H2,⟨l',hl',rfl,rfl⟩,rfl⟩,rfl,rfl⟩;rw [<- hbb];simp (disch:=omega) only [shV,shVs,shO,Yz,W9,Am,Zt,Zm,List.replicate,ZQ,ZG,go_sem,seval];refine cD ?_ ?_<;>intro h3<;>simp (disch:=omega) only [Sh.out h3,go_sem,seval,↓reduceIte]
  ·exact ⟨.tup [.p (Vk Ia),.p (.int .i64 0),.p (.int .i64 24)],[],Weak.mk (by simp (disch:=omega) only [Ia,Zm,go_sem,seval]),_,_,_,Or.inr (Or.inr ⟨h1,h2,ys,hC,hyl,Or.inl ⟨Za,rfl,rfl,rfl⟩⟩),rfl,rfl⟩
  ·refine ACalls.mono ((ZaD (Am ⟨i,w,[b0,b1,b2,b3,b4,b5]⟩) (by intro H n;simp (disch:=omega) only [Am,Zt,Zm,go_sem,seval]) (by intro o xs;rfl) x (fstF x.orders.length ys) (skF x x.orders.length) false false m Za (by simp [fstF]) (by simp [skF]) hok hcl ⟨i,w,[b0,b1,b2,b3,b4,b5]⟩ l' v1 hl').back [Zj x,.cells [.p (.list true []),.p (.list true [])],.cells (List.replicate 6 .junk)] (by rfl)) ?_;rintro y H' ⟨y1,H1,⟨l2,A,U,hl2,hAU,rfl,rfl⟩,rfl,rfl⟩;rw [<- hR] at hAU;have hlen:=Cb (n:=x.orders.length) (m:=m) (x:=x) (fst:=fstF x.orders.length ys) (sk:=skF x x.orders.length) 20 (WH x.orders.length m zSt)
   rw [<- hRr,<- hAU] at hlen
   have hA: ∀c∈A,∃S:Nat,c.set=S/\0<S/\S<16:=fun c hc=>by
    have hc':c∈(X6 x.orders.length m x (fstF x.orders.length ys) (skF x x.orders.length) 20 (WH x.orders.length m zSt)).1:=by grind
    obtain ⟨j,hj,hm2⟩:=Cc _ _ _ hc'
    have e:nth (fstF x.orders.length ys) j=YL ys j:=by
     grind [fstF,Zh]
    rw [e,YL,QU] at hm2;obtain ⟨q,hq,hql,_⟩:=hC.bst c hm2.1
    have hmem:c∈l:=by grind [ZH]
    obtain ⟨S,q1,q2,q3,_⟩:=Q5 (h2 c hmem) (hs c hmem);exact ⟨S,q1,q2,JC q3 (Wk (n:=2) Za hn)⟩
   obtain ⟨L,hL⟩: ∃L:List Cm,L.map Subtype.val=A:=⟨A.pmap (fun c h=>⟨c,h⟩) hA,by simp [List.map_pmap]⟩;subst hL
   have hLl:(L.map Subtype.val).length=L.length:=Zb
   have hLe:(L.map Subtype.val).map X5=L.map fun c=>X5 c.val:=Zb
   simp only at hlen;rw [hLl] at hlen;simp (disch:=omega) only [shV,shVs,shO,Yz,W9,Am,Zt,Zm,List.replicate,ZQ,ZG,hLl,hLe,go_sem,seval];refine ((nD L Za (H:=_) (o:=7) rfl)).mono ?_;rintro y H' ⟨rfl,zs,hp,hsr,rfl⟩;have hzl:zs.length=L.length:=hp.length_eq;rw [<- hzl] at hlen ⊢;simp (disch:=omega) only [Xp,Z7,go_sem,seval];obtain ⟨Z,hZ⟩: ∃Z,Z=zs.map Subtype.val:=⟨_,rfl⟩
   have hZl:Z.length=zs.length:=by rw [hZ];simp
   have hZe:Z.map X5=zs.map fun c=>X5 c.val:=by rw [hZ];simp
   rw [<- hZl] at hlen ⊢
   have htl: ∀k,k<=Z.length->(Z.take k).length=k:=fun k hk=>by simp;omega
   refine Zl [4,10,13,45,46] (fun k:Nat=> [(47,.p (.int .i64 k))]) (fun k=> [Zj x,.cells [.p (.list true []),.p (.list true [])],.cells (List.replicate 6 .junk),.map (l2.map (IV KM)),shO 3 (W9 x (.list false ((fstF x.orders.length ys).map YT)) (.list false ((skF x x.orders.length).map eI)) m),Am ⟨i,w,[b0,b1,b2,b3,b4,b5]⟩,.cells (List.replicate 8 .junk),.elems 7 (Z.map X5),.cells [.sl 9 0 k k,.p (.list false (U.map eI))],.elems 4 ((Z.take k).map fun c=>Z0 c.route)]) (fun k=>k<=Z.length) (fun k=>Z.length-k) 0 Za ((Weak.nilC (o:=8) (j:=0) 4 (by rfl) (by rfl) Zb).trans (Weak.mk ?_)) ?_
   ·simp (disch:=omega) only [hZe,Y6,Xp,Z7,Zz,ZA,XG,Nat.reduceAdd,shV,shVs,shO,W9,Am,Zt,Zm,List.replicate,ZQ,ZG,Zj,go_sem,seval]
   ·intro k hk;simp (disch:=omega) only [shV,shVs,shO,W9,Am,Zt,Zm,List.replicate,Zj,go_sem,seval];refine cD ?_ ?_<;>intro h4<;>simp (disch:=omega) only [Sh.out h4,go_sem,seval,↓reduceIte]
    ·have hk2:k<Z.length:=Za
     simp (disch:=first | omega | (simp only [Zz,ZA,ZI,ZM,ZY,Xf]<;>omega)) only [WY hk2,hk2,go_sem,seval,↓reduceIte]
     have hsc:Z.take (k+1)=Z.take k++ [nth Z k]:=by rw [Xw hk2,Zh hk2]
     rw [if_pos ⟨htl k hk,Za,Za⟩];simp (disch:=omega) only [htl k hk,ZM,ZI,Zz,ZA,XG,eq_self,Vp,go_sem,seval];exact ⟨k+1,Za,Za,Weak.mk (by simp (disch:=omega) only [hsc,Xx,Zt,Zm,go_sem,seval])⟩
    ·have hkl:k=Z.length:=Za
     subst hkl;refine Zr (Weak.fz (o:=9) (by rfl)) ?_;refine Zf [] _ _ _ _ ?_;simp (disch:=omega) only [Zt,Zm,Xp,Z7,XZ,go_sem,seval];exact ⟨.tup [.p (Vk ⟨false,Z.map (·.route),false,U⟩),.p (.int .i64 B),.p (.int .i64 0)],[],Weak.mk (by simp (disch:=omega) only [List.map_map,Function.comp_def,go_sem,seval]),_,_,_,Or.inr (Or.inr ⟨h1,h2,ys,hC,hyl,Or.inr ⟨Za,hB,rfl,Z,by grind,by rw [hZ];exact List.pairwise_map.2 hsr,by grind⟩⟩),rfl,rfl⟩
def mI (x:Inst):Int:=((Ye x x.orders.length:Nat):Int)
theorem D3 {x:Inst} (hn:x.orders.length<=4) {k:Nat} (hk:k<x.orders.length):sHas (mI x) k= !(nth x.orders k).off:=by
 grind [mI,Qp,KA]
theorem AF {n:Nat} {s:St} (h:StV n s) {k:Nat} (hk:k<=62):sHas s.cov k=s.cov.toNat.testBit k:=by
 obtain ⟨C,hC,_⟩:=h.cov
 grind [Qp]
structure Ctx (x:Inst) (l ys:List Col):Prop where
 n4:x.orders.length<=4
 t6:x.types.length<=6
 ch:Cheap l ys
 rt: ∀c∈l,rightB x c=true
 st: ∀c∈l,c.set<9223372036854775808
 ok:ChOk x.orders.length x (fstF x.orders.length ys) (skF x x.orders.length)
 sk: ∀k,k<x.orders.length->(nth x.orders k).off=false->(0<=(nth x.orders k).penalty↔0<=skpF x k)/\(0<=skpF x k->skpF x k=skR x k)
theorem Zan : ∀S:Fin 16,0<S.val-> ∀k:Fin 4,(KH S.val=(k.val:Int)↔(S.val.testBit k.val=true/\ ∀i:Fin 4,i.val<k.val->S.val.testBit i.val=false)):=by decide+kernel
theorem ES {S n k:Nat} (hS:0<S) (h:S<2^n) (hn:n<=4) (hk:k<n):KH S=(k:Int)↔(S.testBit k=true/\ ∀i,i<n->S.testBit i=true->k<=i):=by
 have h16:S<16:=JC h (Wk (n:=2) Za hn);rw [show KH S=(k:Int)↔_ from Zan ⟨S,h16⟩ hS ⟨k,Za⟩];refine and_congr_right fun _=>⟨fun g i hi hb=> ?_,fun g i hi=> ?_⟩
 ·rcases Vn i k with h1 | h1
  ·have:=g ⟨i,Za⟩ h1
   grind
  ·exact h1
 grind
theorem Ctx.set {x:Inst} {l ys:List Col} (h:Ctx x l ys) {c:Col} (hc:c∈l):c.set=(c.set.toNat:Int)/\0<c.set.toNat/\c.set.toNat<2^x.orders.length/\ ∀i,c.set.toNat.testBit i=true->i<x.orders.length/\(nth x.orders i).off=false:=by
 obtain ⟨S,h1,h2,h3,h4⟩:=Q5 (h.rt c hc) (h.st c hc)
 grind
theorem Ctx.typ {x:Inst} {l ys:List Col} (h:Ctx x l ys) {c:Col} (hc:c∈l):(0<=c.typ/\c.typ<x.types.length)/\0<=c.price:=by
 have:=h.rt c hc;simp only [rightB,Zy,Zp] at this;omega
structure Nd (x:Inst) (l:List Col) (a:List Int) (s:St) (k:Nat):Prop where
 len:a.length=x.orders.length
 ix:s.ix=k
 v:StV x.orders.length s
 cov: ∀i,i<x.orders.length->s.cov.toNat.testBit i=decide (0<=nth a i)
 rng: ∀i,i<x.orders.length-> -1<=nth a i/\nth a i<l.length
 used: ∀T:Nat,T<6->nth s.used T=usdI l a T x.orders.length
 grp: ∀i,i<x.orders.length->0<=nth a i-> ∀t,t<x.orders.length->(nth l (nth a i).toNat).set.toNat.testBit t=true->nth a t=nth a i
 old: ∀i,i<x.orders.length->k<=i->0<=nth a i-> ∃t,t<k/\(nth l (nth a i).toNat).set.toNat.testBit t=true
 own: ∀i,i<x.orders.length->0<=nth a i->(nth l (nth a i).toNat).set.toNat.testBit i=true
def HU (s:St):St:= { s with ix:=s.ix+1 }
def Fh (s:St) (c:Col):St:=⟨s.ix+1,((s.cov.toNat|||c.set.toNat:Nat):Int),s.used.set c.typ.toNat (nth s.used c.typ.toNat+1)⟩
theorem Nd.skip {x:Inst} {l:List Col} {a:List Int} {s:St} {k:Nat} (h:Nd x l a s k) (hk:k<x.orders.length) (ho:0<=nth a k-> ∃t,t<k/\(nth l (nth a k).toNat).set.toNat.testBit t=true):Nd x l a (HU s) (k+1) :=
 ⟨h.len,by simp only [HU,h.ix];omega,⟨h.v.len,by have:=h.ix;simp only [HU];omega,h.v.cov,h.v.used⟩,h.cov,h.rng,h.used,h.grp,fun i hi hki h0=>by
  obtain ⟨t,h1,h2⟩:=h.old i hi Za h0
  grind,h.own⟩
theorem Nd.skip' {x:Inst} {l:List Col} {a:List Int} {s:St} {k:Nat} (h:Nd x l a s k) (hk:k<x.orders.length):Nd x l a (HU s) (k+1):=h.skip hk fun h0=>h.old k hk (Zx _) h0
theorem Of {x:Inst} {l ys:List Col} (hc:Ctx x l ys) {a:List Int} {s:St} {k j:Nat} (h:Nd x l a s k) (hk:k<x.orders.length) (hj:j<l.length):Hb x l a j k=true↔(Vq x s (nth l j)=true/\KH (nth l j).set.toNat=(k:Int)):=by
 obtain ⟨hS,hS0,hS1,hS2⟩:=hc.set (ZH hj);obtain ⟨⟨ht0,ht1⟩,_⟩:=hc.typ (ZH hj);have ht6:=hc.t6;have hu:=h.used (nth l j).typ.toNat Za;rw [show (((nth l j).typ.toNat:Nat):Int)=(nth l j).typ by omega] at hu;rw [ES hS0 hS1 hc.n4 hk];simp only [Hb,Vq,CN,Zy,Zp,Db,h.len,hu]
 constructor
 ·rintro ⟨h1,h2,h3⟩;refine ⟨⟨JB fun i=> ?_,h2⟩,h1,fun i hi hb=>(h3 i hi hb).2⟩;rw [Nat.testBit_and,Nat.zero_testBit]
  cases hb:(nth l j).set.toNat.testBit i with
  | false=>simp
  | true =>
   have hi:=(hS2 i hb).1;rw [h.cov i hi,UC,Yc]
   grind
 ·rintro ⟨⟨h1,h2⟩,h3,h4⟩;refine ⟨h3,h2,fun i hi hb=>⟨?_,h4 i hi hb⟩⟩;have:=ZV (fun z=>z.testBit i) h1;simp only [Nat.testBit_and,Nat.zero_testBit,hb,UC] at this;rw [h.cov i hi,Yc] at this;omega
theorem Cq {x:Inst} {l:List Col} {a:List Int} {k:Nat} {S:Nat} {j:Nat} (hl:a.length=x.orders.length) (hk:k<x.orders.length) (hb:S.testBit k=true) (hneg: ∀i,i<x.orders.length->S.testBit i=true->nth a i<0/\k<=i) (hfr: ∀i,i<x.orders.length->S.testBit i=false->nth a i≠(j:Int)) (T:Int) :
  ∀m,m<=x.orders.length->usdI l (Ci S a j) T m=usdI l a T m+(if k<m/\(nth l j).typ=T then 1 else 0)
 | 0,_=>by simp [usdI]
 | i+1,hm=>by
  have hi:i<a.length:=Za
  rw [usdI,usdI,Cq hl hk hb hneg hfr T i Za];have hset: ∀t,t<i->nth (Ci S a j) t=if S.testBit t=true then (j:Int) else nth a t:=fun t ht=>Ym Za
  cases hs:S.testBit i with
  | false =>
   have e:EU l (Ci S a j) T i=EU l a T i:=by
    rw [EU,EU,Ym hi,hs,if_neg Zb]
    by_cases h0:0<=nth a i
    ·have ef:M3 (Ci S a j) i=M3 a i:=by
      rw [Yp,AU,AU,Ym hi,hs,if_neg Zb]
      grind
     rw [ef]
    ·simp [h0]
   grind
  | true =>
   obtain ⟨hn,hki⟩:=hneg i Za hs
   have e2:EU l a T i=false:=by
    simp_all [EU,Yd]
   have e1:EU l (Ci S a j) T i=(decide ((nth l j).typ=T)&&decide (k=i)):=by
    rw [EU,Ym hi,hs,if_pos rfl,YO Za,Wl,XP]
    congr 1
    rw [Yp,AU,Ym hi,hs,if_pos rfl,Zp]
    grind
   grind
theorem Nd.child {x:Inst} {l ys:List Col} (hc:Ctx x l ys) {a:List Int} {s:St} {k j:Nat} (h:Nd x l a s k) (hk:k<x.orders.length) (hj:j<l.length) (hcan:Hb x l a j k=true):Nd x l (Ci (nth l j).set.toNat a j) (Fh s (nth l j)) (k+1):=by
 obtain ⟨hS,hS0,hS1,hS2⟩:=hc.set (ZH hj);obtain ⟨⟨ht0,ht1⟩,_⟩:=hc.typ (ZH hj);have ht6:=hc.t6;have hl6:s.used.length=6:=h.v.len;have hu:=h.used (nth l j).typ.toNat Za;rw [show (((nth l j).typ.toNat:Nat):Int)=(nth l j).typ by omega] at hu;have hcan':=hcan;simp only [Hb,Zy,Zp,Db,h.len] at hcan';obtain ⟨hb,hcnt,hneg⟩:=hcan';rw [<- hu] at hcnt;have hcount:=hc.ok.typ.2 (nth l j).typ.toNat Za;have hak:=(hneg k hk hb).1
 have hfr: ∀i,i<x.orders.length->(nth l j).set.toNat.testBit i=false->nth a i≠(j:Int):=fun i hi _ e=>by
  have:=h.grp i hi Za k hk (by grind [XP]);omega
 obtain ⟨C,hC,hC2⟩:=h.v.cov;have hS10:(nth l j).set.toNat<1024:=JC hS1 (Wk (n:=2) Za (show x.orders.length<=10 by have:=hc.n4;omega));refine ⟨by rw [EH];exact h.len,by simp only [Fh,h.ix];omega,⟨by simp only [StR,Fh,Bb];exact hl6,by have:=h.ix;simp only [Fh];omega,⟨_,rfl,?_⟩,fun t ht=> ?_⟩,fun i hi=> ?_,fun i hi=> ?_,fun T hT=> ?_,fun i hi h0 t ht hbt=> ?_,fun i hi hki h0=> ?_,fun i hi h0=> ?_⟩
 ·rw [hC,XP];exact JD (n:=10) hC2 hS10
 ·simp only [Fh];rw [Eb Za]
  split
  ·omega
  ·exact h.v.used t ht
 ·simp only [Fh,XP];rw [Ks,h.cov i hi,Ym (by rw [h.len];exact hi)]
  grind
 ·rw [Ym (by rw [h.len];exact hi)]
  split
  ·omega
  ·exact h.rng i hi
 ·simp only [Fh];rw [Eb Za,Cq h.len hk hb hneg hfr T _ (Zx _),h.used T hT]
  grind
 ·rw [Ym (i:=i) (by rw [h.len];exact hi)] at h0 hbt ⊢;rw [Ym (i:=t) (by rw [h.len];exact ht)]
  cases hbi:(nth l j).set.toNat.testBit i with
  | true =>
   rw [hbi,if_pos rfl,XP] at hbt
   grind
  | false =>
   rw [hbi,if_neg Zb] at h0 hbt;have e:=h.grp i hi h0 t ht hbt
   grind
 ·rw [Ym (by rw [h.len];exact hi)] at h0 ⊢
  cases hbi:(nth l j).set.toNat.testBit i with
  | true =>
   rw [if_pos rfl,XP]
   grind
  | false =>
   rw [hbi,if_neg Zb] at h0;rw [if_neg Zb];obtain ⟨t,h1,h2⟩:=h.old i hi Za h0
   grind
 ·rw [Ym (by rw [h.len];exact hi)] at h0 ⊢
  cases hbi:(nth l j).set.toNat.testBit i with
  | true=>rw [if_pos rfl,XP];exact hbi
  | false =>
   rw [hbi,if_neg Zb] at h0;rw [if_neg Zb];exact h.own i hi h0
def Lx (x:Inst) (ys:List Col) (D:Nat) (s:St):Int:=YJ x.orders.length (mI x) x (fstF x.orders.length ys) (skF x x.orders.length) D (WH x.orders.length (mI x) s)
theorem rC {x:Inst} {ys:List Col} {D:Nat} {s:St} (h:s.ix=x.orders.length):Lx x ys D s=0:=by
 unfold Lx
 cases D with
 | zero=>rfl
 | succ D =>
  simp_all [YJ,WH,BE]
theorem Cj {n:Nat} {m:Int} {s:St} {k:Nat} (hk:s.ix=k) (hkn:k<n) (hc:sHas m k=false\/sHas s.cov k=true):WH n m s=WH n m (HU s):=by
 simp_all [WH,HU,Dg]
theorem Ck {n:Nat} {m:Int} {s:St} {k:Nat} (hk:s.ix=k) (h1:sHas m k=true) (h2:sHas s.cov k=false):WH n m s=s:=by
 obtain ⟨i,v,u⟩:=s
 simp_all [WH,Cl]
theorem EZ {n:Nat} {m:Int} {s:St} {c:Col} {k:Nat} (hk:s.ix=k) (hkn:k<n) (hn:n<=4) (hb:c.set.toNat.testBit k=true):W7 n m s c=WH n m (Fh s c):=by
 have e:=Cj (n:=n) (m:=m) (s:=⟨s.ix,((s.cov.toNat|||c.set.toNat:Nat):Int),s.used.set c.typ.toNat (nth s.used c.typ.toNat+1)⟩) (k:=k) hk hkn (.inr (by
  simp only
  rw [Qp _ _ Za,Ks,hb,Bool.or_true]))
 exact e
theorem Eo {x:Inst} {l ys:List Col} (hc:Ctx x l ys) {k:Nat} (hk:k<x.orders.length) {c:Col} (hm:c∈YL ys k):c∈ys/\c∈l/\KH c.set.toNat=(k:Int)/\c.set.toNat.testBit k=true:=by
 rw [YL,QU,Zp] at hm;have hl:=Qc hc.ch hm.1;obtain ⟨_,h0,h1,_⟩:=hc.set hl;exact ⟨hm.1,hl,hm.2,((ES h0 h1 hc.n4 hk).1 hm.2).1⟩
theorem rB {x:Inst} {l ys:List Col} (hc:Ctx x l ys) {D:Nat} (hD:10<D) {s:St} {k:Nat} (hv:StV x.orders.length s) (hk:s.ix=k) (hkn:k<x.orders.length) (ho:(nth x.orders k).off=false) (hcv:s.cov.toNat.testBit k=false) :
  Lx x ys D s=if 0<=skpF x k then VA ((YL ys k).foldl (fun o c=>if Vq x s c=true then VA o c.price (Lx x ys D (Fh s c)) else o) (-1)) (skpF x k) (Lx x ys D (HU s)) else (YL ys k).foldl (fun o c=>if Vq x s c=true then VA o c.price (Lx x ys D (Fh s c)) else o) (-1):=by
 have hn:=hc.n4
 have e1:Lx x ys D s=YJ x.orders.length (mI x) x (fstF x.orders.length ys) (skF x x.orders.length) (D+1) s:=by
  rw [Lx,Ck hk (by grind [D3]) (by grind [AF])];exact Qm hc.ok _ _ s hv Za Za
 rw [e1,YJ,if_neg Za]
 have e2:nth (fstF x.orders.length ys) s.ix.toNat=YL ys k:=by simp_all [Lt]
 have e3:nth (skF x x.orders.length) s.ix.toNat=skpF x k:=by grind [skF,Zh]
 have e4:(YL ys k).foldl (fun o c=>if Vq x s c=true then VA o c.price (YJ x.orders.length (mI x) x (fstF x.orders.length ys) (skF x x.orders.length) D (W7 x.orders.length (mI x) s c)) else o) (-1)=(YL ys k).foldl (fun o c=>if Vq x s c=true then VA o c.price (Lx x ys D (Fh s c)) else o) (-1) :=
  Ab fun c hm o=>by rw [EZ hk hkn hn (Eo hc hkn hm).2.2.2];rfl
 simp only [e2,e3,e4]
 rfl
def EG (x:Inst) (ys:List Col) (D:Nat) (s:St) (c:Col):Bool:=Vq x s c&&(decide (0<=Lx x ys D (Fh s c))&&decide (c.price+Lx x ys D (Fh s c)=Lx x ys D s))
noncomputable def Fk (l:List Col) (d:Col):Nat:=open Classical in if h:Bst l l.length d then h.choose else 0
theorem mG {l:List Col} {d:Col} (h:Bst l l.length d):Fk l d<l.length/\nth l (Fk l d)=d/\ ∀i,i<l.length->kd (nth l i)=kd d->d.price<(nth l i).price\/(d.price=(nth l i).price/\Fk l d<=i):=by
 have e:Fk l d=h.choose:=by rw [Fk,dif_pos h]
 grind
noncomputable def gr (x:Inst) (l ys:List Col) (D:Nat):Nat->Nat->St->List Int->List Int
 | 0,_,_,a=>a
 | d+1,k,s,a=>if (nth x.orders k).off=true\/0<=nth a k then gr x l ys D d (k+1) (HU s) a else
  match (YL ys k).find? (EG x ys D s) with
  | some c=>gr x l ys D d (k+1) (Fh s c) (Ci c.set.toNat a (Fk l c))
  | none=>gr x l ys D d (k+1) (HU s) a
theorem C9 {x:Inst} {l ys:List Col} (hc:Ctx x l ys) {a:List Int} {s:St} {k:Nat} (h:Nd x l a s k) (hk:k<x.orders.length) {c:Col} (hm:c∈YL ys k) (hy:Vq x s c=true):Fk l c<l.length/\nth l (Fk l c)=c/\Hb x l a (Fk l c) k=true:=by
 obtain ⟨h1,h2,h3,h4⟩:=Eo hc hk hm;obtain ⟨p1,p2,_⟩:=mG (hc.ch.bst c h1)
 grind [Of]
theorem CU {x:Inst} {l:List Col} {a:List Int} {k j:Nat} (hl:a.length=x.orders.length) (hcan:Hb x l a j k=true):(nth l j).set.toNat.testBit k=true/\ ∀t,t<x.orders.length->(t<k\/0<=nth a t)->nth (Ci (nth l j).set.toNat a j) t=nth a t:=by
 simp only [Hb,Zy,Db,hl] at hcan
 grind [Ym]
theorem DS {x:Inst} {l ys:List Col} (hc:Ctx x l ys) {D:Nat} : ∀(d k:Nat) (s:St) (a:List Int),k+d=x.orders.length->Nd x l a s k->(gr x l ys D d k s a).length=x.orders.length/\ ∀t,t<x.orders.length->(t<k\/0<=nth a t)->nth (gr x l ys D d k s a) t=nth a t
 | 0,k,s,a,_,h=>⟨h.len,fun _ _ _=>rfl⟩
 | d+1,k,s,a,hd,h=>by
  have hk:k<x.orders.length:=Za
  rw [gr];have skip:=DS hc (D:=D) d (k+1) (HU s) a Za (h.skip' hk)
  split
  ·grind
  ·split
   ·rename_i c hf;have hsel:=Uz hf;simp only [EG,Zy] at hsel;obtain ⟨p1,p2,p3⟩:=C9 hc h hk (QX hf) hsel.1;have hch:=h.child hc hk p1 p3;rw [p2] at hch;have ho:=(CU h.len p3).2;rw [p2] at ho;obtain ⟨g1,g2⟩:=DS hc (D:=D) d (k+1) (Fh s c) _ Za hch;refine ⟨g1,fun t ht hh=> ?_⟩
    rw [g2 t ht (by
     rcases hh with h1 | h1
     ·left;omega
     ·right;rw [ho t ht (.inr h1)];exact h1),ho t ht hh]
   grind
theorem C8 {x:Inst} {l:List Col} : ∀(d:Nat) (a:List Int) (p:Int),d<=x.orders.length->a.length=x.orders.length-> ∀q∈Rw x l d a p,q.1.length=x.orders.length/\ ∀t,t<x.orders.length->(t<x.orders.length-d\/0<=nth a t)->nth q.1 t=nth a t
 | 0,a,p,_,h,q,hq=>by
  simp only [Rw,XR,Kp,or_false] at hq
  grind
 | d+1,a,p,hd,h,q,hq=>by
  rw [Rw] at hq
  split at hq
  ·obtain ⟨g1,g2⟩:=C8 d a p Za h q hq;exact ⟨g1,fun t ht hh=>g2 t ht (hh.imp Za id)⟩
  ·rw [Xr,W2] at hq;rcases hq with ⟨j,hj,hq⟩ | hq
   ·split at hq
    ·rename_i hcan;have ho:=(CU h hcan).2;obtain ⟨g1,g2⟩:=C8 d _ _ Za (by rw [EH];exact h) q hq;refine ⟨g1,fun t ht hh=> ?_⟩
     rw [g2 t ht (by
      rcases hh with h1 | h1
      ·left;omega
      ·right;rw [ho t ht (.inr h1)];exact h1),ho t ht hh]
    ·simp at hq
   ·split at hq
    ·obtain ⟨g1,g2⟩:=C8 d a _ Za h q hq;exact ⟨g1,fun t ht hh=>g2 t ht (hh.imp Za id)⟩
    ·simp at hq
theorem hU {x:Inst} {l ys:List Col} (hc:Ctx x l ys) {D:Nat} {a:List Int} {s:St} {k:Nat} (h:Nd x l a s k) (hk:k<x.orders.length) (ho:(nth x.orders k).off=true\/0<=nth a k):Lx x ys D s=Lx x ys D (HU s):=by
 unfold Lx;rw [Cj h.ix hk (ho.imp (fun e=>by rw [D3 hc.n4 hk,e];rfl) fun e=>by rw [AF h.v (by have:=hc.n4;omega),h.cov k hk];grind)]
theorem OX {n i:Nat} (h:i<n):nth (List.replicate n (-1:Int)) i= -1:=by
 grind [Zh]
theorem Oy {x:Inst} {l ys:List Col} (hc:Ctx x l ys) {D:Nat} (hD:10<D): ∀(d k:Nat) (s:St) (a:List Int) (p:Int),k+d=x.orders.length->Nd x l a s k->0<=Lx x ys D s->(gr x l ys D d k s a,p+Lx x ys D s)∈Rw x l d a p
 | 0,k,s,a,p,hd,ha,h0=>by
  rw [rC (by rw [ha.ix];omega),VM,gr,Rw];simp
 | d+1,k,s,a,p,hd,ha,h0=>by
  have hk:k<x.orders.length:=Za
  have hkd:x.orders.length-(d+1)=k:=Za
  rw [Rw,hkd,gr]
  split
  ·rename_i ho;rw [hU hc ha hk ho] at h0 ⊢;exact Oy hc hD d (k+1) _ a p Za (ha.skip' hk) h0
  ·rename_i ho
   have hoff:(nth x.orders k).off=false:=by
    cases e:(nth x.orders k).off with
    | false=>rfl
    | true=>exact absurd (.inl e) ho
   have hak:nth a k<0:=Int.not_le.1 fun g=>ho (.inr g)
   have hcv:s.cov.toNat.testBit k=false:=by rw [ha.cov k hk];exact Yd Za
   rw [Xr,W2]
   cases hf:(YL ys k).find? (EG x ys D s) with
   | some c =>
    left
    have hsel:=Uz hf;simp only [EG,Zy,Zp] at hsel;obtain ⟨p1,p2,p3⟩:=C9 hc ha hk (QX hf) hsel.1;have hch:=ha.child hc hk p1 p3;rw [p2] at hch;refine ⟨Fk l c,ZS.2 p1,?_⟩;rw [if_pos p3,p2];have:=Oy hc hD d (k+1) _ _ (p+c.price) Za hch hsel.2.1;rw [show p+c.price+Lx x ys D (Fh s c)=p+Lx x ys D s by omega] at this;exact this
   | none =>
    right
    rw [A6] at hf;have hdec:=rB hc hD ha.v ha.ix hk hoff hcv;have hno: ∀c∈YL ys k,Vq x s c=true->0<=Lx x ys D (Fh s c)->c.price+Lx x ys D (Fh s c)≠Lx x ys D s:=fun c hm hy hL e=>hf c hm (by simp only [EG,hy,YO hL,YO e,Bool.and_self]);obtain ⟨s1,s2⟩:=hc.sk k hk hoff;have hfold:=FZ (x:=x) (s:=s) (r:=fun c=>Lx x ys D (Fh s c)) (l:=YL ys k) (a:= -1)
    by_cases hs:0<=skpF x k
    ·rw [if_pos (s1.2 hs),<- s2 hs];rw [if_pos hs] at hdec;unfold VA at hdec
     split at hdec
     ·rename_i hb;have:=Oy hc hD d (k+1) _ a (p+skpF x k) Za (ha.skip' hk) hb.1;rw [show p+skpF x k+Lx x ys D (HU s)=p+Lx x ys D s by omega] at this;exact this
     ·exfalso;rcases hfold with e | ⟨c,h1,h2,h3,h4⟩
      ·unfold VA at e;omega
      ·exact hno c h1 h2 h3 (by rw [hdec];exact h4.symm)
    ·exfalso;rw [if_neg hs] at hdec;rcases hfold with e | ⟨c,h1,h2,h3,h4⟩
     ·omega
     ·exact hno c h1 h2 h3 (by rw [hdec];exact h4.symm)
theorem DK {α:Type} {p q:α->Bool} : ∀ {l:List α},(∀a∈l,p a=q a)->l.find? p=l.find? q
 | [],_=>rfl
 | a::l,h=>by
  rw [List.find?_cons,List.find?_cons,h a Zb,DK fun a ha=>h a (Wj _ ha)]
def RA (l:List Col) (g:List Int):Nat->Nat->List Col
 | 0,_=> []
 | d+1,k=>(if 0<=nth g k/\KH (nth l (nth g k).toNat).set.toNat=(k:Int) then [nth l (nth g k).toNat] else [])++RA l g d (k+1)
def UA (x:Inst) (g:List Int):Nat->Nat->List Int
 | 0,_=> []
 | d+1,k=>(if nth g k<0/\(nth x.orders k).off=false then [(k:Int)] else [])++UA x g d (k+1)
theorem mY {x:Inst} {l ys:List Col} (hc:Ctx x l ys) {D:Nat} (hD:D=20) {s:St} {k:Nat} (hv:StV x.orders.length s) (hk:s.ix=k) (hkn:k<x.orders.length) (ho:(nth x.orders k).off=false) (hcv:s.cov.toNat.testBit k=false) {c:Col} (hm:c∈YL ys k) :
  HT x.orders.length (mI x) x (fstF x.orders.length ys) (skF x x.orders.length) s c=EG x ys D s c:=by
 have hn:=hc.n4;have e1:=Ck (n:=x.orders.length) hk (m:=mI x) (by grind [D3]) (by grind [AF]);have e2:=EZ (m:=mI x) hk hkn hn (Eo hc hkn hm).2.2.2
 grind [HT,EG,Lx]
theorem Bp {x:Inst} {l ys:List Col} (hc:Ctx x l ys) {D:Nat} (hD:D=20): ∀(d k:Nat) (s:St) (a:List Int) (f:Nat),k+d=x.orders.length->d<f->Nd x l a s k ->
  X6 x.orders.length (mI x) x (fstF x.orders.length ys) (skF x x.orders.length) f (WH x.orders.length (mI x) s)=(RA l (gr x l ys D d k s a) d k,UA x (gr x l ys D d k s a) d k)
 | 0,k,s,a,0,_,hf,_=>Za
 | 0,k,s,a,f+1,hd,_,h=>by
  rw [X6,if_pos,RA,UA];simp only [WH];have:=BE (n:=x.orders.length) (m:=mI x) (cov:=s.cov) (x.orders.length-s.ix.toNat) s.ix.toNat;have:=h.ix;omega
 | d+1,k,s,a,0,_,hf,_=>Za
 | d+1,k,s,a,f+1,hd,hf,h=>by
  have hk:k<x.orders.length:=Za
  have hn:=hc.n4;rw [gr]
  split
  ·rename_i ho;have hsk:=ho.imp (fun e=>show sHas (mI x) k=false by grind [D3]) (fun e=>show sHas s.cov k=true by rw [AF h.v Za,h.cov k hk];grind);rw [Cj h.ix hk hsk,Bp hc hD d (k+1) (HU s) a (f+1) Za Za (h.skip' hk)];have hg:=(DS hc (D:=D) d (k+1) (HU s) a Za (h.skip' hk)).2 k hk (.inl Za);rw [RA,UA,hg,if_neg,if_neg,ZG,ZG]
   ·grind
   ·rintro ⟨g1,g2⟩;obtain ⟨t,t1,t2⟩:=h.old k hk (Zx _) g1;have hr:=h.rng k hk;obtain ⟨_,s0,s1,_⟩:=hc.set (ZH (l:=l) (i:=(nth a k).toNat) Za);have:=((ES s0 s1 hn hk).1 g2).2 t Za t2;omega
  ·rename_i ho
   have hoff:(nth x.orders k).off=false:=by
    grind
   have hak:nth a k<0:=Int.not_le.1 fun g=>ho (.inr g)
   have hcv:s.cov.toNat.testBit k=false:=by rw [h.cov k hk];grind
   rw [Ck h.ix (by grind [D3]) (by rw [AF h.v Za,hcv]),X6,if_neg (by rw [h.ix];omega)]
   have e2:nth (fstF x.orders.length ys) s.ix.toNat=YL ys k:=by rw [h.ix,XP,Lt,if_pos hk]
   rw [e2,DK (q:=EG x ys D s) fun c hm=>mY hc hD h.v h.ix hk hoff hcv hm]
   cases hfd:(YL ys k).find? (EG x ys D s) with
   | some c =>
    have hsel:=Uz hfd;have hm:=QX hfd;simp only [EG,Zy] at hsel;obtain ⟨p1,p2,p3⟩:=C9 hc h hk hm hsel.1;have hch:=h.child hc hk p1 p3;obtain ⟨c1,c2⟩:=CU h.len p3;rw [p2] at hch c1 c2;have hg:=(DS hc (D:=D) d (k+1) (Fh s c) _ Za hch).2 k hk (.inl Za);rw [Ym (by rw [h.len];exact hk),if_pos c1] at hg;simp only;rw [EZ h.ix hk hn (Eo hc hk hm).2.2.2,Bp hc hD d (k+1) (Fh s c) _ f Za Za hch,RA,UA,hg,if_pos ⟨Za,by rw [XP,p2];exact (Eo hc hk hm).2.2.1⟩,if_neg Za,XP,p2]
    rfl
   | none =>
    have hg:=(DS hc (D:=D) d (k+1) (HU s) a Za (h.skip' hk)).2 k hk (.inl Za);simp only;have e3:B8 x.orders.length (mI x) s=WH x.orders.length (mI x) (HU s):=rfl;rw [e3,Bp hc hD d (k+1) (HU s) a f Za Za (h.skip' hk),RA,UA,hg,if_neg Za,if_pos ⟨hak,hoff⟩,h.ix]
    rfl
theorem K1 {l:List Col} {g:List Int} {c:Col} : ∀(d k:Nat),c∈RA l g d k↔ ∃i,k<=i/\i<k+d/\0<=nth g i/\KH (nth l (nth g i).toNat).set.toNat=(i:Int)/\c=nth l (nth g i).toNat
 | 0,k=>by simp [RA];omega
 | d+1,k=>by
  rw [RA,Xr,K1 d (k+1)]
  constructor
  ·rintro (h | ⟨i,h1,h2,h3⟩)
   ·split at h
    ·grind
    ·simp at h
   grind
  grind
theorem Mq {l:List Col} {g:List Int} : ∀(d k:Nat),(RA l g d k).Pairwise fun a b=>KH a.set.toNat<KH b.set.toNat
 | 0,k=> .nil
 | d+1,k=>by
  rw [RA,List.pairwise_append];refine ⟨?_,Mq d (k+1),fun a ha b hb=> ?_⟩
  ·split<;>simp
  ·split at ha
   ·rename_i hh;obtain ⟨i,h1,h2,h3,h4,rfl⟩:=(K1 _ _).1 hb
    grind
   ·simp at ha
theorem Zg9 {x:Inst} (hx:InstOk x) {k:Nat} (hk:k<x.orders.length) (ho:(nth x.orders k).off=false):(0<=(nth x.orders k).penalty↔0<=skpF x k)/\(0<=skpF x k->skpF x k=skR x k):=by
 have ha:=(hx.orders.2 k hk).arg;simp only [argOk,rng,Zy,Zp] at ha
 have e:Yk x k=if (nth x.orders k).penalty= -1 then (zSco,23) else (⟨(nth x.orders k).penalty,if (nth x.orders k).now= -1 then 0 else 1,0,0⟩,0):=by
  simp_all [Yk,if_neg]
 by_cases hp:(nth x.orders k).penalty= -1
 ·simp_all [skpF]
 ·have hm:(if (nth x.orders k).now= -1 then (0:Int) else 1)=0\/(if (nth x.orders k).now= -1 then (0:Int) else 1)=1:=Za
  have e2:skpF x k=skR x k/\0<=skR x k:=by
   rw [skpF,skR,e,if_neg hp];generalize (if (nth x.orders k).now= -1 then (0:Int) else 1)=m at hm
   have:XV ⟨(nth x.orders k).penalty,m,0,0⟩=((((nth x.orders k).penalty*16+m)*16+0)*65536+0,0):=by
    rw [XV,if_neg (by grind),if_neg (by grind)]
   grind
  omega
theorem T0 {x:Inst} {l ys:List Col} (hx:InstOk x) (hn:x.orders.length<=4) (hC:Cheap l ys) (hr: ∀c∈l,rightB x c=true) (hs: ∀c∈l,c.set<9223372036854775808):Ctx x l ys :=
 have hok:=Og hx hn hC hr hs
 ⟨hn,hok.typ.1,hC,hr,hs,hok,fun _ hk ho=>Zg9 hx hk ho⟩
theorem H5 {l:List Col} {n:Nat} {T:Int} : ∀m,m<=n->usdI l (List.replicate n (-1)) T m=0
 | 0,_=>rfl
 | m+1,h=>by
  rw [usdI,H5 m Za,EU,OX Za,Yd Za];rfl
theorem OU (x:Inst) (l:List Col):Nd x l (List.replicate x.orders.length (-1)) zSt 0:=by
 have hz: ∀i,i<x.orders.length->nth (List.replicate x.orders.length (-1:Int)) i= -1:=fun i hi=>OX hi;refine ⟨Zb,rfl,rA _,fun i hi=> ?_,fun i hi=>by grind,fun T hT=> ?_,fun i hi h=>by grind,fun i hi _ h=>by grind,fun i hi h=>by grind⟩
 ·simp_all [zSt]
 ·rw [H5 _ (Zx _)]
  have:T=0\/T=1\/T=2\/T=3\/T=4\/T=5:=Za
  rcases this with rfl | rfl | rfl | rfl | rfl | rfl<;>rfl
theorem Oz {x:Inst} {l ys:List Col} (hc:Ctx x l ys) {D:Nat} : ∀(d k:Nat) (s:St) (a:List Int),k+d=x.orders.length->Nd x l a s k-> ∃s',Nd x l (gr x l ys D d k s a) s' x.orders.length
 | 0,k,s,a,hd,h=>⟨s,by grind [gr]⟩
 | d+1,k,s,a,hd,h=>by
  have hk:k<x.orders.length:=Za
  rw [gr]
  split
  ·exact Oz hc d (k+1) _ _ Za (h.skip' hk)
  ·split
   ·rename_i c hf;have hsel:=Uz hf;simp only [EG,Zy] at hsel;obtain ⟨p1,p2,p3⟩:=C9 hc h hk (QX hf) hsel.1;have hch:=h.child hc hk p1 p3;rw [p2] at hch;exact Oz hc d (k+1) _ _ Za hch
   ·exact Oz hc d (k+1) _ _ Za (h.skip' hk)
theorem Tx {x:Inst} {ys:List Col} {D:Nat} (hD:D=20):Rv x ys=Lx x ys D zSt:=by subst hD;rfl
theorem H6 {g:FuncId} {args:List V} {R:Pln->Int->Int->Prop} {H:List AM.Obj} {K:V->List AM.Obj->Prop} (h:ACalls Tryz.prog g args [] fun y H'=> ∃p c e,R p c e/\y= .tup [.p (Vk p),.p (.int .i64 c),.p (.int .i64 e)]/\H'= []) (k: ∀p c e,R p c e->K (.tup [.p (Vk p),.p (.int .i64 c),.p (.int .i64 e)]) H) (ha:Xe 0 args=true:=by rfl):ACalls Tryz.prog g args H K :=
 (h.behind ha H).mono fun x H' hq=>by
  obtain ⟨y,H1,⟨p,c,e,hr,rfl,rfl⟩,rfl,rfl⟩:=hq
  grind [shV,shVs]
theorem GH {ok:List Vis->Bool} {col:List Vis->Col} {better:Col->Col->Bool} : ∀(L:List (List Vis)) (b:Col×Bool),(L.foldl (VP ok col better) b).2=true->(b.2=true/\(L.foldl (VP ok col better) b).1=b.1)\/ ∃m∈L,ok m=true/\(L.foldl (VP ok col better) b).1=col m
 | [],b,h=> .inl ⟨h,rfl⟩
 | l::L,b,h=>by
  rw [Vl] at h ⊢;rcases GH L _ h with ⟨h1,h2⟩ | ⟨m,h1,h2,h3⟩
  ·rw [h2];unfold VP at h1 ⊢
   grind
  grind
theorem Ex {one:Nat->List Col} {c:Col} : ∀q,c∈Fo one q↔ ∃S,1<=S/\S<=q/\c∈one S
 | 0=>by simp [Fo];omega
 | q+1=>by
  rw [Fo,Xr,Ex q]
  grind
theorem DJ {α:Type} [DecidableEq α] {p q:α->Bool} {a:α} : ∀ {l:List α},l.Nodup->a∈l->p a=false->q a=true->(∀b∈l,b≠a->p b=q b)->(l.filter q).length=(l.filter p).length+1
 | [],_,h,_,_,_=>by simp at h
 | b::l,hn,h,hp,hq,he=>by
  rw [List.nodup_cons] at hn
  by_cases e:b=a
  ·grind [A8]
  ·have ih:=DJ hn.2 (by
    grind) hp hq fun c hc=>he c (Wj _ hc)
   grind
theorem lP {x:Inst} {t:Typ} {sp:List Stp} {k:Nat} {L:Lab} {b:Bool} (hT:TrpOk x t sp) (hk:k<sp.length) (he:(XT x t sp k L b).2=0):L.ready<=(XT x t sp k L b).1.ready:=by
 have hrs:=hT.rst
 have hd:L.ready<=ZE t L b:=by grind [ZE]
 have hgo:(YH x t sp k (ZE t L b)).2.2=0->ZE t L b<=(YH x t sp k (ZE t L b)).1:=fun e=>Hr hT.net e;have hst:=hT.stp _ (ZH hk);unfold XT at he ⊢
 generalize YH x t sp k (ZE t L b)=g at *
 generalize ZE t L b=d at *
 generalize Wy L b=s at *
 generalize XB k d b L.she=m at *
 have hk2: ¬k=sp.length:=Za
 unfold Y9 at he ⊢
 grind
theorem lN {x:Inst} {t:Typ} {sp:List Stp} {L:Lab} {b:Bool} (hT:TrpOk x t sp) (he:(XT x t sp sp.length L b).2=0):L.ready<=(XT x t sp sp.length L b).1.she.fin/\(XT x t sp sp.length L b).1.she.fin<=t.cls:=by
 have hrs:=hT.rst
 have hd:L.ready<=ZE t L b:=by grind [ZE]
 have hgo:(YH x t sp sp.length (ZE t L b)).2.2=0->ZE t L b<=(YH x t sp sp.length (ZE t L b)).1:=fun e=>Hr hT.net e;unfold XT at he ⊢
 generalize YH x t sp sp.length (ZE t L b)=g at *
 generalize ZE t L b=d at *
 generalize Wy L b=s at *
 generalize XB sp.length d b L.she=m at *
 unfold Y9 at he ⊢
 grind
theorem O6 {x:Inst} {t:Typ} {sp:List Stp} (hT:TrpOk x t sp): ∀(bs:List Bool) (k:Nat) (L:Lab),k+bs.length=sp.length+1->0<bs.length->(Xu x t sp k L bs).2=0->L.ready<=(Xu x t sp k L bs).1.she.fin/\(Xu x t sp k L bs).1.she.fin<=t.cls
 | [],k,L,_,h3,_=>by simp at h3
 | b::bs,k,L,h2,_,h=>by
  rw [Xu] at h ⊢
  by_cases h4:(XT x t sp k L b).2=0
  ·simp only [h4,if_true] at h ⊢
   cases bs with
   | nil =>
    simp_all [Xu,lN]
   | cons b2 bs =>
    simp at h2;have h5:=O6 hT (b2::bs) (k+1) _ (by simp;omega) Zb h;have h6:=lP hT (show k<sp.length by omega) h4;omega
  grind
theorem kH {x:Inst} {r:Rte} (hx:InstOk x) (h:evalE x r=0):(ZR x r).opn<=(Xc x r).fin/\(Xc x r).fin<=(ZR x r).cls:=by
 obtain ⟨hty,h0,hs⟩:=WO (Wr h)
 have e:Xc x r=(Xl x r).1:=by rw [Xc,if_pos h]
 have ee:(Xl x r).2=0:=by rw [evalE,if_pos (Wr h)] at h;exact h
 have hT:=Qw hx hty (W6 h0);obtain ⟨bs,hb1,hb2,hb3⟩:=FJ (by grind [X0]) ee;have hb3:(Xl x r).1=_:=hb3;rw [e,hb3];have h1:=O6 hT bs 0 _ Za Za hb2
 grind [Xy]
def US (l:List Vis) (N:Nat):Nat:=(List.range N).countP fun i:Nat=>hasO l (i:Int)
theorem P5 {l m:List Vis} {N:Nat} (h: ∀v∈l,v∈m):US l N<=US m N:=List.countP_mono_left fun i _ hi=>by
 grind [XE]
theorem Oh {x:Inst} {l:List Vis} {t:Int} (hi:Inr x l): ∀n,n<=l.length->(0<=(chgF x l t n).1/\(chgF x l t n).1<=(US (l.take n) x.orders.length:Int))/\(0<=(chgF x l t n).2/\(chgF x l t n).2<=(US (l.take n) x.orders.length:Int))
 | 0,_=>by simp [chgF]
 | n+1,h=>by
  have ih:=Oh (t:=t) hi n Za
  have hn:n<l.length:=Za
  have hv:=hi _ (ZH hn)
  have htk:l.take (n+1)=l.take n++ [nth l n]:=by rw [Xw hn,Zh hn]
  have hmono:US (l.take n) x.orders.length<=US (l.take (n+1)) x.orders.length:=P5 fun v hv=>by grind
  have hap: ∀i:Int,hasO (l.take (n+1)) i=(hasO (l.take n) i||decide ((nth l n).order=i)):=fun i=>by grind [hasO]
  rw [chgF]
  split
  ·rename_i hf
   have hadd:US (l.take (n+1)) x.orders.length=US (l.take n) x.orders.length+1:=by
    unfold US;rw [List.countP_eq_length_filter,List.countP_eq_length_filter]
    have ei:(((nth l n).order.toNat:Nat):Int)=(nth l n).order:=Za
    refine DJ (a:=(nth l n).order.toNat) List.nodup_range (ZS.2 Za) ?_ ?_ fun b _ hb=> ?_
    ·rw [ei];simp only [VK,XI] at hf;exact hf
    ·grind
    grind
   omega
  ·omega
theorem DG {x:Inst} {r:Rte} (hx:InstOk x) (h:evalE x r=0):WU (X2 x r)/\(X2 x r).cost<=22000000/\(X2 x r).moved<=(US r.visits x.orders.length:Int)/\(X2 x r).other<=(US r.visits x.orders.length:Int)/\(X2 x r).work<=4096:=by
 have hg:=IY hx h;have hf:=kH hx h;obtain ⟨hty,_,_⟩:=WO (Wr h);have hnum:=Qx hx (show r.typ.toNat<x.types.length by omega);have htyp:nth x.types r.typ.toNat=ZR x r:=rfl;rw [htyp] at hnum
 have e:(Xl x r).1=Xc x r:=by rw [Xc,if_pos h]
 have hch:=Oh (t:=r.typ) (WM h).inr r.visits.length (Zx _);rw [XZ] at hch;rw [X2,if_pos h,e];unfold HR WU
 generalize Xc x r=s at *
 generalize ZR x r=t at *
 have p1:0<=t.perMile*s.miles/\t.perMile*s.miles<=100*210000:=⟨VL Za Za,Vm Za Za Za Za⟩
 have hW:0<=s.fin-t.opn/\s.fin-t.opn<=4096:=Za
 have p2:0<=t.perTick*(s.fin-t.opn)/\t.perTick*(s.fin-t.opn)<=100*4096:=⟨VL Za Za,Vm Za Za Za Za⟩
 have p3:0<=(s.fin-t.opn).tdiv 64/\(s.fin-t.opn).tdiv 64<=64:=by
  grind
 have p4:0<=(s.fin-t.opn).tdiv 64*(s.fin-t.opn).tdiv 64/\(s.fin-t.opn).tdiv 64*(s.fin-t.opn).tdiv 64<=64*64:=⟨VL p3.1 p3.1,Vm p3.2 p3.2 p3.1 Za⟩
 grind
theorem Pe {α:Type} {f:α->Nat} {p:α->Bool} : ∀l:List α,(l.map fun a=>f a+(if p a=true then 1 else 0)).sum=(l.map f).sum+l.countP p
 | []=>rfl
 | a::l=>by
  rw [Zt,Zt,Kt,Kt,Pe l,List.countP_cons];omega
theorem TY {rs:List Rte} {us:List Int} {N:Nat} (h: ∀i:Nat,i<N->rs.countP (fun r=>hasO r.visits (i:Int))+us.countP (fun u=>decide (u=(i:Int)))<=1): ∀n,n<=N->(rs.map fun r=>US r.visits n).sum+(us.map fun u=>(List.range n).countP fun i=>decide (u=((i:Nat):Int))).sum<=n
 | 0,_=>by
  have h1: ∀l:List Rte,(l.map fun r=>US r.visits 0).sum=0:=fun l=>by
   induction l with
   | nil=>rfl
   | cons a l ih=>grind [US]
  have h2: ∀l:List Int,(l.map fun u=>(List.range 0).countP fun i=>decide (u=((i:Nat):Int))).sum=0:=fun l=>by
   induction l with
   | nil=>rfl
   | cons a l ih=>grind
  grind
 | n+1,hn=>by
  have ih:=TY h n Za;have hh:=h n Za
  have e1:(fun r:Rte=>US r.visits (n+1))=fun r=>US r.visits n+(if hasO r.visits (n:Int)=true then 1 else 0):=funext fun r=>by
   simp_all [US,Yj]
  have e2:(fun u:Int=>(List.range (n+1)).countP fun i=>decide (u=((i:Nat):Int)))=fun u=>((List.range n).countP fun i=>decide (u=((i:Nat):Int)))+(if decide (u=(n:Int))=true then 1 else 0):=funext fun u=>by
   simp_all [Yj]
  grind [Pe]
theorem DO {α:Type} {f:α->Sco} {g:α->Nat} : ∀(l:List α) (s:Sco),(∀a∈l,(f a).cost<=22000000/\(f a).moved<=(g a:Int)/\(f a).other<=(g a:Int)/\(f a).work<=4096) ->
  (l.foldl (fun s a=>YQ s (f a)) s).cost<=s.cost+22000000*(l.length:Int)/\(l.foldl (fun s a=>YQ s (f a)) s).moved<=s.moved+((l.map g).sum:Nat)/\(l.foldl (fun s a=>YQ s (f a)) s).other<=s.other+((l.map g).sum:Nat)/\(l.foldl (fun s a=>YQ s (f a)) s).work<=s.work+4096*(l.length:Int)
 | [],s,_=>Zb
 | a::l,s,h=>by
  have h1:=h a Zb;have h2:=DO l (YQ s (f a)) fun b hb=>h b (Wj _ hb)
  grind [YQ]
theorem Hw {α:Type} {g:α->Nat} : ∀l:List α,(∀a∈l,1<=g a)->l.length<=(l.map g).sum
 | [],_=>Zb
 | a::l,h=>by
  have h1:=h a Zb;have h2:=Hw l fun b hb=>h b (Wj _ hb);rw [Zt,Kt,Zz];omega
theorem TU {x:Inst} {l:List Vis} (h:RightV x l):1<=US l x.orders.length:=by
 obtain ⟨v,hv⟩: ∃v,v∈l:=by
  cases l with
  | nil=>exact absurd rfl h.ne
  | cons v l=>simp
 have hi:=h.inr v hv;exact U1.2 ⟨v.order.toNat,ZS.2 Za,XE.2 ⟨v,hv,Za⟩⟩
theorem ET {x:Inst} (hx:InstOk x) (i:Int):WU (Yk x i).1/\(Yk x i).1.cost<=22000000/\(Yk x i).1.moved<=1/\(Yk x i).1.other<=1/\(Yk x i).1.work<=4096:=by
 unfold Yk
 split
 ·simp [WU,zSco]
 ·split
  ·simp [WU,zSco]
  ·split
   ·simp [WU,zSco]
   ·have ha:=(hx.orders.2 i.toNat Za).arg;simp only [argOk,rng,Zy,Zp] at ha
    grind [WU]
theorem HS {x:Inst} {p:Pln} (hx:InstOk x) (hn:x.orders.length<=4) (hk:chkP x p=0):(XV (LZ x p)).2=0/\p.routes.length+p.unserved.length<=4:=by
 obtain ⟨hev,hun⟩:=Vj hk;obtain ⟨k1,k2,k3,k4,k5⟩:=BX hk;have hc:=TY (rs:=p.routes) (us:=p.unserved) k2 x.orders.length (Zx _);have hR: ∀r∈p.routes,WU (X2 x r)/\(X2 x r).cost<=22000000/\(X2 x r).moved<=(US r.visits x.orders.length:Int)/\(X2 x r).other<=(US r.visits x.orders.length:Int)/\(X2 x r).work<=4096:=fun r hr=>DG hx (hev r hr)
 have hU1: ∀u∈p.unserved,1<=(List.range x.orders.length).countP fun i=>decide (u=((i:Nat):Int)):=fun u hu=>by
  have:=k1 u hu;exact U1.2 ⟨u.toNat,ZS.2 Za,by simp;omega⟩
 have l1:=Hw p.routes fun r hr=>TU (WM (hev r hr));have l2:=Hw p.unserved hU1;have f1:=DO (f:=fun r=>X2 x r) (g:=fun r=>US r.visits x.orders.length) p.routes zSco fun r hr=>(hR r hr).2
 have f2:=DO (f:=fun i=>(Yk x i).1) (g:=fun u=>(List.range x.orders.length).countP fun i=>decide (u=((i:Nat):Int))) p.unserved (U9 x p.routes) fun u hu=>by
  have h1:=(ET hx u).2;have h2:=hU1 u hu;omega
 have hpos: ∀ {α:Type} (f:α->Sco) (l:List α) (s:Sco),(∀a∈l,WU (f a))->WU s->WU (l.foldl (fun s a=>YQ s (f a)) s):=fun f l=>by
  induction l with
  | nil=>simp
  | cons r l ih=>simp_all [JR]
 have q1:WU (U9 x p.routes):=hpos (fun r=>X2 x r) p.routes zSco (fun r hr=>(hR r hr).1) (by simp [WU,zSco]);have q2:WU (HW x (U9 x p.routes) p.unserved):=hpos (fun i=>(Yk x i).1) p.unserved _ (fun u _=>(ET hx u).1) q1
 have hsc:LZ x p=HW x (U9 x p.routes) p.unserved:=by rw [LZ,if_pos hk]
 rw [hsc,J4 q2];have f1:(U9 x p.routes).cost<=zSco.cost+_/\(U9 x p.routes).moved<=zSco.moved+_/\(U9 x p.routes).other<=zSco.other+_/\(U9 x p.routes).work<=zSco.work+_:=f1;have f2:(HW x (U9 x p.routes) p.unserved).cost<=(U9 x p.routes).cost+_/\(HW x (U9 x p.routes) p.unserved).moved<=(U9 x p.routes).moved+_/\(HW x (U9 x p.routes) p.unserved).other<=(U9 x p.routes).other+_/\(HW x (U9 x p.routes) p.unserved).work<=(U9 x p.routes).work+_:=f2;simp only [zSco] at f1;omega
theorem R1 {x:Inst} {p:Pln} (hx:InstOk x) (hn:x.orders.length<=4) (hk:chkP x p=0):(∀r∈p.routes,prcF x r=XV (X2 x r)/\(prcF x r).2=0)/\(XV (LZ x p)).1=(p.routes.map fun r=>(prcF x r).1).sum+(p.unserved.map fun u=>skR x u.toNat).sum:=by
 have hw:=(HS hx hn hk).1;have hpos: ∀r∈p.routes,WU (X2 x r):=fun r hr=>(DG hx ((Vj hk).1 r hr)).1;obtain ⟨hev,hun⟩:=Vj hk;obtain ⟨k1,k2,k3,k4,k5⟩:=BX hk
 have hsc:LZ x p=HW x (U9 x p.routes) p.unserved:=by rw [LZ,if_pos hk]
 rw [hsc] at hw ⊢
 have hsR:WU (U9 x p.routes):=by
  have: ∀(l:List Rte) (s:Sco),(∀r∈l,WU (X2 x r))->WU s->WU (l.foldl (fun s r=>YQ s (X2 x r)) s):=fun l=>by
   induction l with
   | nil=>simp
   | cons r l ih=>simp_all [JR]
  exact this _ _ hpos (by simp [WU,zSco])
 obtain ⟨w1,w2,w3⟩:=EY (f:=fun i=>(Yk x i).1) p.unserved (U9 x p.routes) (fun u _=>(ET hx u).1) hsR hw;obtain ⟨_,v2,v3⟩:=EY (f:=fun r=>X2 x r) p.routes zSco hpos (by simp [WU,zSco]) w1
 have hpr: ∀r∈p.routes,prcF x r=XV (X2 x r):=fun r hr=>by simp_all [prcF]
 refine ⟨fun r hr=>⟨hpr r hr,by grind⟩,?_⟩
 have s1:(p.routes.map fun r=>(prcF x r).1)=p.routes.map fun r=>(XV (X2 x r)).1:=YN fun r hr=>by rw [hpr r hr]
 have s2:(p.unserved.map fun u=>skR x u.toNat)=p.unserved.map fun u=>(XV (Yk x u).1).1:=YN fun u hu=>by
  rw [skR,show ((u.toNat:Nat):Int)=u by have:=k1 u hu;omega]
 have z0:(XV zSco).1=0:=by decide
 grind [HW,U9]
theorem P2 {L L' ys ys':List Col} (h:Cheap L ys) (h':Cheap L' ys') (hm: ∀c,c∈L↔c∈L') (hu: ∀c∈L,∀d∈L,kd c=kd d->c=d):ys=ys':=by
 have e:=TI h h' hm
 have hl:ys.length=ys'.length:=by simpa using ZV List.length e
 refine Ky hl fun j hj=> ?_
 have e2:kp (nth ys j)=kp (nth ys' j):=by
  have:=ZV (fun l=>l[j]?) e;simp only [Xq] at this;rw [WG hj,WG (show j<ys'.length by omega),<- Zh hj,<- Zh (show j<ys'.length by omega)] at this;simpa using this
 exact hu _ (Qc h (Zo hj)) _ ((hm _).2 (Qc h' (Zo Za))) (by
  obtain ⟨h1,h2,_⟩:=qL.1 e2
  simp [kd,h1,h2])
theorem jR {x:Inst} {L L':List Col} {p q:Pln} {c c' e':Int} (hx:InstOk x) (hn:x.orders.length<=4) (hs: ∀c∈L,c.set<9223372036854775808) (hm: ∀c,c∈L↔c∈L') (hu: ∀c∈L,∀d∈L,kd c=kd d->c=d) (hl:L'.length<=8192)
  (h:Mp x L p c 0) (h':Mp x L' q c' e'):e'=0/\q=p:=by
 rcases h with ⟨_,_,_,g⟩ | ⟨_,_,_,_,g⟩ | ⟨_,hr,ys,g3,_,g5⟩
 ·cases g
 ·cases g
 ·rcases h' with ⟨k,_⟩ | ⟨_,⟨d,hd,k⟩,_⟩ | ⟨_,_,ys',k3,_,k5⟩
  ·omega
  ·rw [hr d ((hm d).2 hd)] at k;cases k
  ·obtain rfl:=P2 g3 k3 hm hu;rcases g5 with ⟨_,_,_,g⟩ | ⟨g6,rfl,_,zs,hp,ha,rfl⟩
   ·cases g
   ·rcases k5 with ⟨k6,_⟩ | ⟨_,_,rfl,zs',hp',ha',rfl⟩
    ·omega
    ·refine ⟨rfl,?_⟩;obtain ⟨D,hD⟩: ∃D:Nat,D=20:=⟨20,rfl⟩;have hc:=T0 hx hn g3 hr hs;have hpk:=Bp hc hD x.orders.length 0 zSt _ 20 Za Za (OU x L);simp only [mI] at hpk
     have strict: ∀ {zs:List Col},zs.Perm (X6 x.orders.length ((Ye x x.orders.length:Nat):Int) x (fstF x.orders.length ys) (skF x x.orders.length) 20 (WH x.orders.length ((Ye x x.orders.length:Nat):Int) zSt)).1->zs.Pairwise (fun a b=> ¬tI b a<0)->zs.Pairwise fun a b=>tI a b<0:=fun {zs} hp ha=>by
      rw [hpk] at hp
      have hne:zs.Pairwise fun a b=>lo a≠lo b:=by
       have h1:=(Mq (l:=L) (g:=gr x L ys D x.orders.length 0 zSt (List.replicate x.orders.length (-1))) x.orders.length 0).imp (S:=fun a b=>lo a≠lo b) fun {a b} h e=>by
        have e':KH a.set.toNat=KH b.set.toNat:=e;omega
       exact (hp.pairwise_iff fun h e=>h e.symm).2 h1
      exact (hne.and ha).imp fun {a b} h=>by
       have h1:=h.1;have h2:=h.2;rw [K5] at h2 ⊢;omega
     have:zs'=zs:=Al (r:=fun a b=>tI a b<0) (fun a=>by rw [K5];omega) (fun a b=>by rw [K5,K5];omega) (strict hp' ha') (strict hp ha) fun c=>by rw [hp'.mem_iff,hp.mem_iff]
     rw [this]
def JN (r:Rte):Pln:=⟨false,[r],true,[]⟩
theorem Fu (a b:Rte) (ha:Q7 a) (hb:Q7 b):PC 77 [.p (Z0 a),.p (Z0 b)] (.bool (YW a b)):=by
 have cs:=LY (JN a) (JN b) ⟨by simp [JN],by simp [JN],fun r h=>by simp [JN] at h;rw [h];exact ha⟩ ⟨by simp [JN],by simp [JN],fun r h=>by simp [JN] at h;rw [h];exact hb⟩
 have e:CI (JN a) (JN b)=YW a b:=by simp [CI,JN,nth,Yj]
 rw [e] at cs;refine QB [] Tryz.func77 rfl Zf7 ?_;simp (disch:=omega) only [Tryz.f77,go_sem,seval];refine ACalls.weakA (Weak.fzD 2 (by rfl)) ?_;refine ACalls.weakA (Weak.fzD 3 (by rfl)) ?_;simp (disch:=omega) only [AM.fzD,AM.fzDs,Jn,Zt,Zm,Xp,Z7,go_sem,seval];refine (cs).use ?_;simp (disch:=omega) only [go_sem,seval]
def Iq (a b:List Rte):Bool:=(a.all fun r=>b.any (YW r))&&decide (a.length=b.length)
theorem iC (a b:List Rte) (c d:Bool) (hl:a.length<=1048576) (hm:b.length<=1048576) (ha: ∀r∈a,Q7 r) (hb: ∀r∈b,Q7 r) :
  PC 33 [.p (.list c (a.map Z0)),.p (.list d (b.map Z0))] (.bool (Iq a b)):=by
 have hbad: ∀i,i<a.length->b.any (YW (nth a i))=false->Iq a b=false:=fun i hi h=>by
  have:a.all (fun r=>b.any (YW r))=false:=List.all_eq_false.2 ⟨_,Zo hi,by simp [h]⟩;rw [Iq,this];rfl
 have hgood:(∀i,i<a.length->b.any (YW (nth a i))=true)->Iq a b=decide (a.length=b.length):=fun h=>by
  have:a.all (fun r=>b.any (YW r))=true:=Zu.2 fun r hr=>by
   obtain ⟨j,hj,rfl⟩:=ZW.1 hr;have:=h j hj;rwa [Zh hj] at this
  rw [Iq,this,Wl]
 refine Zd Tryz.func33 rfl ZfO ?_;simp (disch:=omega) only [Tryz.f33,go_sem,seval];refine Zl [0,1] (fun i:Nat=> [(5,.p (.int .i64 i))]) (fun _=> []) (fun i=>i<=a.length/\ ∀j,j<i->b.any (YW (nth a j))=true) (fun i=>a.length-i) 0 ⟨Za,fun j hj=>Za⟩ (Weak.mk ?_) ?_
 ·simp (disch:=omega) only [go_sem,seval]
 ·rintro i ⟨hi,hno⟩;simp (disch:=omega) only [go_sem,seval];refine cD ?_ ?_<;>intro h1<;>simp (disch:=omega) only [Sh.out h1,go_sem,seval]
  ·have hi2:i<a.length:=Za
   have ra:=ha _ (Zo hi2);refine Zl [0,1,5] (fun k:Nat=> [(6,.p (.bool ((b.take k).any (YW (nth a i))))),(7,.p (.int .i64 k))]) (fun _=> []) (fun k=>k<=b.length) (fun k=>b.length-k) 0 Zb (Weak.mk ?_) ?_
   ·simp (disch:=omega) only [Y6,List.any_nil,go_sem,seval]
   ·intro k hk;simp (disch:=omega) only [go_sem,seval];refine cD ?_ ?_<;>intro h2<;>simp (disch:=omega) only [Sh.out h2,go_sem,seval]
    ·have hk2:k<b.length:=Za
     have ht:(b.take (k+1)).any (YW (nth a i))=((b.take k).any (YW (nth a i))||YW (nth a i) (nth b k)):=by
      rw [Xw hk2,List.any_append,Zh hk2];simp
     cases hq:(b.take k).any (YW (nth a i)) with
     | true =>
      rw [hq,Bool.true_or] at ht;refine Z5 12 mixed Ze Ze ?_;simp (disch:=omega) only [go_sem,seval];exact ⟨k+1,Za,Za,Weak.mk (by simp (disch:=omega) only [ht,go_sem,seval])⟩
     | false =>
      rw [hq,Bool.false_or] at ht;refine Z5 12 mixed Ze Ze ?_;simp (disch:=omega) only [go_sem,seval];refine Zq (Fu (nth a i) (nth b k) ra (hb _ (Zo hk2))) ?_;simp (disch:=omega) only [go_sem,seval];exact ⟨k+1,Za,Za,Weak.mk (by simp (disch:=omega) only [ht,go_sem,seval])⟩
    ·have hkl:k=b.length:=Za
     subst hkl;rw [XZ]
     cases hq:b.any (YW (nth a i)) with
     | false =>
      simp (disch:=omega) only [Q3,go_sem,seval];rw [hbad i hi2 hq]
     | true =>
      simp (disch:=omega) only [VY,go_sem,seval];exact ⟨i+1,⟨Za,Zn.2 ⟨hno,hq⟩⟩,Za,wk⟩
  ·have hil:i=a.length:=Za
   subst hil;rw [hgood hno,show decide (a.length=b.length)=decide ((a.length:Int)=b.length) from decide_eq_decide.2 Za]
theorem cW {F:Nat->Prop} {H:List AM.Obj} {ι:List (Option Nat)} {w:World} {v:Value} (h:RV F H ι w (.p (.list true [])) v): ∃ad,v= .slice ad 0 0:=by
 cases h with | p _ _ h =>
 cases h with
 | nils=>simp
 | emp _ ad cap hc hm ha=>simp_all
 | list _ _ b off cap S' u hX hb hc hm hcl =>
  simp_all
theorem fW {vs:Array Value} {a b:Value} (h1:vs.size=2) (e0:vs.getD 0 undef=a) (e1:vs.getD 1 undef=b):vs= #[a,b]:=by
 apply Array.ext
 ·omega
 ·intro i h3 h4
  have:i=0\/i=1:=Za
  rcases this with rfl | rfl
  ·simp_all
  simp_all
theorem kX (n:Nat) (h0:0<n) (hn:n<=1048576):ACalls Tryz.prog 146 [.p (.list true []),.p (.int .i64 (n:Int))] [] fun y H'=>y= .sl 0 0 0 0/\H'= [.elems 4 []]:=by
 obtain ⟨i0,hi0⟩: ∃i0,Tryz.prog.info? 49=some i0:=A4.1 Ze
 have hsz:i0.size=4:=by
  have:(Tryz.prog.info? 49).map (·.size)=some 4:=Ze
  grind
 have hby:i0.bytes=64:=by
  have:(Tryz.prog.info? 49).map (·.bytes)=some 64:=Ze
  grind
 obtain ⟨z,hz⟩: ∃z,i0.zero=some z:=by
  have:((Tryz.prog.info? 49).bind (·.zero)).isSome=true:=Ze
  grind [A4]
 refine ⟨bJ,fun F ι w vs hr hv=> ?_⟩;obtain ⟨h1,h2⟩:=hv;obtain ⟨ad,e0⟩: ∃ad,vs.getD 0 undef= .slice ad 0 0:=cW (h2 0 _ rfl)
 have e1:vs.getD 1 undef= .int .i64 n:=by
  have h:=h2 1 _ rfl
  cases h with | p _ _ h=>exact h.int_inv
 rw [fW h1 e0 e1]
 have hzc:z.cells.size=4:=by
  have:((Tryz.prog.info? 49).bind (·.zero)).map (·.cells.size)=some 4:=Ze
  grind
 have hG:=Any8.slices_Grow_grow GD i0 z hi0 hz Za ad 0 0 n [] w (Zx _) Za (by grind) Za Zb (fun _=>rfl) (fun a _ j v hj=>by simp at hj);have hι:ι= []:=Yb hr.len;subst hι;have c1:=grownCap_ge w (0+n) 0 (sortGrowR_ren.t 25);have c2:=grownCap_le_maxLen w (0+n) 0 (sortGrowR_ren.t 25) (by unfold maxLen;omega);refine hG.mono ?_;rintro e w' ⟨rfl,rfl⟩;generalize grownCap w (0+n) 0 (sortGrowR_ren.t 25)=C at c1 c2 ⊢;obtain ⟨arr,harr⟩: ∃arr,arr=([]:List Value).toArray++Builtin.zeroCells z.cells (0+n-0)++Builtin.zeroCells z.cells (C-(0+n)):=⟨_,rfl⟩
 rw [<- harr]
 have hs:arr.size=C*4:=by
  grind [size_zeroCells]
 have g:=WN hr (Pushed.drewAlloc w arr (sortGrowR_ren.t 25)) (.elems 4 []) ⟨C,hs,Zb,c2,fun i q hi=>by simp at hi,fun i q j c hi hj=>by simp at hi⟩;refine ⟨_,_,_,_,rfl,⟨rfl,rfl⟩,g,?_⟩;have:=RV.sl (F:=F) (w:=w.drew.alloc (.cells arr (sortGrowR_ren.t 25))) (H:= [.elems 4 []]) (ι:= [some w.heap.size]) 0 0 0 0 w.heap.size 4 C (sortGrowR_ren.t 25) [] arr Zb Zb Zb (Pushed.new (Pushed.drewAlloc w arr (sortGrowR_ren.t 25))) Za Za Za Za
 grind
theorem growR0_c : PC 146 [.p (.list true []),.p (.int .i64 0)] (.list true []):=by
 refine ⟨bJ,fun F ι w vs hr hv=> ?_⟩;obtain ⟨h1,h2⟩:=hv;have r0:=h2 0 _ rfl;obtain ⟨ad,e0⟩: ∃ad,vs.getD 0 undef= .slice ad 0 0:=cW r0
 have e1:vs.getD 1 undef= .int .i64 0:=by
  have h:=h2 1 _ rfl
  cases h with | p _ _ h=>exact h.int_inv
 rw [fW h1 e0 e1];refine (Any8.slices_Grow_room GD ad 0 0 0 w (Zx _) Za Za Za).mono ?_;rintro e w' ⟨rfl,rfl⟩;exact ⟨_,_,ι,_,rfl,⟨rfl,rfl⟩,Good.refl hr,by grind⟩
def Ju (l1 l2:List Rte) (q:Nat):List Rte:=(if 0<q then l1 else [])++if 1<q then l2 else []
theorem TZ (l1 l2:List Rte) (c0 c1 c2:Bool) (h1:l1.length<=500000) (h2:l2.length<=500000) :
  PC 97 [.p (.list c0 [.list c1 (l1.map Z0),.list c2 (l2.map Z0)])] (.list false ((l1++l2).map Z0)):=by
 have k0:Ju l1 l2 0= []:=rfl
 have k2:Ju l1 l2 2=l1++l2:=by simp [Ju]
 obtain ⟨lF,cF,hlF⟩: ∃(lF:Nat->List Rte) (cF:Nat->Bool),∀k,k<2->(UT [PV.list c1 (l1.map Z0),PV.list c2 (l2.map Z0)] k=PV.list (cF k) ((lF k).map Z0)/\Ju l1 l2 (k+1)=Ju l1 l2 k++lF k/\(lF k).length<=500000) :=
  ⟨fun k=>if k=0 then l1 else l2,fun k=>if k=0 then c1 else c2,fun k hk=>by
   obtain rfl | rfl:k=0\/k=1:=Za
   ·exact ⟨rfl,by simp [Ju],h1⟩
   ·exact ⟨rfl,by simp [Ju],h2⟩⟩
 have hcl: ∀k,(Ju l1 l2 k).length<=1000000:=fun k=>by
  grind [Ju]
 have hLl: [PV.list c1 (l1.map Z0),PV.list c2 (l2.map Z0)].length=2:=rfl;generalize [PV.list c1 (l1.map Z0),PV.list c2 (l2.map Z0)]=L at hlF hLl ⊢;refine Zg [9] Tryz.func97 rfl Zgj ?_;simp (disch:=omega) only [Tryz.f97,hLl,go_sem,seval];refine ZT [9] [0,9,10] (fun k:Nat=> [(3,.p (.int .i64 ((Ju l1 l2 k).length:Nat))),(11,.p (.int .i64 k))]) (fun _=> []) (fun k=>k<=2) (fun k=>2-k) 0 Zb (Weak.mk ?_) ?_
 ·simp (disch:=omega) only [k0,ZA,go_sem,seval,↓reduceIte]
 ·intro k hk;refine Zc ?_;refine cD ?_ ?_<;>intro h<;>simp (disch:=omega) only [Sh.out h,go_sem,seval,↓reduceIte]
  ·have hk2:k<2:=Za
   obtain ⟨e1,e2,e3⟩:=hlF k hk2
   have e4:((Ju l1 l2 (k+1)).length:Int)=((Ju l1 l2 k).length:Int)+((lF k).length:Int):=by grind
   have e5:=hcl k
   have e6:(UT L k).cells= [.list (cF k) ((lF k).map Z0)]:=by rw [e1];rfl
   simp (disch:=omega) only [QF,XP,e6,eq_self,Zz,ZA,XG,List.take,Zt,Zm,go_sem,seval];refine cD ?_ ?_<;>intro g<;>simp (disch:=omega) only [Sh.out g,go_sem,seval,↓reduceIte]
   ·omega
   ·exact ⟨k+1,Za,Za,Weak.mk (by simp (disch:=omega) only [e4,go_sem,seval])⟩
  ·have hk2:k=2:=Za
   subst hk2;rw [k2];refine ZC [0] (fun _:Unit=> [(6,.sl 0 0 0 0)]) (fun _=> [.elems 4 []]) (fun _=>True) ?_ ?_
   ·refine Zc ?_
    by_cases hz:l1.length+l2.length=0
    ·rw [show ((l1.length+l2.length:Nat):Int)=0 by omega];refine growR0_c.use ?_;refine Zc ?_;exact ⟨(),Weak.ofNil 6 4 (by simp (disch:=omega) only [go_sem,seval]) Zb (wk)⟩
    ·refine (kX (l1.length+l2.length) Za Za).useF (Zc ?_);exact ⟨(),wk⟩
   ·intro _ _;refine Zf [15] _ _ _ _ (Zc ?_);refine ZT [15] [25,26] (fun k:Nat=> [(6,.sl 0 0 (Ju l1 l2 k).length (Ju l1 l2 k).length),(27,.p (.int .i64 k))]) (fun k=> [.elems 4 ((Ju l1 l2 k).map Z0)]) (fun k=>k<=2) (fun k=>2-k) 0 Zb (Weak.mk ?_) ?_
    ·simp (disch:=omega) only [k0,ZA,Zm,go_sem,seval]
    ·intro k hk;have e5:=hcl k;refine Zc ?_;refine cD ?_ ?_<;>intro h<;>simp (disch:=omega) only [Sh.out h,go_sem,seval,↓reduceIte]
     ·have hk2:k<2:=Za
      obtain ⟨e1,e2,e3⟩:=hlF k hk2
      have e6:(UT L k).cells= [.list (cF k) ((lF k).map Z0)]:=by rw [e1];rfl
      have e4:(Ju l1 l2 (k+1)).length=(Ju l1 l2 k).length+(lF k).length:=by grind
      simp (disch:=omega) only [QF,XP,e6,eq_self,Zz,ZA,XG,List.take,Zt,Zm,go_sem,seval];exact ⟨k+1,Za,Za,Weak.mk (by simp (disch:=omega) only [e2,Xx,go_sem,seval])⟩
     ·have hk2:k=2:=Za
      subst hk2;rw [k2];refine Zr (Weak.fz (o:=0) (by rfl)) ?_;refine Zf [] _ _ _ _ ?_;simp (disch:=omega) only [Zt,Zm,Z7,eq_self,go_sem,seval];exact we
theorem Ke {x:Inst} {b:Rte} {need wout:Nat} :(Je x b need wout).length<=2^x.orders.length-1:=Ew I5 _
theorem jG {l:List Rte} (h: ∀r∈l,∀v∈r.visits,0<=v.order/\v.order<62):Z1 l<4611686018427387904:=HG fun v hv=>by
 grind
theorem Dd {x:Inst} {bs:List Rte} : ∀k,(Ib x bs k).length<=k*(2^x.orders.length-1)
 | 0=>by simp [Ib]
 | k+1=>by
  have h1:=Dd (x:=x) (bs:=bs) k;have h2:=Ke (x:=x) (b:=nth bs k) (need:=Z1 [nth bs k]) (wout:=Z1 (bs.take k++bs.drop (k+1)));rw [Ib,ZI,XS];omega
theorem HI {x:Inst} {bs:List Rte} {now:Int} : ∀k,(Nq x bs now k).length<=(bs.length+k)*(2^x.orders.length-1)
 | 0=>Dd bs.length
 | k+1=>by
  have h1:=HI (x:=x) (bs:=bs) (now:=now) k;have h2:=Ke (x:=x) (b:=Ad (k:Int) now) (need:=0) (wout:=Z1 bs);rw [Nq,ZI,<- Ku,XS (bs.length+k)];omega
structure BsOk (x:Inst) (bs:List Rte):Prop where
 len:bs.length<=8
 typ: ∀r∈bs,0<=r.typ/\r.typ<(x.types.length:Int)
 bnd: ∀r∈bs,r.visits.length<=1000000/\r.rests.length<=1000000
 ord: ∀r∈bs,∀v∈r.visits,0<=v.order/\v.order<62
theorem tV {l:List Rte} {k:Nat} (h:k<l.length):(l.take (k+1)).drop k= [nth l k]:=by
 grind [Ug,Zh]
theorem Td (x:Inst) (hx:InstOk x) (bs:List Rte) (c:Bool) (now:Int) (hb:BsOk x bs) (hn:0<=now/\now<=4096) (hbl:x.before.length<=1048576) :
  PT 63 [.p (ZF x),.p (.list c (bs.map Z0)),.p (.int .i64 now)] [.p (.list false ((HH x bs now).map X5)),.p (.int .i64 0)]:=by
 have ho:=Bj hx;have ht:=NQ hx;have hl8:=hb.len;have hp2:2^x.orders.length<=2^10:=Wk Za ho;have hbg: ∀l:List Rte,(∀r∈l,r∈bs)->Z1 l<4611686018427387904:=fun l h=>jG fun r hr=>hb.ord r (h r hr)
 have hbc: ∀(l:List Rte) (c:Bool),(∀r∈l,r∈bs)->l.length<=8->PC 96 [.p (.list c (l.map Z0))] (.int .i64 (Z1 l:Nat)):=fun l c h hl =>
  MJ l c Za fun r hr=>⟨by have:=(hb.bnd r (h r hr)).1;omega,hb.ord r (h r hr)⟩
 refine Zg [10] Tryz.func63 rfl Zf3 ?_;simp (disch:=omega) only [Tryz.f63,go_sem,seval];refine gF ?_ ?_<;>intro h1<;>simp (disch:=omega) only [Sh.out h1,go_sem,seval,↓reduceIte]
 ·omega
 ·refine cD ?_ ?_<;>intro h2<;>simp (disch:=omega) only [Sh.out h2,go_sem,seval]
  ·omega
  ·refine ZT [10] [1,2,3,22,23] (fun k:Nat=> [(24,.p (.int .i64 k))]) (fun _=> [Zj x]) (fun k=>k<=bs.length) (fun k=>bs.length-k) 0 Zb (Weak.mk ?_) ?_
   ·simp (disch:=omega) only [Zj,go_sem,seval]
   ·intro k hk;refine Ve ?_;refine cD ?_ ?_<;>intro h<;>simp (disch:=omega) only [Sh.out h,go_sem,seval,↓reduceIte]
    ·have hk2:k<bs.length:=Za
     have hty:=hb.typ _ (Zo hk2);refine gF ?_ ?_<;>intro h3<;>simp (disch:=omega) only [Sh.out h3,go_sem,seval,↓reduceIte]
     ·omega
     ·refine ZD ?_ ?_<;>intro h4
      ·omega
      ·exact ⟨k+1,Za,Za,wk⟩
    ·refine Zr (Weak.ofNil 10 7 (by simp (disch:=omega) only [go_sem,seval]) Zb (Weak.refl _ _ _)) ?_;refine Zf [13,14,16,22] _ _ _ _ (Zc ?_);refine ZT [14,16] [1,2,3,40,41] (fun k:Nat=> [(10,.sl 1 0 (Ib x bs k).length (Ib x bs k).length),(42,.p (.int .i64 k))]) (fun k=> [Zj x,.elems 7 ((Ib x bs k).map X5)]) (fun k=>k<=bs.length) (fun k=>bs.length-k) 0 Zb (Weak.mk ?_) ?_
     ·simp (disch:=omega) only [Zj,Ib,ZA,Zm,go_sem,seval]
     ·intro k hk;have hal:=Dd (x:=x) (bs:=bs) k;have hkN:k*(2^x.orders.length-1)<=8*1024:=Nat.mul_le_mul Za Za;refine Ve ?_;refine cD ?_ ?_<;>intro g1<;>simp (disch:=omega) only [Sh.out g1,go_sem,seval,↓reduceIte]
      ·have hk2:k<bs.length:=Za
       have hty:=hb.typ _ (Zo hk2);obtain ⟨b1,b2⟩:=hb.bnd _ (Zo hk2)
       have hin1: ∀r∈bs.take k++bs.drop (k+1),r∈bs:=fun r hr=>by
        grind
       have hin2: ∀r∈ [nth bs k],r∈bs:=fun r hr=>by
        grind [Zo]
       have hbl1:(bs.take k++bs.drop (k+1)).length<=8:=by simp;omega
       have hsA:Ib x bs (k+1)=Ib x bs k++Je x (nth bs k) (Z1 [nth bs k]) (Z1 (bs.take k++bs.drop (k+1))):=rfl;have hcl:=Ke (x:=x) (b:=nth bs k) (need:=Z1 [nth bs k]) (wout:=Z1 (bs.take k++bs.drop (k+1)));have ca:=N1 x hx (nth bs k) (Z1 [nth bs k]) (Z1 (bs.take k++bs.drop (k+1))) hty b1 b2 hbl (by grind) (by grind);have hd1:=tV hk2;have c1:=fun f=>hbc [nth bs k] f hin2 Zb;have c2:=hbc (bs.take k++bs.drop (k+1)) false hin1 hbl1;rw [Xx] at c2;generalize Z1 [nth bs k]=need at hsA hcl ca c1;generalize Z1 (bs.take k++bs.drop (k+1))=wout at hsA hcl ca c2
       refine Z5 7 mixed Ze Ze (Zc ?_);refine ACalls.weakA (Weak.fz (o:=3) (by rfl)) ?_;simp (disch:=omega) only [Zt,Zm,Xp,Z7,eq_self,XZ,go_sem,seval];refine (TZ (bs.take k) (bs.drop (k+1)) _ _ _ (by simp;omega) (by simp;omega)).use (Zc ?_);refine (c2).use (Zc ?_);refine Z5 11 mixed Ze Ze (Zc ?_);rw [hd1];refine Zq (c1 _) (Zc ?_);refine Zq (ca) (Zc ?_);exact ⟨k+1,Za,Za,Weak.mk (by simp (disch:=omega) only [hsA,Xx,ZI,go_sem,seval])⟩
      ·have hkl:k=bs.length:=Za
       subst hkl;refine Zf [22] _ _ _ _ (Zc ?_);refine (hbc bs c (fun r h=>h) hl8).use (Zc ?_);have hal:=Dd (x:=x) (bs:=bs) bs.length;have hw:=hbg bs fun r h=>h;generalize hwS:Z1 bs=S at hw ⊢;refine ZT [22] [2,3,14,74] (fun q:Nat=> [(10,.sl 1 0 (Nq x bs now q).length (Nq x bs now q).length),(75,.p (.int .i64 q))]) (fun q=> [Zj x,.elems 7 ((Nq x bs now q).map X5)]) (fun q=>q<=x.types.length) (fun q=>x.types.length-q) 0 Zb (Weak.mk ?_) ?_
       ·simp (disch:=omega) only [Zj,Nq,go_sem,seval]
       ·intro q hq;have htl:=HI (x:=x) (bs:=bs) (now:=now) q;have hqN:(bs.length+q)*(2^x.orders.length-1)<=14*1024:=Nat.mul_le_mul Za Za;refine Ve ?_;refine cD ?_ ?_<;>intro g2<;>simp (disch:=omega) only [Sh.out g2,go_sem,seval,↓reduceIte]
        ·have hq2:q<x.types.length:=Za
         have hsT:Nq x bs now (q+1)=Nq x bs now q++Je x (Ad (q:Int) now) 0 S:=by rw [<- hwS];rfl
         have hcl:=Ke (x:=x) (b:=Ad (q:Int) now) (need:=0) (wout:=S);have ca:=N1 x hx (Ad (q:Int) now) 0 S ⟨by grind [Ad],by grind [Ad]⟩ (by simp [Ad]) (by simp [Ad]) hbl Za Za;refine (ca).use ?_;refine Zc ?_;exact ⟨q+1,Za,Za,Weak.mk (by simp (disch:=omega) only [hsT,Xx,ZI,go_sem,seval])⟩
        ·have hql:q=x.types.length:=Za
         subst hql;refine Zr (Weak.fz (o:=1) (by rfl)) ?_;refine Zf [] _ _ _ _ ?_;simp (disch:=omega) only [Zt,Zm,Xp,Z7,eq_self,go_sem,seval];exact ⟨.tup [.p (.list false ((HH x bs now).map X5)),.p (.int .i64 0)],[],Weak.mk (by simp (disch:=omega) only [HH,go_sem,seval]),rfl,rfl⟩
theorem GM {x:Inst} {b:Rte} {S:Nat} (h:(Ar x b S).2=true): ∃m,(m=b.visits\/m∈E6 (Gk x S) (EQ x S) b.visits)/\CD x b S m=true/\(Ar x b S).1=VW x b S m:=by
 unfold Ar TD at h ⊢;rcases GH _ _ h with ⟨h1,_⟩ | ⟨m,h1,h2,h3⟩
 ·cases h1
 grind
theorem FP {x:Inst} {b:Rte} {need wout:Nat} {c:Col} (h:c∈Je x b need wout): ∃S m,0<S/\S<2^x.orders.length/\Aa need wout S=true/\(m=b.visits\/m∈E6 (Gk x S) (EQ x S) b.visits)/\CD x b S m=true/\c=VW x b S m:=by
 have hp1:1<=2^x.orders.length:=Nat.one_le_two_pow;obtain ⟨S,h1,h2,h3⟩:=(Ex _).1 h
 grind [DL,Bi,GM]
theorem O3 {x:Inst} {bs:List Rte} {c:Col} : ∀k,k<=bs.length->c∈Ib x bs k-> ∃b need wout,b∈bs/\c∈Je x b need wout
 | 0,_,h=>by simp [Ib] at h
 | k+1,hk,h=>by
  rw [Ib,Xr] at h;rcases h with h | h
  ·exact O3 k Za h
  ·exact ⟨_,_,_,Zo Za,h⟩
theorem HJ {x:Inst} {bs:List Rte} {now:Int} {c:Col} : ∀k,c∈Nq x bs now k-> ∃b need wout,(b∈bs\/ ∃j:Nat,j<k/\b=Ad (j:Int) now)/\c∈Je x b need wout
 | 0,h=>by
  obtain ⟨b,n,w,h1,h2⟩:=O3 _ (Zx _) h
  grind
 | k+1,h=>by
  rw [Nq,Xr] at h;rcases h with h | h
  ·obtain ⟨b,n,w,h1,h2⟩:=HJ k h;exact ⟨b,n,w,h1.imp id fun ⟨j,hj,e⟩=>⟨j,Za,e⟩,h2⟩
  grind
theorem Np {x:Inst} {bs:List Rte} {now:Int} (hn:x.orders.length<=4) (h6:x.types.length<=6) (hb:bs.length<=8):(HH x bs now).length<=1000/\ ∀c∈HH x bs now,c.set<9223372036854775808:=by
 have hp2:2^x.orders.length<=2^4:=Wk Za hn;refine ⟨?_,fun c hc=> ?_⟩
 ·have h1:=HI (x:=x) (bs:=bs) (now:=now) x.types.length;have h2:(bs.length+x.types.length)*(2^x.orders.length-1)<=14*16:=Nat.mul_le_mul Za Za;unfold HH;omega
 ·obtain ⟨b,_,_,_,h⟩:=HJ _ hc;obtain ⟨S,m,_,h3,_,_,_,rfl⟩:=FP h
  show ((S:Nat):Int)<_
  omega
def rF (R:Pln->Int->Int->Prop) (k:Int) (q:Pln) (n e:Int):Prop:=(k=0->R q n e)/\(k≠0->q=⟨true,[],true,[]⟩/\n=0/\e=k)
theorem Gv (x:Inst) (p:Pln) (l:List Rte) (c:Bool) (now:Int) (hx:InstOk x) (ho:x.orders.length<=4) (hbl:x.before.length<=1048576) (hr:p.routes.length<=1048576) (hv: ∀r∈p.routes,r.visits.length<=1048576)
  (hb: ∀r∈l,ordR r.visits=(((ordS r.visits:Nat):Int),0)) (hbs:BsOk x l) (hn:0<=now/\now<=4096) :
  ACalls Tryz.prog 25 [.p (ZF x),.p (Vk p),.p (.list c (l.map Z0)),.p (.int .i64 now)] [] fun y H'=> ∃q n e,rF (Mp (Jd x p (Z1 l)) (HH (Jd x p (Z1 l)) l now)) (YI x p) q n e/\y= .tup [.p (Vk q),.p (.int .i64 n),.p (.int .i64 e)]/\H'= []:=by
 have h6:=NQ hx;have hl8:=hbs.len;have cb:=PM x p l c ho Za hr hv Za fun r h=>⟨by have:=(hbs.bnd r h).1;omega,hb r h,hbs.ord r h⟩;have hol:(Jd x p (Z1 l)).orders.length=x.orders.length:=Wx;unfold pU at cb;refine Zg [] Tryz.func25 rfl ZfL ?_;simp (disch:=omega) only [Tryz.f25,go_sem,seval];refine (ZaX now).use ?_;refine Zc ?_;simp (disch:=omega) only [hn,Vp,go_sem,seval]
 by_cases h0:YI x p=0
 ·rw [if_pos h0,h0] at cb;have hx2:=Tq (S:=Z1 l) hx h0;have hb2:BsOk (Jd x p (Z1 l)) l:=⟨hbs.len,hbs.typ,hbs.bnd,hbs.ord⟩;obtain ⟨o1,o2⟩:=Np (x:=Jd x p (Z1 l)) (bs:=l) (now:=now) Za h6 hl8;have ca:=Td (Jd x p (Z1 l)) hx2 l c now hb2 hn hbl;have cc:=RY (Jd x p (Z1 l)) (HH (Jd x p (Z1 l)) l now) false hx2 Za (show x.types.length<=1048576 by omega) o2 Za;generalize Jd x p (Z1 l)=y at cb ca cc ⊢;generalize HH y l now=L at ca cc ⊢;refine WV cb (Zc ?_);refine WV ca (Zc ?_);refine H6 cc fun q n e hR=> ?_
  refine Zc ?_;exact ⟨.tup [.p (Vk q),.p (.int .i64 n),.p (.int .i64 e)],[],wk,q,n,e,⟨fun _=>hR,fun h=>absurd h0 h⟩,rfl,rfl⟩
 ·rw [if_neg h0] at cb;refine WV cb (Zc ?_);refine cD ?_ ?_<;>intro h2<;>simp (disch:=omega) only [Sh.out h2,go_sem,seval,↓reduceIte]
  ·exact ⟨.tup [.p (Vk ⟨true,[],true,[]⟩),.p (.int .i64 0),.p (.int .i64 (YI x p))],[],wk,⟨true,[],true,[]⟩,0,YI x p,⟨fun h=>absurd h h0,fun _=>⟨rfl,rfl,rfl⟩⟩,rfl,rfl⟩
  ·omega
theorem tT {c:Cas} {l:List Rte} (h:DayOk48 c l) (hr: ∀r∈l,Q7 r):BsOk c.y l/\(∀r∈l,ordR r.visits=(((ordS r.visits:Nat):Int),0))/\ ∀r∈l,r.visits.length<=8/\r.rests.length<=9:=by
 obtain ⟨p1,p2,p3⟩:=HV h.sm;have hx:=h.x.2.2.2.2.2.2
 have hy1:c.y.orders.length<=3:=by have:=h.y.1;omega
 have key: ∀b∈l,(0<=b.typ)/\b.visits.length<=8/\b.rests.length<=9:=fun b hb=>by
  rw [h.eq] at hb;obtain ⟨r,hrm,rfl,_⟩:=Bo _ (Zx _) hb;have h0:=IX.1 h.err r hrm;have hp:=p3 r hrm;have hs:=(AR hx h0 Za).len;have h2:=Ek (x:=c.x) (now:=c.now) hs
  have hre:X7 c.x r=0:=by
   grind [evalE]
  exact ⟨(WO hre).1.1,Za,Za⟩
 have hor: ∀r∈l,r.visits.all Cy=true:=fun r hrm=>by
  have g1:=(h.beg r hrm).ord
  grind [ordR]
 refine ⟨⟨?_,fun r hrm=>⟨(key r hrm).1,(h.beg r hrm).typ⟩,fun r hrm=> ?_,fun r hrm v hv=> ?_⟩,fun r hrm=>by rw [ordR,if_pos (hor r hrm)],fun r hrm=>(key r hrm).2⟩
 ·have:=JO (x:=c.x) (now:=c.now) (l:=c.p.routes) c.p.routes.length;rw [h.eq];omega
 ·grind
 ·have h1:=Zu.1 (hor r hrm) v hv;simp only [Cy,Zp] at h1;have h2:=((h.beg r hrm).sub v.order.toNat ((Wu _ _).2 ⟨v,hv,rfl⟩)).1;omega
theorem mE {x:Inst} {bs:List Rte} {now:Int} (hn:x.orders.length<=4) (hb: ∀r∈bs,r.visits.length<=8/\r.rests.length<=9) {c:Col} (hc:c∈HH x bs now):Q7 c.route:=by
 obtain ⟨b,_,_,hbm,h⟩:=HJ _ hc;obtain ⟨S,m,_,_,_,hm,_,rfl⟩:=FP h
 have hb2:b.visits.length<=8/\b.rests.length<=9:=by
  rcases hbm with h | ⟨j,_,rfl⟩
  ·exact hb _ h
  ·simp [Ad]
 have h1:(KO x S b.visits).length<=EQ x S:=fE;have h2:=Di x S x.orders.length;unfold EQ at h1
 show m.length<=1048576/\b.rests.length<=1048576
 rcases hm with rfl | hm
 ·omega
 ·have:=D2 _ _ _ hm;omega
end Go.Proofs.YtiigdaohjanidaaGreatDoor.K
