/- Declarations that the closing texts need, part 23: joined by tools/slim.py. -/
import Derived.Test.YtiigdaohjanidaaGreatDoorH22
import Derived.Shelf.SlSortCmp.NoneTotal
set_option linter.unusedVariables false
set_option linter.unusedSimpArgs false
namespace Go.AM
open Go.RowKit Go.Shelf Go.Lib Go.Sort Go.Proofs
theorem dB {W w':World} {H':List AM.Obj} {ι':List (Option Nat)} (g:Good JN [] [] W H' ι' w'): ∃q os',w'=grow (W.drewN q) os':=by
 refine ⟨w'.drawn-W.drawn,w'.heap.extract W.heap.size w'.heap.size,?_⟩
 have h1:w'.heap=W.heap++w'.heap.extract W.heap.size w'.heap.size:=by
  apply Array.ext_getElem?;intro i
  by_cases hi:i<W.heap.size
  ·rw [Co hi];exact g.keep i hi Zb
  ·rw [Array.getElem?_append_right Za];have:=g.size;rw [Array.getElem?_extract]
   split
   ·congr 1;omega
   ·rw [Array.getElem?_eq_none Za]
 have h2:W.drawn<=w'.drawn:=g.tape.2.resolve_right fun h=>h;have h3:=g.tape.1;have h4:=g.os;have h5:=g.output
 cases w'
 simp only [grow,World.drewN] at *
 congr 1
 omega
def NY (c:Array Value) (k i:Nat):List Value:=(List.range k).map fun j=>c.getD (i*k+j) undef
theorem EP (c k i):(NY c k i).length=k:=by simp [NY]
theorem BR {c k i j} (h:j<k):(NY c k i)[j]! =c.getD (i*k+j) undef:=by
 rw [List.getElem!_eq_getElem?_getD,NY,XC,List.getElem?_range h];rfl
theorem ACalls.sortFunc {P : Program} {ρ : Ren} (L : SlLaysF0.n6 P ρ) (hg : Zi P (ρ.f 6)) (k : Nat) (aE : ∀ w, (isAgg (ρ.t 24)).run P w = .ok true w) (zE : ∀ w, (Go.sizeOf (ρ.t 24)).run P w = .ok k w)
    {β : Type} [Inhabited β] (f : β -> PV) (hf : ∀ x, ∃ cs, f x = .agg cs /\ cs.length = k /\ cs.all (·.one) = true) (cf : β -> β -> Int) (hO : SWO (ltOf cf)) (g : FuncId)
    (hcmp : ∀ x y, ACalls P g [.p (f x), .p (f y)] [] fun r H' => r = .p (.int .i64 (cf x y)) /\ H' = []) (xs : List β) (hlen : xs.length < 4611686018427387904) {H : List AM.Obj} {o : Nat} (hHo : H[o]? = some (.elems k (xs.map f))) :
    ACalls P (ρ.f 6) [.sl o 0 xs.length xs.length, .fn (.func g) [] []] H fun y H' => y = .tup [] /\ ∃ ys : List β, ys.Perm xs /\ ys.Pairwise (fun a b => ¬ cf b a < 0) /\ H' = H.set o (.elems k (ys.map f)) := by
  refine ⟨hg, fun F ι w vs hr hv => ?_⟩;obtain ⟨hv1, hv2⟩ := hv;have h0 := hv2 0 _ rfl;have h1 := hv2 1 _ rfl
  have hvs : vs = #[vs.getD 0 undef, vs.getD 1 undef] := by
    apply Array.ext
    · simpa using hv1
    · intro i h2 h3
      have : i = 0 \/ i = 1 := by simp at hv1; omega
      rcases this with rfl | rfl <;> simp [Array.getD, h2]
  rw [hvs];generalize vs.getD 0 undef = v0 at h0 ⊢;generalize vs.getD 1 undef = v1 at h1 ⊢;clear hvs hv1 hv2
  cases h1 with | fn _ _ _ a e hs ht _ _ =>
  have ea : a = #[] := Dm (by simpa using hs);have ee : e = #[] := Dm (by simpa using ht);subst ea; subst ee;generalize hL : xs.length = n at h0 hlen
  by_cases hz : n = 0
  · subst hz
    obtain rfl : xs = [] := List.length_eq_zero_iff.1 hL
    have e1 : H.set o (.elems k (([] : List β).map f)) = H := by
      apply Jp;intro i;rw [UB]
      split
      · rename_i hi; subst hi; rw [hHo]; simp [(ZS.1 hHo).1]
      · rfl
    obtain ⟨ad, cap, rfl⟩ : ∃ ad cap, v0 = .slice ad 0 cap := by
      cases h0 with
      | slNil => exact ⟨_, _, rfl⟩
      | sl => exact ⟨_, _, rfl⟩
      | slD _ _ _ _ _ hd => rw [hHo] at hd; cases hd
      | slS _ _ _ _ _ S2 xs2 hd hne => rw [hHo] at hd; simp at hd; obtain ⟨_, rfl⟩ := hd; simp at hne
      | slC _ _ _ _ _ _ hd => rw [hHo] at hd; cases hd
    refine (AnyF.slices_SortFunc_none L ad cap _ w).mono ?_;rintro e w' ⟨rfl, rfl⟩;exact ⟨.tup [], _, ι, _, rfl, ⟨rfl, [], .refl _, .nil, e1.symm⟩, Good.refl hr, .tup [] #[] Zb Zb⟩
  have hn : 0 < n := Za
  cases h0 with
  | slNil => omega
  | slD _ _ _ _ _ hd => rw [hHo] at hd; cases hd
  | slS _ _ _ _ _ S ys hd hlt => rw [hHo] at hd; simp at hd; obtain ⟨_, rfl⟩ := hd; simp at hlt; omega
  | slC _ _ _ _ _ _ hd => rw [hHo] at hd; cases hd
  | sl _ _ _ _ b S cap t ys c hι hH ht2 hw hcap hl hle hm =>
  rw [hHo] at hH;simp at hH;obtain ⟨rfl, rfl⟩ := hH;rcases hr.elm o k (xs.map f) hHo with ⟨e1, _⟩ | ⟨b2, c2, t2, cap2, e1, e2, e3, e4, e5, e6, e7⟩
  · rw [hι] at e1; cases e1
  rw [hι] at e1;simp at e1; subst e1;rw [hw] at e2;simp at e2;obtain ⟨rfl, rfl⟩ := e2;have hbs : b < w.heap.size := (hr.avo o b hι).2;have hbF : ¬ F b := (hr.avo o b hι).1
  -- an index, made one that there is
  let ix : Nat -> Nat := fun i => if i < n then i else 0
  have hix : ∀ i, ix i < n := fun i => by simp only [ix]; split <;> omega
  have hixe : ∀ i, i < n -> ix i = i := fun i hi => by simp only [ix]; rw [if_pos hi]
  let enc : Nat -> List Value := fun i => NY c k (ix i)
  have hk : ∀ x, (enc x).length = k := fun x => EP _ _ _
  -- one cell of an element
  have cell : ∀ i, i < n -> ∃ cs, f (nth xs i) = .agg cs /\ cs.length = k /\ ∀ (j : Nat) (y : PV), cs[j]? = some y -> y.one = true /\ RP (Own F ι) w y (c.getD (i * k + j) undef) := fun i hi => by
    obtain ⟨cs, q1, q2, q3⟩ := hf (nth xs i);refine ⟨cs, q1, q2, fun j y hj => ⟨Zy.1 q3 y (Ya hj), ?_⟩⟩;refine e7 i (f (nth xs i)) j y ?_ (by rw [q1]; exact hj);rw [XC, Vp Za, Ze Za]; rfl
  have one : ∀ x, ∀ v ∈ enc x, v.oneCell' = true := fun x v hv => by
    obtain ⟨j, hj, rfl⟩ := ZN.1 hv
    have hjk : j < k := by rw [hk] at hj; exact hj
    obtain ⟨cs, q1, q2, q3⟩ := cell (ix x) (hix x);have hg := q3 j (cs[j]'(Za)) Zb
    have e9 : (enc x)[j] = c.getD (ix x * k + j) undef := by
      have := BR (c := c) (i := ix x) hjk;rw [List.getElem!_eq_getElem?_getD, Vp (by rw [EP]; exact hjk)] at this;exact this
    rw [e9];exact hg.2.oneCell hg.1
  let d : Array Nat := Array.range n
  have hd : d.size = n := by simp [d]
  let cf' : Nat -> Nat -> Int := fun i j => cf (nth xs (ix i)) (nth xs (ix j))
  have hO' : SWO (ltOf cf') := ⟨fun x => hO.irrefl _, fun x y z h1 h2 => hO.trans _ _ _ h1 h2, fun x y z h1 h2 => hO.ntrans _ _ _ h1 h2⟩
  have hsz : n * k <= c.size := by
    rw [e3]; exact Xz k (by simpa [hL] using e4)
  have hcell : ∀ j, j < c.size -> w.cell? ⟨b, j, none⟩ = some (c.getD j undef) := fun j hj => by
    simp [World.cell?, hw, hj]
  have hHolds : HoldsK enc k w b (0 * k) d := fun j hj => by
    have hj2 : j < n * k := by simpa [hd] using hj
    have k0 : 0 < k := by rcases Nat.eq_zero_or_pos k with h | h; · subst h; simp at hj2
                          · exact h
    rw [get_flatK enc k d j (by rw [hd]; exact hj2)];have hdj : j / k < n := Nat.div_lt_of_lt_mul (by rw [K1]; exact hj2)
    have hde : d[j / k]! = j / k := by simp [d, hdj]
    rw [hde]
    have e9 : (enc (j / k))[j % k]! = c.getD j undef := by
      show (NY c k (ix (j / k)))[j % k]! = _
      rw [hixe _ hdj, BR (Jj _ k0), Nat.div_add_mod']
    rw [e9, Nat.zero_mul, XE];exact ⟨hcell j Za, by simp [World.frozen?, hw]⟩
  have hcmp' : CmpLays P g #[] enc k cf' b (0 * k) d.size w := fun m os dk hdk x y => by
    generalize hW : sortWorldK enc k w b (0 * k) m dk os = W
    have hKeep : Keeps (Own F ι) w JN W := fun b' hb' hs' => by
      have hne : b' ≠ b := fun e => hb' (.inr (e ▸ Ya hι));refine ⟨fun h => h, ?_, ?_⟩
      · rw [<- hW]; simp [sortWorldK, grow, putRowK, putRow, mapBlock, ahead]; omega
      · rw [<- hW]
        simp only [sortWorldK, grow, putRowK, putRow, mapBlock, ahead];rw [Co (by simpa using hs'), Dq, if_neg (fun e => hne e.symm)]
        rfl
    have heW : Env JN [] W := (hr.env.of (w' := W) (ι' := ι) (by rw [<- hW]; simp [sortWorldK, grow, putRowK, putRow, mapBlock, ahead]) (fun b' hb' hni => by
      have hne : b' ≠ b := fun e => hni (e ▸ Ya hι);rw [<- hW];simp only [sortWorldK, grow, putRowK, putRow, mapBlock, ahead];rw [Co (by simpa using hb'), Dq, if_neg (fun e => hne e.symm)]
      rfl) (fun _ _ h => h)).noth
    have arg : ∀ i, RV JN [] [] W (.p (f (nth xs (ix i)))) (.agg (enc i).toArray) := fun i => by
      obtain ⟨cs, q1, q2, q3⟩ := cell (ix i) (hix i);refine .p _ _ ?_;rw [q1]
      refine (RP.agg cs (enc i).toArray (by simp [hk, q2]) fun j y hj => ?_ : RP JN W _ _).weaker fun b hb => by
        rcases hb with hb | hb
        · exact hb
        · simp at hb
      have hjk : j < k := by rw [<- q2]; exact (ZS.1 hj).1
      have e9 : (enc i).toArray.getD j undef = c.getD (ix i * k + j) undef := by
        have := BR (c := c) (i := ix i) hjk;rw [List.getElem!_eq_getElem?_getD, Vp (by rw [EP]; exact hjk)] at this;simp only [ZB, J5];rw [Vp (by rw [hk]; exact hjk), Jf];rw [Jf] at this;simpa only [ZB] using this
      rw [e9];exact (q3 j y hj).2.ext hKeep
    refine ((hcmp (nth xs (ix x)) (nth xs (ix y))).2 JN [] W _ (BS heW) ⟨rfl, fun j q hj => ?_⟩).mono ?_
    · cases j with
      | zero => simp at hj; subst hj; exact arg x
      | succ j => cases j with
        | zero => simp at hj; subst hj; exact arg y
        | succ j => simp at hj
    · rintro e' w' ⟨x', H', ι', v, rfl, ⟨rfl, rfl⟩, gd, rv⟩
      cases rv with | p _ _ rp =>
      rw [rp.int_inv];exact ⟨rfl, dB gd⟩
  have eg := (hcmp default default).1;have main := AnyQ.slices_SortFunc L k aE zE enc hk one cf' hO' g #[] b (0 * k) cap d w (fun args w => eg args w) hcmp' hHolds hbs (by rw [hd]; exact hlen);rw [hd] at main;refine main.mono ?_;rintro e' w' ⟨rfl, d', m, os, hp, hso, rfl⟩;obtain ⟨p1, _, p3⟩ := hp;rw [hd] at p1
  have hperm : d'.toList.Perm (List.range n) := by
    have e8 : (d'.extract 0 n).toList = d'.toList := by rw [<- p1]; simp
    have e9 : (d.extract 0 n).toList = List.range n := by
      have : d.extract 0 n = d := by rw [<- hd]; simp
      rw [this]; simp [d]
    rw [e8, e9] at p3; exact p3
  have hlt : ∀ i ∈ d'.toList, i < n := fun i hi => by simpa using hperm.mem_iff.1 hi
  have hlt2 : ∀ i, i < n -> d'.toList[i]?.isSome = true := fun i hi => by simp [p1, hi]
  have hget : ∀ i (hi : i < n), d'[i]! = d'.toList[i]'(by simp [p1, hi]) := fun i hi => by
    rw [getElem!_pos d' i Za]; simp
  let ys : List β := d'.toList.map (nth xs)
  have hyl : ys.length = n := by simp [ys, p1]
  have hys : ∀ i (hi : i < n), ys[i]'(Za) = nth xs d'[i]! := fun i hi => by
    simp only [ys, List.getElem_map]; rw [hget i hi]
  have hdl : ∀ i, i < n -> d'[i]! < n := fun i hi => by rw [hget i hi]; exact hlt _ (Jq _)
  have yperm : ys.Perm xs := by
    have h9 : (List.range n).map (nth xs) = xs := by
      refine U1 (by simp [hL]) fun i h1 h2 => ?_;simp only [List.getElem_map, List.getElem_range];rw [Ze h2]
    have := hperm.map (nth xs);rw [h9] at this; exact this
  have ysort : ys.Pairwise fun a b => ¬ cf b a < 0 := by
    rw [Br];intro i j hi hj hij;rw [hys i Za, hys j Za];have h9 := hso i j (Nat.zero_le _) hij Za;simp only [ltOf, cf', XJ] at h9;rwa [hixe _ (hdl j Za), hixe _ (hdl i Za)] at h9
  let c' : Array Value := putCells id (0 * k) (flatK enc k d') c
  have hcs : c'.size = c.size := by simp [c', putCells]
  have hat : (sortWorldK enc k w b (0 * k) m d' os).heap[b]? = some (.cells c' t (0, 0)) := by
    simp only [sortWorldK, grow, putRowK, putRow, mapBlock, ahead];rw [Co (by simpa using hbs), Dq, if_pos rfl]
    show Option.map _ w.heap[b]? = _
    rw [hw]; rfl
  have hoth : ∀ q, q < w.heap.size -> q ≠ b -> (sortWorldK enc k w b (0 * k) m d' os).heap[q]? = w.heap[q]? := fun q hq hne => by
    simp only [sortWorldK, grow, putRowK, putRow, mapBlock, ahead];rw [Co (by simpa using hq), Dq, if_neg (fun e => hne e.symm)]
    rfl
  have hc' : ∀ i j, i < n -> j < k -> c'.getD (i * k + j) undef = c.getD (d'[i]! * k + j) undef := fun i j hi hj => by
    have hb1 : i * k + j < n * k := by
      have := Xz k (show i + 1 <= n from hi);rw [XN, Vs] at this; omega
    have e8 : (flatK enc k d')[i * k + j]! = c.getD (d'[i]! * k + j) undef := by
      rw [get_flatK enc k d' _ (by rw [p1]; exact hb1)]
      have q1 : (i * k + j) / k = i := by rw [K1, Nat.mul_add_div Za, Je hj]; omega
      have q2 : (i * k + j) % k = j := by rw [K1, Nat.mul_add_mod, KT hj]
      rw [q1, q2]
      show (NY c k (ix d'[i]!))[j]! = _
      rw [BR hj, hixe _ (hdl i hi)]
    have e9 : c'[i * k + j]? = some ((flatK enc k d')[i * k + j]!) := by
      simp only [c', putCells, Array.getElem?_mapIdx];rw [Array.getElem?_eq_getElem Za];simp only [KV, Nat.zero_mul, Nat.zero_le, true_and, XE, size_flatK, p1, hb1, if_true, Nat.sub_zero, id]
    rw [ZB, e9, Jf, e8]
  have good := XQ (w' := sortWorldK enc k w b (0 * k) m d' os) (c := c') (t := t) (xs' := ys.map f) (cap := cap2) (b' := b) hr (o := o) (S := k) (xs := xs.map f) hHo rfl (Tp.of rfl (by simp [sortWorldK, grow, putRowK, putRow, mapBlock, ahead])) rfl
    (fun c0 t0 h => by rw [hw] at h; simp at h; obtain ⟨rfl, rfl⟩ := h; exact ⟨rfl, hcs⟩) (by simp [sortWorldK, grow, putRowK, putRow, mapBlock, ahead]) hat hoth (.inl ⟨hι, .inl ⟨by simp [hyl, hL], fun c0 t0 h => by rw [hw] at h; simp at h; obtain ⟨rfl, rfl⟩ := h; exact ⟨rfl, hcs⟩⟩⟩)
    (by rw [hcs]; exact e3) (by simp only [Zv, hyl]; simpa [hL] using e4) e5
    (fun i x hi => by
      rw [XC, Zn] at hi;obtain ⟨y, _, rfl⟩ := hi;obtain ⟨cs, q1, q2, _⟩ := hf y
      rw [q1]; exact q2)
    (fun i x j y hi hj => by
      rw [XC, Zn] at hi;obtain ⟨z, hz, rfl⟩ := hi
      have hin : i < n := by have := (ZS.1 hz).1; omega
      have e8 : z = nth xs d'[i]! := by
        obtain ⟨h9, h10⟩ := ZS.1 hz;rw [<- h10]; exact hys i hin
      obtain ⟨cs, q1, q2, q3⟩ := cell _ (hdl i hin);rw [e8, q1] at hj
      have hjk : j < k := by rw [<- q2]; exact (ZS.1 hj).1
      rw [hc' i j hin hjk]
      exact (q3 j y hj).2)
  have ZH : ι.set o (some b) = ι := by
    refine Jp fun i => ?_;rw [UB]
    split
    · rename_i e; subst e
      have := (ZS.1 hι).1;rw [if_pos this, hι]
    · rfl
  rw [ZH] at good;exact ⟨.tup [], _, ι, .tuple #[], rfl, ⟨rfl, ys, yperm, ysort, rfl⟩, good, .tup [] #[] rfl (fun j c hj => by simp at hj)⟩
end Go.AM
namespace Go.Proofs.YtiigdaohjanidaaGreatDoor.K
open Go Go.AM Go.Proofs
set_option maxRecDepth 60000
set_option maxHeartbeats 8000000
theorem Pr {α:Type} [Inhabited α] {l:List α} {i j:Nat} {a:α} (h:i<l.length):nth (l.set i a) j=if i=j then a else nth l j:=by
 grind [nth]
theorem nD {α:Type} [Inhabited α] {l:List α} {j:Nat} {a:α} (h:j<l.length):nth (l++ [a]) j=nth l j:=by
 grind [nth]
theorem HP {α:Type} [Inhabited α] {l:List α} {a:α} :nth (l++ [a]) l.length=a:=by
 grind [nth]
def cfK (a b:Col):Int:=nK [Qh a.typ b.typ,Qh a.set b.set]
theorem aY {a b:Int} :Qh a b<0↔a<b:=by grind [Qh]
theorem aZ {a b:Int} :Qh a b=0↔a=b:=by grind [Qh]
theorem D4 {a b:Col} :cfK a b<0↔a.typ<b.typ\/(a.typ=b.typ/\a.set<b.set):=by
 grind [cfK,HT,aZ,aY]
theorem lF : Go.Sort.SWO (ltOf cfK) where
 irrefl x:=by grind [ltOf,D4]
 trans x y z h1 h2:=by simp only [ltOf,Zl,D4] at *;omega
 ntrans x y z h1 h2:=by grind [ltOf,D4]
theorem IU (a b:Col):PC 197 [.p (Yl a),.p (Yl b)] (.int .i64 (cfK a b)):=by
 refine Zc Tryz.func197 rfl yF ?_;simp (disch:=omega) only [Tryz.f197,go_sem,seval];refine XH (Wp ?_);refine Zp (F0 a.typ b.typ) (Wp ?_);refine Zp (F0 a.set b.set) (Wp ?_);refine Zp (Zbl [Qh a.typ b.typ,Qh a.set b.set] false Zb) (Wp ?_)
 rfl
theorem oS (xs:List Col) (hl:xs.length<=1048576) {H:List AM.Obj} {o:Nat} (hH:H[o]? =some (.elems 7 (xs.map Yl))) :
  ACalls Tryz.prog 103 [.sl o 0 xs.length xs.length,.fn (.func 197) [] []] H fun y H'=>y= .tup []/\ ∃ys:List Col,ys.Perm xs/\ys.Pairwise (fun a b=> ¬cfK b a<0)/\H'=H.set o (.elems 7 (ys.map Yl)) :=
 ACalls.sortFunc Mn dG 7 Tryz.isAgg158 Tryz.sizeOf158 Yl (fun x=>⟨_,rfl,rfl,rfl⟩) cfK lF 197 IU xs Za hH
def kd (c:Col):Kd:=⟨c.typ,c.set⟩
def Bst (l:List Col) (k:Nat) (d:Col):Prop:= ∃j,j<k/\nth l j=d/\ ∀i,i<k->kd (nth l i)=kd d->d.price<(nth l i).price\/(d.price=(nth l i).price/\j<=i)
structure Chp (l:List Col) (k:Nat) (m:List (Kd×Int)) (out:List Col):Prop where
 len:out.length<=k
 at1: ∀i,i<out.length->mq m (kd (nth out i))=some (i:Int)
 at2: ∀q v,mq m q=some v-> ∃i,i<out.length/\v=i/\kd (nth out i)=q
 bst: ∀i,i<out.length->Bst l k (nth out i)
 all: ∀j,j<k-> ∃i,i<out.length/\kd (nth out i)=kd (nth l j)
theorem aS (l:List Col):Chp l 0 [] []:=⟨Zb,fun i h=>by simp at h,fun q v h=>by simp [mq] at h,fun i h=>by simp at h,fun j h=>by simp at h⟩
theorem lM {l:List Col} {k:Nat} {m m':List (Kd×Int)} {out:List Col} (h:Chp l k m out) (hn:mq m (kd (nth l k))=none) (hm: ∀q,mq m' q=if q=kd (nth l k) then some (out.length:Int) else mq m q):Chp l (k+1) m' (out++ [nth l k]):=by
 have hno: ∀i,i<out.length->kd (nth out i)≠kd (nth l k):=fun i hi e=>by
  have:=h.at1 i hi
  grind
 have split: ∀i,i<(out++ [nth l k]).length->(i<out.length/\nth (out++ [nth l k]) i=nth out i)\/(i=out.length/\nth (out++ [nth l k]) i=nth l k):=fun i hi=>by
  simp only [Zw,Zz,ZQ] at hi;rcases Wy i out.length with h1 | h1
  ·grind [nD]
  ·obtain rfl:i=out.length:=Za
   exact .inr ⟨rfl,HP⟩
 refine ⟨by have:=h.len;simp;omega,fun i hi=> ?_,fun q v hq=> ?_,fun i hi=> ?_,fun j hj=> ?_⟩
 ·rcases split i hi with ⟨h1,e⟩ | ⟨rfl,e⟩
  ·rw [e,hm,if_neg (hno i h1)];exact h.at1 i h1
  grind
 ·rw [hm] at hq
  split at hq
  ·grind [HP]
  ·obtain ⟨i,h1,h2,h3⟩:=h.at2 q v hq
   grind
 ·rcases split i hi with ⟨h1,e⟩ | ⟨rfl,e⟩
  ·rw [e];obtain ⟨j,h2,h3,h4⟩:=h.bst i h1;refine ⟨j,Za,h3,fun p hp he=> ?_⟩
   grind
  ·rw [e];refine ⟨k,Za,rfl,fun p hp he=> ?_⟩;rcases Bs.1 hp with h5 | rfl
   ·obtain ⟨i,h6,h7⟩:=h.all p h5
    grind
   omega
 ·rcases Bs.1 hj with h5 | rfl
  ·obtain ⟨i,h6,h7⟩:=h.all j h5
   grind
  ·exact ⟨out.length,Zb,by rw [HP]⟩
theorem lN {l:List Col} {k:Nat} {m:List (Kd×Int)} {out:List Col} {i:Nat} (h:Chp l k m out) (hi:i<out.length) (hk:kd (nth out i)=kd (nth l k)):Chp l (k+1) m (if (nth l k).price<(nth out i).price then out.set i (nth l k) else out):=by
 have hun: ∀j,j<out.length->kd (nth out j)=kd (nth l k)->j=i:=fun j hj e=>by
  have h1:=h.at1 j hj;have h2:=h.at1 i hi
  grind
 split
 ·rename_i hp
  have key: ∀j,kd (nth (out.set i (nth l k)) j)=kd (nth out j):=fun j=>by
   grind [Pr]
  refine ⟨by have:=h.len;simp;omega,fun j hj=> ?_,fun q v hq=> ?_,fun j hj=> ?_,fun j hj=> ?_⟩
  ·rw [key];exact h.at1 j (by grind)
  ·obtain ⟨j,h1,h2,h3⟩:=h.at2 q v hq
   grind
  ·simp only [BB] at hj;rw [Pr hi]
   split
   ·rename_i e;subst e;refine ⟨k,Za,rfl,fun p hp2 he=> ?_⟩;rcases Bs.1 hp2 with h5 | rfl
    ·obtain ⟨j,h6,h7,h8⟩:=h.bst i hi
     grind
    omega
   ·rename_i e;obtain ⟨p,h2,h3,h4⟩:=h.bst j hj;refine ⟨p,Za,h3,fun p' hp' he=> ?_⟩
    grind
  ·rcases Bs.1 hj with h5 | rfl
   ·obtain ⟨p,h6,h7⟩:=h.all j h5
    grind
   grind
 ·rename_i hp;refine ⟨by have:=h.len;omega,h.at1,h.at2,fun j hj=> ?_,fun j hj=> ?_⟩
  ·obtain ⟨p,h2,h3,h4⟩:=h.bst j hj;refine ⟨p,Za,h3,fun p' hp' he=> ?_⟩
   grind
  ·rcases Bs.1 hj with h5 | rfl
   ·exact h.all j h5
   grind
structure Cheap (l ys:List Col):Prop where
 asc:ys.Pairwise fun a b=>cfK a b<0
 bst: ∀d∈ys,Bst l l.length d
 all: ∀c∈l,∃d∈ys,kd d=kd c
theorem lL {l:List Col} {m:List (Kd×Int)} {out ys:List Col} (h:Chp l l.length m out) (hp:ys.Perm out) (ha:ys.Pairwise fun a b=> ¬cfK b a<0):Cheap l ys:=by
 have hnd:out.Pairwise fun a b=>kd a≠kd b:=by
  rw [Br];intro i j hi hj hij e;have h1:=h.at1 i hi;have h2:=h.at1 j hj
  grind [Ze]
 have hnd2:ys.Pairwise fun a b=>kd a≠kd b:=(hp.pairwise_iff fun h e=>h e.symm).2 hnd;refine ⟨(hnd2.and ha).imp fun {a b} hh=> ?_,fun d hd=> ?_,fun c hc=> ?_⟩
 ·rw [D4] at hh ⊢
  grind [kd]
 ·obtain ⟨i,hi,rfl⟩:=ZN.1 (hp.mem_iff.1 hd);rw [<- Ze hi];exact h.bst i hi
 ·obtain ⟨j,hj,rfl⟩:=ZN.1 hc;obtain ⟨i,hi,e⟩:=h.all j hj
  grind [Ze]
theorem Ng (l:List Col) (c:Bool) (hl:l.length<=8192):ACalls Tryz.prog 150 [.p (.list c (l.map Yl))] [] fun y H'=> ∃ys:List Col,(Cheap l ys/\ys.length<=l.length)/\y= .p (.list false (ys.map Yl))/\H'= []:=by
 refine Zf [15] Tryz.func150 rfl xE ?_;simp (disch:=omega) only [Tryz.f150,go_sem,seval];refine Zk [3,11,12] (fun q:Nat×List (Kd×Int)×List Col=> [(4,.sl 1 0 q.2.2.length q.2.2.length),(13,.p (.int .i64 q.1))]) (fun q=> [.map (q.2.1.map (I2 Tv)),.elems 7 (q.2.2.map Yl)]) (fun q=>q.1<=l.length/\Chp l q.1 q.2.1 q.2.2) (fun q=>l.length-q.1) (0,[],[]) ⟨Zb,aS l⟩ (Weak.ofNil 4 7 (by simp (disch:=omega) only [go_sem,seval]) Zb (Weak.mk ?_)) ?_
 ·simp (disch:=omega) only [Zo,ZQ,go_sem,seval]
 ·rintro ⟨k,m,out⟩ ⟨hk,hC⟩;simp only at hk hC;have hol:=hC.len;refine Wp ?_;refine cD ?_ ?_<;>intro h1<;>simp (disch:=omega) only [Sh.out h1,go_sem,seval,↓reduceIte]
  ·have hk2:k<l.length:=Za
   refine dZ (l:=m) (k:=kd (nth l k)) dR (fun _ _=>trivial) trivial (by rfl) (Wp ?_)
   cases hq:mq m (kd (nth l k)) with
   | none =>
    simp (disch:=omega) only [KR,Option.getD_none,go_sem,seval];refine H4 (l:=m) (k:=kd (nth l k)) dR (fun _ _=>trivial) trivial (by rfl) fun m' hm' _=> ?_;simp (disch:=omega) only [ZC,go_sem,seval];exact ⟨(k+1,m',out++ [nth l k]),⟨Za,lM hC hq hm'⟩,Za,Weak.mk (by simp (disch:=omega) only [XY,ZG,Zo,Zw,Zz,ZQ,XE,go_sem,seval])⟩
   | some v =>
    obtain ⟨i,hi,rfl,hkd⟩:=hC.at2 _ _ hq;have hold:=lN hC hi hkd;simp (disch:=omega) only [Jo,Jf,go_sem,seval];refine XH ?_;simp (disch:=first | omega | (simp only [Zz,ZQ,Zw,Zv,ZE,ZK]<;>omega)) only [Wn hi,hi,go_sem,seval,↓reduceIte];refine ZP ?_ ?_<;>intro h2
    ·rw [if_pos h2] at hold;simp (disch:=first | omega | (simp only [Zz,ZQ,Zw,Zv,ZE,ZK]<;>omega)) only [go_sem,seval];exact ⟨(k+1,m,out.set i (nth l k)),⟨Za,hold⟩,Za,Weak.mk (by simp (disch:=omega) only [UE,BB,go_sem,seval])⟩
    ·rw [if_neg h2] at hold;exact ⟨(k+1,m,out),⟨Za,hold⟩,Za,wk⟩
  ·have hkl:k=l.length:=Za
   subst hkl;refine (oS out Za (H:=_) (o:=1) rfl).mono ?_;rintro y H' ⟨rfl,ys,g1,g2,rfl⟩;have hyl:ys.length=out.length:=g1.length_eq;simp (disch:=omega) only [Xo,ZC,go_sem,seval];rw [<- hyl];refine Zr (Weak.fz (o:=1) (by rfl)) (Zg [] _ _ _ _ (Aq ?_));exact ⟨.p (.list false (ys.map Yl)),[],wk,ys,⟨lL hC g1 g2,Za⟩,rfl,rfl⟩
def Yc (x:Inst):Nat->Nat
 | 0=>0
 | i+1=>if (nth x.orders i).off=true then Yc x i else Yc x i|||pw i
theorem LD (x:Inst): ∀i,Yc x i<2^i
 | 0=>by simp [Yc]
 | i+1=>by
  have:=LD x i
  have h:2^(i+1)=2*2^i:=Za
  rw [Yc]
  split
  ·omega
  ·exact Qp Za (by rw [pw];omega)
theorem Ug (x:Inst): ∀(n i:Nat),(Yc x n).testBit i=(decide (i<n)&& !(nth x.orders i).off)
 | 0,i=>by simp [Yc]
 | n+1,i=>by
  rw [Yc]
  split
  ·rename_i h;rw [Ug x n i]
   by_cases e:i=n
   ·subst e;simp [h]
   ·have:decide (i<n+1)=decide (i<n):=by simp;omega
    rw [this]
  ·rename_i h;rw [KW,Ug x n i,pw,Nat.testBit_two_pow]
   grind
theorem tL (o:Ord):PC 195 [.p (eOrd o)] (.bool true):=by
 refine Zc Tryz.func195 rfl yD ?_;simp (disch:=omega) only [Tryz.f195,go_sem,seval,↓reduceIte]
theorem ZbI (x:Inst) (hn:x.orders.length<=10):PC 194 [.p (ZF x),.fn (.func 195) [] []] (.int .i64 ((Yc x x.orders.length:Nat):Int)):=by
 refine Zf [] Tryz.func194 rfl yC ?_;simp (disch:=omega) only [Tryz.f194,go_sem,seval];refine Zk [1,9,10] (fun k:Nat=> [(5,.p (.int .i64 ((Yc x k:Nat):Int))),(11,.p (.int .i64 k))]) (fun _=> [Zj x]) (fun k=>k<=x.orders.length) (fun k=>x.orders.length-k) 0 Zb (Weak.mk ?_) ?_
 ·have h00:((Yc x 0:Nat):Int)=0:=rfl;simp (disch:=omega) only [h00,Zj,go_sem,seval]
 ·intro k hk;refine Wj ?_;refine cD ?_ ?_<;>intro h1<;>simp (disch:=omega) only [Sh.out h1,go_sem,seval,↓reduceIte]
  ·have hk2:k<x.orders.length:=Za
   have hm:=LD x k;have hp:2^k<=2^10:=Ys Za Za;have hpw:pw k<=1024:=hp;refine QB ?_ ?_<;>intro h2
   ·refine (tL (nth x.orders k)).use (Wp ?_)
    have ho:(nth x.orders k).off=false:=by grind
    exact ⟨k+1,Za,Za,Weak.mk (by simp (disch:=omega) only [Yc,ho,Yn,go_sem,seval,↓reduceIte])⟩
   ·have ho:(nth x.orders k).off=true:=by grind
    exact ⟨k+1,Za,Za,Weak.mk (by simp (disch:=omega) only [Yc,ho,go_sem,seval,↓reduceIte])⟩
  ·have hkl:k=x.orders.length:=Za
   subst hkl;exact we
theorem Zbo (x:Inst) (hn:x.orders.length<=10):PC 148 [.p (ZF x)] (.int .i64 ((Yc x x.orders.length:Nat):Int)):=by
 refine Zc Tryz.func148 rfl xC ?_;simp (disch:=omega) only [Tryz.f148,go_sem,seval];refine (ZbI x hn).use ?_;simp (disch:=omega) only [go_sem,seval]
def Oh (S M:Nat):Bool:=(List.range 63).all fun i=> !S.testBit i||M.testBit i
theorem oN (S M:Nat) (hS:S<9223372036854775808):PC 196 [.p (.int .i64 (S:Int)),.p (.int .i64 (M:Int))] (.bool (Oh S M)):=by
 refine Zc Tryz.func196 rfl yE ?_;simp (disch:=omega) only [Tryz.f196,go_sem,seval];have hb:=CV (S:=S) (M:=M) hS
 have hd:decide (IntKind.i64.wrap ((BitVec.ofInt 64 (S:Int)&&& ~~~BitVec.ofInt 64 (M:Int)).toNat:Int)=0)=((List.range 63).all fun i=> !S.testBit i||M.testBit i):=by
  grind
 exact XA (fun b=>V.p (PV.bool b)) hd
def rightB (x:Inst) (c:Col):Bool:=decide (0<=c.typ)&&(decide (c.typ<x.types.length)&&(decide (0<c.set)&&(Oh c.set.toNat (Yc x x.orders.length)&&(decide (0<=c.price)&&decide (c.price<=18014398509481984)))))
theorem RE (x:Inst) (c:Col) (hs:c.set<9223372036854775808) (ht:x.types.length<=1048576):PC 149 [.p (ZF x),.p (Yl c),.p (.int .i64 ((Yc x x.orders.length:Nat):Int))] (.bool (rightB x c)):=by
 refine Zc Tryz.func149 rfl xD ?_;simp (disch:=omega) only [Tryz.f149,go_sem,seval];refine gT ?_ ?_<;>intro h1<;>simp (disch:=omega) only [Sh.out h1,go_sem,seval,↓reduceIte]
 ·refine gT ?_ ?_<;>intro h2<;>simp (disch:=omega) only [Sh.out h2,go_sem,seval,↓reduceIte]
  ·refine gT ?_ ?_<;>intro h3<;>simp (disch:=omega) only [Sh.out h3,go_sem,seval,↓reduceIte]
   ·obtain ⟨S,hS⟩: ∃S:Nat,c.set=(S:Int):=⟨c.set.toNat,Za⟩
    have e1:rightB x c=(Oh S (Yc x x.orders.length)&&(decide (0<=c.price)&&decide (c.price<=18014398509481984))):=by
     simp_all [rightB]
    rw [hS];refine (oN S (Yc x x.orders.length) Za).use (Wp ?_);refine gT ?_ ?_<;>intro h4<;>simp (disch:=omega) only [Sh.out h4,go_sem,seval,↓reduceIte]
    ·refine gT ?_ ?_<;>intro h5<;>simp (disch:=omega) only [Sh.out h5,go_sem,seval,↓reduceIte]
     ·grind
     grind
    grind
   grind [rightB]
  grind [rightB]
 ·simp [rightB,h1]
theorem Zni (n:Nat) (h0:0<n) (h:n<16):PC 159 [.p (.int .u64 n)] (.int .i64 (Qx n)):=by
 refine Zc Tryz.func159 rfl xL ?_;simp (disch:=omega) only [Tryz.f159,go_sem,seval];refine (ZbN n h0 h).use ?_;simp (disch:=omega) only [go_sem,seval]
theorem Mf (n:Nat) (h0:0<n) (h:n<16):PC 107 [.p (.int .i64 n)] (.int .i64 (Qx n)):=by
 refine Zc Tryz.func107 rfl wJ ?_;simp (disch:=omega) only [Tryz.f107,go_sem,seval];refine cD ?_ ?_<;>intro h1<;>simp (disch:=omega) only [Sh.out h1,go_sem,seval]
 ·omega
 ·refine (Zni n h0 h).use ?_;simp (disch:=omega) only [go_sem,seval]
def skpF (x:Inst) (i:Nat):Int:=if (Xk x i).2=0/\(XW (Xk x i).1).2=0 then (XW (Xk x i).1).1 else-1
def X7 (ys:List Col) (i:Nat):List Col:=ys.filter fun c=>decide (Qx c.set.toNat=(i:Int))
def fstF (n:Nat) (ys:List Col):List (List Col):=(List.range n).map (X7 ys)
theorem SF {ys:List Col} {k i:Nat} (h:k<ys.length):X7 (ys.take (k+1)) i=if Qx (nth ys k).set.toNat=(i:Int) then X7 (ys.take k) i++ [nth ys k] else X7 (ys.take k) i:=by
 grind [Xm,X7,nth]
theorem gG (i:Nat):X7 [] i= []:=rfl
theorem BO (ys:List Col) (k i:Nat):(X7 (ys.take k) i).length<=ys.length:=by
 refine K0 (List.length_filter_le _ _) ?_;simp;omega
theorem Q9 (ys):fstF 0 ys= []:=rfl
theorem Qi (ys):fstF 1 ys= [X7 ys 0]:=rfl
theorem Qj (ys):fstF 2 ys= [X7 ys 0,X7 ys 1]:=rfl
theorem Qk (ys):fstF 3 ys= [X7 ys 0,X7 ys 1,X7 ys 2]:=rfl
theorem Ql (ys):fstF 4 ys= [X7 ys 0,X7 ys 1,X7 ys 2,X7 ys 3]:=rfl
def BU : List (List Col)->Nat->List V
 | [],_=> []
 | p::P,o=> .sl o 0 p.length p.length::BU P (o+1)
def GG (P:List (List Col)):List AM.Obj:=P.map fun p=> .elems 7 (p.map Yl)
theorem So {n0:Nat} {fr:List V} {a b c:AM.Obj} (h0:n0<=4) (n:Nat):Weak n0 fr [a,b,c,.cells (List.replicate n (.p (.list true [])))] fr (a::b::c:: .cells (BU (List.replicate n []) 4)::GG (List.replicate n [])):=by
 have hr: ∀(k o:Nat),BU (List.replicate k []) o=(List.range k).map fun j=>V.sl (o+j) 0 0 0:=fun k=>by
  induction k with
  | zero=>intro o;rfl
  | succ k ih =>
   intro o;rw [AI,BU,ih,List.range_succ_eq_map,ZG,List.map_map];simp only [ZQ,Vr,List.cons.injEq,true_and];apply YX
   grind
 have key: ∀k,k<=n->Weak n0 fr [a,b,c,.cells (List.replicate n (.p (.list true [])))] fr (a::b::c:: .cells (((List.range k).map fun j=>V.sl (4+j) 0 0 0)++List.replicate (n-k) (.p (.list true [])))::List.replicate k (.elems 7 [])):=fun k=>by
  induction k with
  | zero=>grind [Weak.refl]
  | succ k ih =>
   intro hk
   have h1:=(ih Za).trans (Weak.nilC (n0:=n0) (fr:=fr) (o:=3) (j:=k) 7 (by rfl) (by
    grind) (by simp;omega))
   have e1:List.length (a::b::c::AM.Obj.cells (((List.range k).map fun j=>V.sl (4+j) 0 0 0)++List.replicate (n-k) (.p (.list true [])))::List.replicate k (AM.Obj.elems 7 []))=4+k:=by simp;omega
   have e2:(((List.range k).map fun j=>V.sl (4+j) 0 0 0)++List.replicate (n-k) (V.p (.list true []))).set k (.sl (4+k) 0 0 0)=((List.range (k+1)).map fun j=>V.sl (4+j) 0 0 0)++List.replicate (n-(k+1)) (V.p (.list true [])):=by
    rw [List.set_append_right _ _ Zb,show n-k=(n-(k+1))+1 by omega,AI,Yu,XY];simp
   grind [List.replicate_succ']
 have:=key n (Xg _)
 simp_all [GG]
def skF (x:Inst) (n:Nat):List Int:=(List.range n).map (skpF x)
def kZ (x:Inst) (m:Int) (f g:V):AM.Obj:= .cells [.p (.list x.net.places_c (x.net.places.map eS)),.p (.list x.net.arcs_c (x.net.arcs.map V0)),.p (.list x.types_c (x.types.map V1)),.p (.list x.orders_c (x.orders.map eOrd)),.p (.list x.apart_c (x.apart.map eP)),.p (.list x.before_c (x.before.map eP)),f,g,.mp 1,.p (.int .i64 m)]
theorem Jv {x:Inst} {c:Col} (h:rightB x c=true) (hs:c.set<9223372036854775808): ∃S:Nat,c.set=S/\0<S/\S<2^x.orders.length/\ ∀i,S.testBit i=true->i<x.orders.length/\(nth x.orders i).off=false:=by
 simp only [rightB,Zt,Zl] at h;obtain ⟨_,_,h3,h4,_⟩:=h
 have key: ∀i,c.set.toNat.testBit i=true->i<x.orders.length/\(nth x.orders i).off=false:=fun i hi=>by
  have h63:i<63:=by
   rcases Wy i 63 with h | h
   ·exact h
   ·have:2^63<=2^i:=Ys Za h
    grind [Cq]
  have:=Zy.1 h4 i (ZL.2 h63)
  grind [Ug]
 refine ⟨c.set.toNat,Za,Za,?_,key⟩;refine Nat.lt_pow_two_of_testBit _ fun i hi=> ?_
 grind
theorem ZbO {S n:Nat} (h0:0<S) (h:S<2^n) (hn:n<=4):Qx S<n/\0<=Qx S:=by
 have:n=0\/n=1\/n=2\/n=3\/n=4:=Za
 unfold Qx
 grind
theorem E5 (x:Inst) (k:Nat):skF x (k+1)=skF x k++ [skpF x k]:=by simp [skF,Yu]
theorem Jy (x:Inst) (k:Nat):(skF x k).length=k:=by simp [skF]
theorem ZhR (x:Inst):skF x 0= []:=rfl
theorem dX {P:Program} {ko:List Nat} {l:List Oper} {n:Nat} {rem:List Nat} {fr:List V} {H:List AM.Obj} {K:List V->List AM.Obj->Prop} (m:Nat) (Y:V) (Z:List AM.Obj) (hr:Vu l rem= [m]) (h:Zs P (ZW l m) fr H fun y H'=>y=Y/\H'=Z)
  (k:(∀k∈ko,oat Z k=oat H k)/\An P ko l n (rem.erase m) (Wa fr (ZW l m).dst Y) Z K):An P ko l (n+1) rem fr H K :=
 Gj m _ hr h fun y H' hq=>by grind
theorem RD (x:Inst) (l:List Col) (lc:Bool) (hn:x.orders.length<=4) (ht:x.types.length<=1048576) (hu: ∀i:Nat,UV 1152921504606846976 (Xk x i).1) (hs: ∀c∈l,c.set<9223372036854775808) (hl:l.length<=1048576) :
  ACalls Tryz.prog 99 [.p (ZF x),.p (.list lc (l.map Yl))] [] fun y H'=>(8192<l.length/\y= .tup [.p .nilp,.p (.int .i64 4)]/\H'= [])\/(l.length<=8192/\(∃c∈l,rightB x c=false)/\y= .tup [.p .nilp,.p (.int .i64 2)]/\H'= []) \/
   (l.length<=8192/\(∀c∈l,rightB x c=true)/\ ∃ys,(Cheap l ys/\ys.length<=l.length)/\y= .tup [.ptr 2 0,.p (.int .i64 0)]/\H'= .cells (List.replicate 6 .junk)::(X0 x (.list false ((fstF x.orders.length ys).map Y4)) (.list false ((skF x x.orders.length).map eI)) (Yc x x.orders.length) []).map (shO 1)):=by
 refine Zf [10] Tryz.func99 rfl Zg9 ?_;simp (disch:=omega) only [Tryz.f99,go_sem,seval];refine cD ?_ ?_<;>intro h0<;>simp (disch:=omega) only [Sh.out h0,go_sem,seval]
 ·exact ⟨_,[],wk,.inl ⟨Za,rfl,rfl⟩⟩
 ·refine Xe [1] 4 mixed Zd Zd Zd Zb (Wp ?_);refine Zp (Zbo x Za) (Wp ?_);refine ZJ 1 _ _ Zd (by refine Wp ?_;exact ⟨rfl,rfl⟩) (Yk ?_);simp (disch:=omega) only [show ∀(l:List V),Qd (V.mp 1::l)=none from fun _=>rfl,Option.map_none,go_sem,seval];refine Zk [1,2,6,27,28] (fun k:Nat=> [(29,.p (.int .i64 k))]) (fun _=> [Zj x,.map [],kZ x ((Yc x x.orders.length:Nat):Int) (.p (.list true [])) (.p (.list true []))]) (fun k=>k<=l.length/\ ∀j,j<k->rightB x (nth l j)=true) (fun k=>l.length-k) 0 ⟨Za,fun j hj=>Za⟩ (Weak.mk ?_) ?_
  ·simp (disch:=omega) only [Zj,kZ,go_sem,seval]
  ·rintro k ⟨hk,hr⟩;simp (disch:=omega) only [Zj,kZ,go_sem,seval];refine cD ?_ ?_<;>intro h1<;>simp (disch:=omega) only [Sh.out h1,go_sem,seval,↓reduceIte]
   ·have hk2:k<l.length:=Za
    refine XH (Wp ?_);refine Zp (RE x (nth l k) (hs _ (ZD hk2)) ht) (Wp ?_)
    cases hq:rightB x (nth l k) with
    | false =>
     simp (disch:=omega) only [V4,go_sem,seval];exact ⟨_,[],wk,.inr (.inl ⟨Za,⟨_,ZD hk2,hq⟩,rfl,rfl⟩)⟩
    | true =>
     simp (disch:=omega) only [Vw,go_sem,seval]
     exact ⟨k+1,⟨Za,fun j hj=>by
      grind⟩,Za,wk⟩
   ·have hkl:k=l.length:=Za
    subst hkl
    have hall: ∀c∈l,rightB x c=true:=fun c hc=>by
     obtain ⟨j,hj,rfl⟩:=ZN.1 hc
     grind [Ze]
    clear hr hk h1;generalize ((Yc x x.orders.length:Nat):Int)=m;have hun: ∀i:Nat,PT 151 [.p (ZF x),.p (.int .i64 i)] [.p (Bb (Xk x i).1),.p (.int .i64 (Xk x i).2)]:=fun i=>LU x i Za;refine UW (Dj 4 rfl rfl (Wp ?_));refine ⟨_,_,Gy 205 110 _ _ x.orders.length 24 (.list true []) rfl Zd Zd Zd Zd (by rfl) Za Za (by simp (disch:=omega) only [go_sem,seval]) (by simp (disch:=omega) only [go_sem,seval]),?_⟩
    refine Wp ?_
    have h5:x.orders.length=0\/x.orders.length=1\/x.orders.length=2\/x.orders.length=3\/x.orders.length=4:=Za
    refine Zr (So Zb x.orders.length) ?_;refine Zg [17] _ _ _ _ (Wp ?_);refine (Ng l lc Za).useV fun ys hC=>Wp ?_;obtain ⟨hC,hyl⟩:=hC;rcases h5 with h5 | h5 | h5 | h5 | h5
    all_goals
     simp (disch:=omega) only [h5,List.replicate,BU,GG,ZG,Zo,go_sem,seval];refine Zk [2,6,50,51] (fun k:Nat=> [(52,.p (.int .i64 k))]) (fun k=> [Zj x,.map [],kZ x m (.sl 3 0 x.orders.length x.orders.length) (.p (.list true [])),.cells (BU (fstF x.orders.length (ys.take k)) 4)]++GG (fstF x.orders.length (ys.take k))) (fun k=>k<=ys.length) (fun k=>ys.length-k) 0 Za (Weak.mk ?_) ?_
     ·simp (disch:=omega) only [h5,WN,gG,ZQ,Q9,Qi,Qj,Qk,Ql,BU,GG,ZG,Zo,ZY,Xh,Zj,kZ,go_sem,seval]
     ·intro k hk;simp (disch:=omega) only [h5,Q9,Qi,Qj,Qk,Ql,BU,GG,ZG,Zo,ZY,Xh,Zj,kZ,go_sem,seval];refine cD ?_ ?_<;>intro h1<;>simp (disch:=omega) only [Sh.out h1,go_sem,seval,↓reduceIte]
      ·have hk2:k<ys.length:=Za
       obtain ⟨j,hj,hjl,_⟩:=hC.bst _ (ZD hk2)
       have hmem:nth ys k∈l:=by rw [<- hjl];exact ZD hj
       obtain ⟨S,hS,hS0,hS1,hS2⟩:=Jv (hall _ hmem) (hs _ hmem);have hlt:=ZbO hS0 hS1 hn;have h16:S<16:=Uy hS1 (by rw [h5];decide)
       have cl:PC 107 [.p (.int .i64 (nth ys k).set)] (.int .i64 (Qx (nth ys k).set.toNat)):=by
        rw [hS];exact Mf S hS0 h16
       refine (cl).use ?_;simp (disch:=omega) only [go_sem,seval]
       have htz:Qx (nth ys k).set.toNat=Qx S:=by rw [hS];rfl
       have hi:Qx (nth ys k).set.toNat=0\/Qx (nth ys k).set.toNat=1\/Qx (nth ys k).set.toNat=2\/Qx (nth ys k).set.toNat=3:=Za
       rcases hi with hi | hi | hi | hi
       all_goals try omega
       all_goals
        simp (disch:=omega) only [hi,go_sem,seval];refine Ax [14] [1,2,3] [2] 15 mixed Zd Zd Zd Zd Zb ?_;simp (disch:=omega) only [go_sem,seval,↓reduceIte];refine ⟨fun q hq p' hp=> ?_,?_⟩
        ·simp only [Xs,Jd,or_false] at hq;rcases hq with rfl | rfl | rfl
         ·obtain rfl:59=p':=UD hp;exact Ue (by decide)
         ·obtain rfl:60=p':=UD hp;exact Ue (by decide)
         ·obtain rfl:61=p':=UD hp;exact Ue (by decide)
        ·have q0:=BO ys k 0;have q1:=BO ys k 1;have q2:=BO ys k 2;have q3:=BO ys k 3;refine dX 14 _ _ Zd (by simp (disch:=omega) only [go_sem,seval,↓reduceIte];exact ⟨rfl,rfl⟩) ?_;refine ⟨fun k hk=>by simp at hk;subst hk;rfl,Pg ?_⟩;simp (disch:=omega) only [go_sem,seval];exact ⟨k+1,Za,Za,Weak.mk (by simp (disch:=omega) only [h5,SF hk2,hi,XY,Zw,Zz,ZQ,XE,Qi,Qj,Qk,Ql,BU,ZG,Zo,go_sem,seval,↓reduceIte])⟩
      ·have hkl:k=ys.length:=Za
       subst hkl;clear hk h1
       try refine Zr (Weak.fz (o:=4) (by rfl)) ?_
       try refine Zr (Weak.fz (o:=5) (by rfl)) ?_
       try refine Zr (Weak.fz (o:=6) (by rfl)) ?_
       try refine Zr (Weak.fz (o:=7) (by rfl)) ?_
       refine Zg [17] _ _ _ _ ?_;simp (disch:=omega) only [Yb,ZG,Zo,Xo,ZC,eq_self,go_sem,seval,↓reduceIte];refine Zr (Weak.fzC (o:=3) (ys:=(fstF x.orders.length ys).map Y4) (by rw [h5];rfl) (fun y hy=>by obtain ⟨p,_,rfl⟩:=XD.1 hy;rfl)) ?_;refine Zg [17] _ _ _ _ ?_;simp (disch:=omega) only [h5,Q9,Qi,Qj,Qk,Ql,ZG,Zo,Xo,ZC,Zz,ZQ,XE,Nat.reduceAdd,eq_self,go_sem,seval,↓reduceIte]
       refine Zg [28] _ _ _ _ ?_;simp (disch:=omega) only [go_sem,seval,↓reduceIte];refine Zk [2,6,78] (fun k:Nat=> [(79,.p (.int .i64 k))]) (fun k=> [Zj x,.map [],kZ x m (.p (.list false ((fstF x.orders.length ys).map Y4))) (.sl (4+x.orders.length) 0 k k),.dead]++List.replicate x.orders.length .dead++ [.elems 1 ((skF x k).map eI)]) (fun k=>k<=x.orders.length) (fun k=>x.orders.length-k) 0 Za ((Weak.nilC (o:=2) (j:=7) 1 (by rfl) (by rfl) Zb).trans (Weak.mk ?_)) ?_
       ·simp (disch:=omega) only [h5,ZhR,List.replicate,Xo,ZC,Zz,ZQ,XE,Nat.reduceAdd,Q9,Qi,Qj,Qk,Ql,ZG,Zo,ZY,Xh,Zj,kZ,go_sem,seval]
       ·intro k hk;simp (disch:=omega) only [h5,List.replicate,Nat.reduceAdd,Q9,Qi,Qj,Qk,Ql,ZG,Zo,ZY,Xh,Zj,kZ,go_sem,seval];refine cD ?_ ?_<;>intro h1<;>simp (disch:=omega) only [Sh.out h1,go_sem,seval,↓reduceIte]
        ·have hk2:k<x.orders.length:=Za
         refine CP (hun k) ?_;simp (disch:=omega) only [go_sem,seval,↓reduceIte];refine cD ?_ ?_<;>intro h2<;>simp (disch:=omega) only [Sh.out h2,go_sem,seval,↓reduceIte]
         ·refine CP (Gz _ (hu k)) ?_;simp (disch:=omega) only [go_sem,seval];refine cD ?_ ?_<;>intro h3<;>simp (disch:=omega) only [Sh.out h3,go_sem,seval,↓reduceIte]
          ·have hsk:skpF x k=(XW (Xk x k).1).1:=by simp [skpF,h2,h3]
           simp (disch:=omega) only [Jy,go_sem,seval];rw [if_pos ⟨Za,Za⟩];simp (disch:=omega) only [Jy,Zv,Zw,Zz,ZQ,XE,eq_self,W8,go_sem,seval];exact ⟨k+1,Za,Za,Weak.mk (by simp (disch:=omega) only [h5,E5,hsk,XY,List.replicate,Nat.reduceAdd,Q9,Qi,Qj,Qk,Ql,ZG,Zo,ZY,Xh,go_sem,seval])⟩
          ·have hsk:skpF x k= -1:=by simp [skpF,h3]
           simp (disch:=omega) only [Jy,go_sem,seval];rw [if_pos ⟨Za,Za⟩];simp (disch:=omega) only [Jy,Zv,Zw,Zz,ZQ,XE,eq_self,W8,go_sem,seval];exact ⟨k+1,Za,Za,Weak.mk (by simp (disch:=omega) only [h5,E5,hsk,XY,List.replicate,Nat.reduceAdd,Q9,Qi,Qj,Qk,Ql,ZG,Zo,ZY,Xh,go_sem,seval])⟩
         ·have hsk:skpF x k= -1:=by simp [skpF,h2]
          simp (disch:=omega) only [Jy,go_sem,seval];rw [if_pos ⟨Za,Za⟩];simp (disch:=omega) only [Jy,Zv,Zw,Zz,ZQ,XE,eq_self,W8,go_sem,seval];exact ⟨k+1,Za,Za,Weak.mk (by simp (disch:=omega) only [h5,E5,hsk,XY,List.replicate,Nat.reduceAdd,Q9,Qi,Qj,Qk,Ql,ZG,Zo,ZY,Xh,go_sem,seval])⟩
        ·have hkl:k=x.orders.length:=Za
         clear hk h1;refine Zr (Weak.fz (o:=4+x.orders.length) (S:=1) (xs:=(skF x k).map eI) (by rw [h5];rfl)) ?_;refine Zg [] _ _ _ _ ?_;simp (disch:=omega) only [h5,ZG,Zo,Xo,ZC,Zv,Jy,Nat.reduceAdd,eq_self,go_sem,seval,↓reduceIte];exact ⟨.tup [.ptr 2 0,.p (.int .i64 0)],_,Weak.mk (by simp (disch:=omega) only [hkl,h5,X0,YP,shO,shVs,shV,Q9,Qi,Qj,Qk,Ql,ZG,Zo,go_sem,seval]),.inr (.inr ⟨Za,hall,ys,⟨hC,hyl⟩,rfl,rfl⟩)⟩
theorem ZbP : ∀S:Fin 16,0<S.val->sHas (S.val:Int) (Qx S.val)=true:=by decide+kernel
theorem iD {x:Inst} (hx:InstOk x) (i:Nat): -1<=skpF x i/\skpF x i<=18014398509481984:=by
 unfold skpF
 split
 ·rename_i h
  have hm:(Xk x i).1.cost<=1000000/\(Xk x i).1.moved<=1/\0<=(Xk x i).1.moved/\(Xk x i).1.other=0/\(Xk x i).1.work=0:=by
   unfold Xk
   split
   ·simp [zSco]
   ·split
    ·simp [zSco]
    ·split
     ·simp [zSco]
     ·have ha:=(hx.orders.2 (i:Int).toNat Za).arg;simp only [argOk,rng,Zt,Zl] at ha
      grind
  obtain ⟨_,h2⟩:=h;unfold XW at h2 ⊢
  grind
 ·omega
theorem OJ {x:Inst} {l ys:List Col} (hx:InstOk x) (hn:x.orders.length<=4) (hC:Cheap l ys) (hr: ∀c∈l,rightB x c=true) (hs: ∀c∈l,c.set<9223372036854775808):ChOk x.orders.length x (fstF x.orders.length ys) (skF x x.orders.length):=by
 refine ⟨fun i hi c hc=> ?_,?_,fun i hi=> ?_⟩
 ·have e:nth (fstF x.orders.length ys) i=X7 ys i:=by
   grind [fstF,Ze]
  rw [e,X7,U3] at hc;obtain ⟨h1,h2⟩:=hc;simp only [Zl] at h2;obtain ⟨j,hj,hjl,_⟩:=hC.bst c h1
  have hm:c∈l:=by grind [ZD]
  obtain ⟨S,q1,q2,q3,_⟩:=Jv (hr c hm) (hs c hm);have h16:S<16:=Uy q3 (Ys (n:=2) Za hn);have hb:=ZbP ⟨S,h16⟩ q2;have hr1:=hr c hm;simp only [rightB,Zt,Zl] at hr1
  grind
 ·have ht:=hx.types;simp only [typesOk,rng,Zl] at ht;refine ⟨Za,fun t _=> ?_⟩;rcases Wy t x.types.length with h | h
  ·have:=ht.2 t h;unfold As at this;have:=this.1.1.1.1.1.1.2;simp only [rng,Zl] at this;omega
  ·rw [show nth x.types t=default from by grind [nth]]
   decide
 simp_all [skF,Ze,iD]
def zSt : St:=⟨0,0,[0,0,0,0,0,0]⟩
def HJ (x:Inst) (ys:List Col):Int:=YQ x.orders.length ((Yc x x.orders.length:Nat):Int) x (fstF x.orders.length ys) (skF x x.orders.length) 20 (WY x.orders.length ((Yc x x.orders.length:Nat):Int) zSt)
theorem sS (n:Nat):StV n zSt:=⟨rfl,⟨by decide,by simp [zSt]⟩,⟨0,rfl,Za⟩,fun j hj=>by
 have:nth zSt.used j=0:=by
  have:j=0\/j=1\/j=2\/j=3\/j=4\/j=5:=Za
  rcases this with rfl | rfl | rfl | rfl | rfl | rfl<;>rfl
 omega⟩
def kp (c:Col):Int×Int×Int:=(c.typ,c.set,c.price)
theorem E7 {α:Type} {r:α->α->Prop} (irr: ∀a,¬r a a) (asy: ∀a b,r a b-> ¬r b a): ∀ {l l':List α},l.Pairwise r->l'.Pairwise r->(∀a,a∈l↔a∈l')->l=l'
 | [],[],_,_,_=>rfl
 | [],b::_,_,_,h=>by have:=(h b).2 Zb;simp at this
 | a::_,[],_,_,h=>by have:=(h a).1 Zb;simp at this
 | a::l,b::l',h1,h2,h=>by
  rw [List.pairwise_cons] at h1 h2
  have hab:a=b:=by
   rcases Xs.1 ((h a).1 Zb) with e | e
   ·exact e
   ·rcases Xs.1 ((h b).2 Zb) with e' | e'
    ·exact e'.symm
    ·exact absurd (h1.1 b e') (asy _ _ (h2.1 a e))
  subst hab
  rw [E7 irr asy h1.2 h2.2 fun c=>⟨fun hc=>by
   rcases Xs.1 ((h c).1 (Ym _ hc)) with e | e
   ·subst e;exact absurd (h1.1 c hc) (irr c)
   ·exact e,fun hc=>by
   rcases Xs.1 ((h c).2 (Ym _ hc)) with e | e
   ·subst e;exact absurd (h2.1 c hc) (irr c)
   ·exact e⟩]
theorem aM {l ys:List Col} (h:Cheap l ys) {c:Col} (hc:c∈l): ∃d∈ys,kd d=kd c/\d.price<=c.price:=by
 obtain ⟨d,hd,e⟩:=h.all c hc;obtain ⟨j,hj,rfl⟩:=ZN.1 hc;obtain ⟨i,hi,_,h3⟩:=h.bst d hd
 grind [Ze]
theorem aL {l ys:List Col} (h:Cheap l ys) {d:Col} (hd:d∈ys):d∈l:=by
 obtain ⟨j,hj,e,_⟩:=h.bst d hd
 grind [ZD]
theorem LI {n i:Nat} {ys:List Col} :nth (fstF n ys) i=if i<n then X7 ys i else []:=by
 split
 ·grind [fstF,Ze]
 ·rename_i h;rw [nth,Jk,List.getElem?_eq_none (by simp [fstF];omega)];rfl
def Ty (a b:Int):Prop:=b<0\/(0<=a/\a<=b)
theorem OY {x:Inst} {s:St} {r:Col->Int} (hr: ∀c,-1<=r c): ∀ {l:List Col} {a:Int},(∀c∈l,0<=c.price) ->
  Ty (l.foldl (fun o c=>if Yp x s c=true then YF o c.price (r c) else o) a) a/\ ∀c∈l,Yp x s c=true->0<=r c->Ty (l.foldl (fun o c=>if Yp x s c=true then YF o c.price (r c) else o) a) (c.price+r c)
 | [],a,_=>⟨by grind [Ty],fun c hc=>by simp at hc⟩
 | d::l,a,hp=>by
  have hd:=hp d Zb;obtain ⟨g1,g2⟩:=OY (x:=x) (s:=s) hr (l:=l) (a:=if Yp x s d=true then YF a d.price (r d) else a) fun c hc=>hp c (Ym _ hc);rw [Yt];generalize l.foldl (fun o c=>if Yp x s c=true then YF o c.price (r c) else o) (if Yp x s d=true then YF a d.price (r d) else a)=M at g1 g2;refine ⟨?_,fun c hc hy h0=> ?_⟩
  ·grind [Ty,YF]
  ·rcases Xs.1 hc with rfl | hc
   ·rw [if_pos hy] at g1
    grind [Ty,YF]
   grind
theorem Gb {x:Inst} {s:St} {r:Col->Int} : ∀ {l:List Col} {a:Int},l.foldl (fun o c=>if Yp x s c=true then YF o c.price (r c) else o) a=a\/ ∃c∈l,Yp x s c=true/\0<=r c/\l.foldl (fun o c=>if Yp x s c=true then YF o c.price (r c) else o) a=c.price+r c
 | [],a=> .inl rfl
 | d::l,a=>by
  rw [Yt];rcases Gb (x:=x) (s:=s) (r:=r) (l:=l) (a:=if Yp x s d=true then YF a d.price (r d) else a) with h | ⟨c,h1,h2,h3,h4⟩
  ·rw [h]
   split
   ·rename_i hy;unfold YF
    split
    ·grind
    omega
   omega
  grind
abbrev Cm := { c:Col // ∃S:Nat,c.set=S/\0<S/\S<16 }
instance : Inhabited Cm := ⟨⟨⟨0, 1, 0, default⟩, 1, rfl, by decide, by decide⟩⟩
def lo (c:Col):Int:=Qx c.set.toNat
def lE (a b:Col):Int:=nK [Qh a.typ b.typ,Qh (lo a) (lo b)]
theorem Qg {a b:Col} :lE a b<0↔a.typ<b.typ\/(a.typ=b.typ/\lo a<lo b):=by
 grind [lE,HT,aZ,aY]
def vA (a b:Cm):Int:=lE a.val b.val
theorem lG : Go.Sort.SWO (ltOf vA) where
 irrefl x:=by grind [ltOf,vA,Qg]
 trans x y z h1 h2:=by simp only [ltOf,vA,Zl,Qg] at *;omega
 ntrans x y z h1 h2:=by grind [ltOf,vA,Qg]
theorem Zhi (c:Cm):PC 107 [.p (.int .i64 c.val.set)] (.int .i64 (lo c.val)):=by
 obtain ⟨c,S,h1,h2,h3⟩:=c
 grind [lo,Mf]
theorem RG (a b:Cm):PC 104 [.p (Yl a.val),.p (Yl b.val)] (.int .i64 (vA a b)):=by
 refine Zc Tryz.func104 rfl wG ?_;simp (disch:=omega) only [Tryz.f104,go_sem,seval];refine XH (Wp ?_);refine Zp (F0 a.val.typ b.val.typ) (Wp ?_);refine Zp (Zhi a) (Wp ?_);refine Zp (Zhi b) (Wp ?_);refine Zp (F0 (lo a.val) (lo b.val)) (Wp ?_);refine Zp (Zbl [Qh a.val.typ b.val.typ,Qh (lo a.val) (lo b.val)] false Zb) (Wp ?_)
 rfl
theorem oQ (xs:List Cm) (hl:xs.length<=1048576) {H:List AM.Obj} {o:Nat} (hH:H[o]? =some (.elems 7 (xs.map fun c=>Yl c.val))) :
  ACalls Tryz.prog 103 [.sl o 0 xs.length xs.length,.fn (.func 104) [] []] H fun y H'=>y= .tup []/\ ∃ys:List Cm,ys.Perm xs/\ys.Pairwise (fun a b=> ¬vA b a<0)/\H'=H.set o (.elems 7 (ys.map fun c=>Yl c.val)) :=
 ACalls.sortFunc Mn dG 7 Tryz.isAgg158 Tryz.sizeOf158 (fun c:Cm=>Yl c.val) (fun x=>⟨_,rfl,rfl,rfl⟩) vA lG 104 RG xs Za hH
theorem CB {n:Nat} {m:Int} {x:Inst} {fst:List (List Col)} {sk:List Int} : ∀(d:Nat) (s:St),∀c∈(Ye n m x fst sk d s).1,∃i,i<fst.length/\c∈nth fst i
 | 0,s,c,h=>by simp [Ye] at h
 | d+1,s,c,h=>by
  rw [Ye] at h
  split at h
  ·simp at h
  ·split at h
   ·rename_i c' hf;simp only [Xs] at h;rcases h with rfl | h
    ·refine ⟨s.ix.toNat,?_,Uw hf⟩;rcases Wy s.ix.toNat fst.length with h | h
     ·exact h
     ·rw [show nth fst s.ix.toNat= [] from by simp [nth,Jk,List.getElem?_eq_none h];rfl] at hf;simp at hf
    ·exact CB d _ c h
   ·exact CB d _ c h
def zPlC : Pln:=⟨true,[],true,[]⟩
def ChoR (x:Inst) (l:List Col) (p:Pln) (c e:Int):Prop:=(8192<l.length/\p=zPlC/\c=0/\e=4)\/(l.length<=8192/\(∃c∈l,rightB x c=false)/\p=zPlC/\c=0/\e=2) \/
 (l.length<=8192/\(∀c∈l,rightB x c=true)/\ ∃ys,Cheap l ys/\ys.length<=l.length/\((HJ x ys<0/\p=zPlC/\c=0/\e=24)\/(0<=HJ x ys/\c=HJ x ys/\e=0 /\
  ∃zs:List Col,zs.Perm (Ye x.orders.length ((Yc x x.orders.length:Nat):Int) x (fstF x.orders.length ys) (skF x x.orders.length) 20 (WY x.orders.length ((Yc x x.orders.length:Nat):Int) zSt)).1/\zs.Pairwise (fun a b=> ¬lE b a<0) /\
   p=⟨false,zs.map (·.route),false,(Ye x.orders.length ((Yc x x.orders.length:Nat):Int) x (fstF x.orders.length ys) (skF x x.orders.length) 20 (WY x.orders.length ((Yc x x.orders.length:Nat):Int) zSt)).2⟩)))
theorem CA {n:Nat} {m:Int} {x:Inst} {fst:List (List Col)} {sk:List Int} : ∀(d:Nat) (s:St),(Ye n m x fst sk d s).1.length<=d/\(Ye n m x fst sk d s).2.length<=d
 | 0,s=>by simp [Ye]
 | d+1,s=>by
  rw [Ye]
  split
  ·simp
  ·split
   ·rename_i c' hf;have:=CA (n:=n) (m:=m) (x:=x) (fst:=fst) (sk:=sk) d (Vg n m s c');simp;omega
   ·have:=CA (n:=n) (m:=m) (x:=x) (fst:=fst) (sk:=sk) d (Cw n m s);simp;omega
theorem SC (x:Inst) (l:List Col) (lc:Bool) (hx:InstOk x) (hn:x.orders.length<=4) (ht:x.types.length<=1048576) (hs: ∀c∈l,c.set<9223372036854775808) (hl:l.length<=1048576) :
  ACalls Tryz.prog 64 [.p (ZF x),.p (.list lc (l.map Yl))] [] fun y H'=> ∃p c e,ChoR x l p c e/\y= .tup [.p (UR p),.p (.int .i64 c),.p (.int .i64 e)]/\H'= []:=by
 refine Zf [16] Tryz.func64 rfl ZgZ ?_;simp (disch:=omega) only [Tryz.f64,go_sem,seval];refine ((RD x l lc hn ht (fun i=>YW Za (Fb hx _)) hs hl).behind (by rfl) _).mono ?_;rintro y H' ⟨y1,H1,hq,rfl,rfl⟩;rcases hq with ⟨h1,rfl,rfl⟩ | ⟨h1,h2,rfl,rfl⟩ | ⟨h1,h2,ys,⟨hC,hyl⟩,rfl,rfl⟩
 ·simp (disch:=omega) only [shV,shVs,Zo,go_sem,seval];exact ⟨.tup [.p (UR zPlC),.p (.int .i64 0),.p (.int .i64 4)],[],Weak.mk (by simp (disch:=omega) only [zPlC,Zo,go_sem,seval]),_,_,_,Or.inl ⟨h1,rfl,rfl,rfl⟩,rfl,rfl⟩
 ·simp (disch:=omega) only [shV,shVs,Zo,go_sem,seval];exact ⟨.tup [.p (UR zPlC),.p (.int .i64 0),.p (.int .i64 2)],[],Weak.mk (by simp (disch:=omega) only [zPlC,Zo,go_sem,seval]),_,_,_,Or.inr (Or.inl ⟨h1,h2,rfl,rfl,rfl⟩),rfl,rfl⟩
 ·have hok:=OJ hx hn hC h2 hs
  have hcl: ∀r∈fstF x.orders.length ys,r.length<=1048576:=fun r hr=>by
   obtain ⟨p,_,rfl⟩:=XD.1 hr
   grind [X7]
  obtain ⟨m,hm⟩: ∃m:Int,m=((Yc x x.orders.length:Nat):Int):=⟨_,rfl⟩;obtain ⟨B,hB⟩: ∃B,B=HJ x ys:=⟨_,rfl⟩;simp (disch:=omega) only [shV,shVs,shO,X0,YP,ZG,Zo,List.replicate,ZY,Xh,go_sem,seval];rw [<- hm];refine ACalls.mono ((E3 x (.list false ((fstF x.orders.length ys).map Y4)) (.list false ((skF x x.orders.length).map eI)) m [] zSt rfl (by decide) Za (by decide)).back [Zj x,.cells [.p (.list true []),.p (.list true [])],.cells (List.replicate 6 .junk)] (by rfl)) ?_;rintro y H' ⟨y1,H1,⟨rfl,rfl⟩,rfl,rfl⟩;obtain ⟨v1,_⟩:=If (m:=m) (sS x.orders.length)
  have hrg:=VE (m:=m) hok 20 _ v1
  have hbb:B=YQ x.orders.length m x (fstF x.orders.length ys) (skF x x.orders.length) 20 (WY x.orders.length m zSt):=by rw [hB,HJ,hm]
  rw [<- hbb] at hrg;obtain ⟨R,hR⟩: ∃R,R=Ye x.orders.length m x (fstF x.orders.length ys) (skF x x.orders.length) 20 (WY x.orders.length m zSt):=⟨_,rfl⟩;obtain ⟨i,w,b0,b1,b2,b3,b4,b5,hw⟩:=Yx v1.len;have hRr:=hR;rw [hw] at hbb v1 hR ⊢;simp (disch:=omega) only [shV,shVs,shO,X0,YP,ZG,Zo,List.replicate,ZY,Xh,go_sem,seval];have c3:=((Dk x (fstF x.orders.length ys) (skF x x.orders.length) false false m Za (by simp [fstF]) (by simp [skF]) hok hcl 20 ⟨i,w,[b0,b1,b2,b3,b4,b5]⟩ [] Za v1 (by have:=v1.ix;omega) (fun p hp=>by simp at hp)).mono (fun y H' hq=>(⟨hq,by obtain ⟨l',_,_,rfl⟩:=hq;rfl⟩:_/\H'.length=(X0 x (.list false ((fstF x.orders.length ys).map Y4)) (.list false ((skF x x.orders.length).map eI)) m []).length))).front (by rfl) (by rfl) [Kt ⟨i,w,[b0,b1,b2,b3,b4,b5]⟩]
  refine ACalls.mono (c3.back [Zj x,.cells [.p (.list true []),.p (.list true [])],.cells (List.replicate 6 .junk)] (by rfl)) ?_;rintro y H' ⟨y1,H1,⟨H2,⟨l',hl',rfl,rfl⟩,rfl⟩,rfl,rfl⟩;rw [<- hbb];simp (disch:=omega) only [shV,shVs,shO,X0,YP,Kt,ZG,Zo,List.replicate,ZY,Xh,go_sem,seval];refine cD ?_ ?_<;>intro h3<;>simp (disch:=omega) only [Sh.out h3,go_sem,seval,↓reduceIte]
  ·exact ⟨.tup [.p (UR zPlC),.p (.int .i64 0),.p (.int .i64 24)],[],Weak.mk (by simp (disch:=omega) only [zPlC,Zo,go_sem,seval]),_,_,_,Or.inr (Or.inr ⟨h1,h2,ys,hC,hyl,Or.inl ⟨Za,rfl,rfl,rfl⟩⟩),rfl,rfl⟩
  ·refine ACalls.mono ((Zbq (Kt ⟨i,w,[b0,b1,b2,b3,b4,b5]⟩) (by intro H n;simp (disch:=omega) only [Kt,ZG,Zo,go_sem,seval]) (by intro o xs;rfl) x (fstF x.orders.length ys) (skF x x.orders.length) false false m Za (by simp [fstF]) (by simp [skF]) hok hcl ⟨i,w,[b0,b1,b2,b3,b4,b5]⟩ l' v1 hl').back [Zj x,.cells [.p (.list true []),.p (.list true [])],.cells (List.replicate 6 .junk)] (by rfl)) ?_;rintro y H' ⟨y1,H1,⟨l2,A,U,hl2,hAU,rfl,rfl⟩,rfl,rfl⟩;rw [<- hR] at hAU;have hlen:=CA (n:=x.orders.length) (m:=m) (x:=x) (fst:=fstF x.orders.length ys) (sk:=skF x x.orders.length) 20 (WY x.orders.length m zSt)
   rw [<- hRr,<- hAU] at hlen
   have hA: ∀c∈A,∃S:Nat,c.set=S/\0<S/\S<16:=fun c hc=>by
    have hc':c∈(Ye x.orders.length m x (fstF x.orders.length ys) (skF x x.orders.length) 20 (WY x.orders.length m zSt)).1:=by grind
    obtain ⟨j,hj,hm2⟩:=CB _ _ _ hc'
    have e:nth (fstF x.orders.length ys) j=X7 ys j:=by
     grind [fstF,Ze]
    rw [e,X7,U3] at hm2;obtain ⟨q,hq,hql,_⟩:=hC.bst c hm2.1
    have hmem:c∈l:=by grind [ZD]
    obtain ⟨S,q1,q2,q3,_⟩:=Jv (h2 c hmem) (hs c hmem);exact ⟨S,q1,q2,Uy q3 (Ys (n:=2) Za hn)⟩
   obtain ⟨L,hL⟩: ∃L:List Cm,L.map Subtype.val=A:=⟨A.pmap (fun c h=>⟨c,h⟩) hA,by simp [List.map_pmap]⟩;subst hL
   have hLl:(L.map Subtype.val).length=L.length:=Zb
   have hLe:(L.map Subtype.val).map Yl=L.map fun c=>Yl c.val:=Zb
   simp only at hlen;rw [hLl] at hlen;simp (disch:=omega) only [shV,shVs,shO,X0,YP,Kt,ZG,Zo,List.replicate,ZY,Xh,hLl,hLe,go_sem,seval];refine ((oQ L Za (H:=_) (o:=7) rfl)).mono ?_;rintro y H' ⟨rfl,zs,hp,hsr,rfl⟩;have hzl:zs.length=L.length:=hp.length_eq;rw [<- hzl] at hlen ⊢;simp (disch:=omega) only [Xo,ZC,go_sem,seval];obtain ⟨Z,hZ⟩: ∃Z,Z=zs.map Subtype.val:=⟨_,rfl⟩
   have hZl:Z.length=zs.length:=by rw [hZ];simp
   have hZe:Z.map Yl=zs.map fun c=>Yl c.val:=by rw [hZ];simp
   rw [<- hZl] at hlen ⊢
   have htl: ∀k,k<=Z.length->(Z.take k).length=k:=fun k hk=>by simp;omega
   refine Zk [4,10,13,45,46] (fun k:Nat=> [(47,.p (.int .i64 k))]) (fun k=> [Zj x,.cells [.p (.list true []),.p (.list true [])],.cells (List.replicate 6 .junk),.map (l2.map (I2 Af)),shO 3 (YP x (.list false ((fstF x.orders.length ys).map Y4)) (.list false ((skF x x.orders.length).map eI)) m),Kt ⟨i,w,[b0,b1,b2,b3,b4,b5]⟩,.cells (List.replicate 8 .junk),.elems 7 (Z.map Yl),.cells [.sl 9 0 k k,.p (.list false (U.map eI))],.elems 4 ((Z.take k).map fun c=>WA c.route)]) (fun k=>k<=Z.length) (fun k=>Z.length-k) 0 Za ((Weak.nilC (o:=8) (j:=0) 4 (by rfl) (by rfl) Zb).trans (Weak.mk ?_)) ?_
   ·simp (disch:=omega) only [hZe,WN,Xo,ZC,Zz,ZQ,XE,Nat.reduceAdd,shV,shVs,shO,YP,Kt,ZG,Zo,List.replicate,ZY,Xh,Zj,go_sem,seval]
   ·intro k hk;simp (disch:=omega) only [shV,shVs,shO,YP,Kt,ZG,Zo,List.replicate,Zj,go_sem,seval];refine cD ?_ ?_<;>intro h4<;>simp (disch:=omega) only [Sh.out h4,go_sem,seval,↓reduceIte]
    ·have hk2:k<Z.length:=Za
     simp (disch:=first | omega | (simp only [Zz,ZQ,Zw,Zv,ZE,ZK]<;>omega)) only [Wn hk2,hk2,go_sem,seval,↓reduceIte]
     have hsc:Z.take (k+1)=Z.take k++ [nth Z k]:=by rw [Xm hk2,Ze hk2]
     rw [if_pos ⟨htl k hk,Za,Za⟩];simp (disch:=omega) only [htl k hk,Zv,Zw,Zz,ZQ,XE,eq_self,W8,go_sem,seval];exact ⟨k+1,Za,Za,Weak.mk (by simp (disch:=omega) only [hsc,XY,ZG,Zo,go_sem,seval])⟩
    ·have hkl:k=Z.length:=Za
     subst hkl;refine Zr (Weak.fz (o:=9) (by rfl)) ?_;refine Zg [] _ _ _ _ ?_;simp (disch:=omega) only [ZG,Zo,Xo,ZC,Yb,go_sem,seval];exact ⟨.tup [.p (UR ⟨false,Z.map (·.route),false,U⟩),.p (.int .i64 B),.p (.int .i64 0)],[],Weak.mk (by simp (disch:=omega) only [List.map_map,Function.comp_def,go_sem,seval]),_,_,_,Or.inr (Or.inr ⟨h1,h2,ys,hC,hyl,Or.inr ⟨Za,hB,rfl,Z,by grind,by rw [hZ];exact List.pairwise_map.2 hsr,by grind⟩⟩),rfl,rfl⟩
def Zlf (x:Inst) (l:List Col) (a e:Int):Prop:=(8192<l.length/\a=0/\e=4)\/(l.length<=8192/\(∃c∈l,rightB x c=false)/\a=0/\e=2) \/
 (l.length<=8192/\(∀c∈l,rightB x c=true)/\ ∃ys,Cheap l ys/\a=(if HJ x ys<0 then 0 else HJ x ys)/\e=(if HJ x ys<0 then 24 else 0))
def ky (l:List Col) (a:Int):Int×Int×Int:=if a<0 then (1,0,0) else (0,(nth l a.toNat).typ,(nth l a.toNat).set)
def dV (a b:Int×Int×Int):Prop:=a.1<b.1\/(a.1=b.1/\(a.2.1<b.2.1\/(a.2.1=b.2.1/\a.2.2<b.2.2)))
def KE (n:Nat) (l:List Col) (a b:List Int):Prop:= ∀t,t<n->ky l (nth a t)=ky l (nth b t)/\nth a t<=nth b t
def KL (n:Nat) (l:List Col) (a b:List Int):Prop:=(∃i,i<n/\(∀t,t<i->ky l (nth a t)=ky l (nth b t))/\dV (ky l (nth a i)) (ky l (nth b i)))\/KE n l a b
def mI (x:Inst):Int:=((Yc x x.orders.length:Nat):Int)
theorem Ev {x:Inst} (hn:x.orders.length<=4) {k:Nat} (hk:k<x.orders.length):sHas (mI x) k= !(nth x.orders k).off:=by
 grind [mI,Wh,Ug]
theorem A6 {n:Nat} {s:St} (h:StV n s) {k:Nat} (hk:k<=62):sHas s.cov k=s.cov.toNat.testBit k:=by
 obtain ⟨C,hC,_⟩:=h.cov
 grind [Wh]
structure Ctx (x:Inst) (l ys:List Col):Prop where
 n4:x.orders.length<=4
 t6:x.types.length<=6
 ch:Cheap l ys
 rt: ∀c∈l,rightB x c=true
 st: ∀c∈l,c.set<9223372036854775808
 ok:ChOk x.orders.length x (fstF x.orders.length ys) (skF x x.orders.length)
 sk: ∀k,k<x.orders.length->(nth x.orders k).off=false->(0<=(nth x.orders k).penalty↔0<=skpF x k)/\(0<=skpF x k->skpF x k=skR x k)
theorem Za8 : ∀S:Fin 16,0<S.val-> ∀k:Fin 4,(Qx S.val=(k.val:Int)↔(S.val.testBit k.val=true/\ ∀i:Fin 4,i.val<k.val->S.val.testBit i.val=false)):=by decide+kernel
theorem CL {S n k:Nat} (hS:0<S) (h:S<2^n) (hn:n<=4) (hk:k<n):Qx S=(k:Int)↔(S.testBit k=true/\ ∀i,i<n->S.testBit i=true->k<=i):=by
 have h16:S<16:=Uy h (Ys (n:=2) Za hn);rw [show Qx S=(k:Int)↔_ from Za8 ⟨S,h16⟩ hS ⟨k,Za⟩];refine and_congr_right fun _=>⟨fun g i hi hb=> ?_,fun g i hi=> ?_⟩
 ·rcases Wy i k with h1 | h1
  ·have:=g ⟨i,Za⟩ h1
   grind
  ·exact h1
 grind
theorem Ctx.set {x:Inst} {l ys:List Col} (h:Ctx x l ys) {c:Col} (hc:c∈l):c.set=(c.set.toNat:Int)/\0<c.set.toNat/\c.set.toNat<2^x.orders.length/\ ∀i,c.set.toNat.testBit i=true->i<x.orders.length/\(nth x.orders i).off=false:=by
 obtain ⟨S,h1,h2,h3,h4⟩:=Jv (h.rt c hc) (h.st c hc)
 grind
theorem Ctx.typ {x:Inst} {l ys:List Col} (h:Ctx x l ys) {c:Col} (hc:c∈l):(0<=c.typ/\c.typ<x.types.length)/\0<=c.price:=by
 have:=h.rt c hc;simp only [rightB,Zt,Zl] at this;omega
structure Nd (x:Inst) (l:List Col) (a:List Int) (s:St) (k:Nat):Prop where
 len:a.length=x.orders.length
 ix:s.ix=k
 v:StV x.orders.length s
 cov: ∀i,i<x.orders.length->s.cov.toNat.testBit i=decide (0<=nth a i)
 rng: ∀i,i<x.orders.length-> -1<=nth a i/\nth a i<l.length
 used: ∀T:Nat,T<6->nth s.used T=usdI l a T x.orders.length
 grp: ∀i,i<x.orders.length->0<=nth a i-> ∀t,t<x.orders.length->(nth l (nth a i).toNat).set.toNat.testBit t=true->nth a t=nth a i
 old: ∀i,i<x.orders.length->k<=i->0<=nth a i-> ∃t,t<k/\(nth l (nth a i).toNat).set.toNat.testBit t=true
 own: ∀i,i<x.orders.length->0<=nth a i->(nth l (nth a i).toNat).set.toNat.testBit i=true
def DD (s:St):St:= { s with ix:=s.ix+1 }
def K4 (s:St) (c:Col):St:=⟨s.ix+1,((s.cov.toNat|||c.set.toNat:Nat):Int),s.used.set c.typ.toNat (nth s.used c.typ.toNat+1)⟩
theorem Nd.skip {x:Inst} {l:List Col} {a:List Int} {s:St} {k:Nat} (h:Nd x l a s k) (hk:k<x.orders.length) (ho:0<=nth a k-> ∃t,t<k/\(nth l (nth a k).toNat).set.toNat.testBit t=true):Nd x l a (DD s) (k+1) :=
 ⟨h.len,by simp only [DD,h.ix];omega,⟨h.v.len,by have:=h.ix;simp only [DD];omega,h.v.cov,h.v.used⟩,h.cov,h.rng,h.used,h.grp,fun i hi hki h0=>by
  obtain ⟨t,h1,h2⟩:=h.old i hi Za h0
  grind,h.own⟩
theorem Nd.skip' {x:Inst} {l:List Col} {a:List Int} {s:St} {k:Nat} (h:Nd x l a s k) (hk:k<x.orders.length):Nd x l a (DD s) (k+1):=h.skip hk fun h0=>h.old k hk (Xg _) h0
theorem Hq {x:Inst} {l ys:List Col} (hc:Ctx x l ys) {a:List Int} {s:St} {k j:Nat} (h:Nd x l a s k) (hk:k<x.orders.length) (hj:j<l.length):Hp x l a j k=true↔(Yp x s (nth l j)=true/\Qx (nth l j).set.toNat=(k:Int)):=by
 obtain ⟨hS,hS0,hS1,hS2⟩:=hc.set (ZD hj);obtain ⟨⟨ht0,ht1⟩,_⟩:=hc.typ (ZD hj);have ht6:=hc.t6;have hu:=h.used (nth l j).typ.toNat Za;rw [show (((nth l j).typ.toNat:Nat):Int)=(nth l j).typ by omega] at hu;rw [CL hS0 hS1 hc.n4 hk];simp only [Hp,Yp,Df,Zt,Zl,Dy,h.len,hu]
 constructor
 ·rintro ⟨h1,h2,h3⟩;refine ⟨⟨Bw fun i=> ?_,h2⟩,h1,fun i hi hb=>(h3 i hi hb).2⟩;rw [Nat.testBit_and,Nat.zero_testBit]
  cases hb:(nth l j).set.toNat.testBit i with
  | false=>simp
  | true =>
   have hi:=(hS2 i hb).1;rw [h.cov i hi,Jg,XJ]
   grind
 ·rintro ⟨⟨h1,h2⟩,h3,h4⟩;refine ⟨h3,h2,fun i hi hb=>⟨?_,h4 i hi hb⟩⟩;have:=XA (fun z=>z.testBit i) h1;simp only [Nat.testBit_and,Nat.zero_testBit,hb,Jg] at this;rw [h.cov i hi,XJ] at this;omega
theorem CO {x:Inst} {l:List Col} {a:List Int} {k:Nat} {S:Nat} {j:Nat} (hl:a.length=x.orders.length) (hk:k<x.orders.length) (hb:S.testBit k=true) (hneg: ∀i,i<x.orders.length->S.testBit i=true->nth a i<0/\k<=i) (hfr: ∀i,i<x.orders.length->S.testBit i=false->nth a i≠(j:Int)) (T:Int) :
  ∀m,m<=x.orders.length->usdI l (Ai S a j) T m=usdI l a T m+(if k<m/\(nth l j).typ=T then 1 else 0)
 | 0,_=>by simp [usdI]
 | i+1,hm=>by
  have hi:i<a.length:=Za
  rw [usdI,usdI,CO hl hk hb hneg hfr T i Za];have ZH: ∀t,t<i->nth (Ai S a j) t=if S.testBit t=true then (j:Int) else nth a t:=fun t ht=>XF Za
  cases hs:S.testBit i with
  | false =>
   have e:Fc l (Ai S a j) T i=Fc l a T i:=by
    rw [Fc,Fc,XF hi,hs,if_neg Zb]
    by_cases h0:0<=nth a i
    ·have ef:Nt (Ai S a j) i=Nt a i:=by
      rw [YY,Bi,Bi,XF hi,hs,if_neg Zb]
      grind
     rw [ef]
    ·simp [h0]
   grind
  | true =>
   obtain ⟨hn,hki⟩:=hneg i Za hs
   have e2:Fc l a T i=false:=by
    simp_all [Fc,YZ]
   have e1:Fc l (Ai S a j) T i=(decide ((nth l j).typ=T)&&decide (k=i)):=by
    rw [Fc,XF hi,hs,if_pos rfl,YJ Za,W9,X3]
    congr 1
    rw [YY,Bi,XF hi,hs,if_pos rfl,Zl]
    grind
   grind
theorem Nd.child {x:Inst} {l ys:List Col} (hc:Ctx x l ys) {a:List Int} {s:St} {k j:Nat} (h:Nd x l a s k) (hk:k<x.orders.length) (hj:j<l.length) (hcan:Hp x l a j k=true):Nd x l (Ai (nth l j).set.toNat a j) (K4 s (nth l j)) (k+1):=by
 obtain ⟨hS,hS0,hS1,hS2⟩:=hc.set (ZD hj);obtain ⟨⟨ht0,ht1⟩,_⟩:=hc.typ (ZD hj);have ht6:=hc.t6;have hl6:s.used.length=6:=h.v.len;have hu:=h.used (nth l j).typ.toNat Za;rw [show (((nth l j).typ.toNat:Nat):Int)=(nth l j).typ by omega] at hu;have hcan':=hcan;simp only [Hp,Zt,Zl,Dy,h.len] at hcan';obtain ⟨hb,hcnt,hneg⟩:=hcan';rw [<- hu] at hcnt;have hcount:=hc.ok.typ.2 (nth l j).typ.toNat Za;have hak:=(hneg k hk hb).1
 have hfr: ∀i,i<x.orders.length->(nth l j).set.toNat.testBit i=false->nth a i≠(j:Int):=fun i hi _ e=>by
  have:=h.grp i hi Za k hk (by grind [X3]);omega
 obtain ⟨C,hC,hC2⟩:=h.v.cov;have hS10:(nth l j).set.toNat<1024:=Uy hS1 (Ys (n:=2) Za (show x.orders.length<=10 by have:=hc.n4;omega));refine ⟨by rw [Kr];exact h.len,by simp only [K4,h.ix];omega,⟨by simp only [StR,K4,BB];exact hl6,by have:=h.ix;simp only [K4];omega,⟨_,rfl,?_⟩,fun t ht=> ?_⟩,fun i hi=> ?_,fun i hi=> ?_,fun T hT=> ?_,fun i hi h0 t ht hbt=> ?_,fun i hi hki h0=> ?_,fun i hi h0=> ?_⟩
 ·rw [hC,X3];exact Qp (n:=10) hC2 hS10
 ·simp only [K4];rw [EE Za]
  split
  ·omega
  ·exact h.v.used t ht
 ·simp only [K4,X3];rw [KW,h.cov i hi,XF (by rw [h.len];exact hi)]
  grind
 ·rw [XF (by rw [h.len];exact hi)]
  split
  ·omega
  ·exact h.rng i hi
 ·simp only [K4];rw [EE Za,CO h.len hk hb hneg hfr T _ (Xg _),h.used T hT]
  grind
 ·rw [XF (i:=i) (by rw [h.len];exact hi)] at h0 hbt ⊢;rw [XF (i:=t) (by rw [h.len];exact ht)]
  cases hbi:(nth l j).set.toNat.testBit i with
  | true =>
   rw [hbi,if_pos rfl,X3] at hbt
   grind
  | false =>
   rw [hbi,if_neg Zb] at h0 hbt;have e:=h.grp i hi h0 t ht hbt
   grind
 ·rw [XF (by rw [h.len];exact hi)] at h0 ⊢
  cases hbi:(nth l j).set.toNat.testBit i with
  | true =>
   rw [if_pos rfl,X3]
   grind
  | false =>
   rw [hbi,if_neg Zb] at h0;rw [if_neg Zb];obtain ⟨t,h1,h2⟩:=h.old i hi Za h0
   grind
 ·rw [XF (by rw [h.len];exact hi)] at h0 ⊢
  cases hbi:(nth l j).set.toNat.testBit i with
  | true=>rw [if_pos rfl,X3];exact hbi
  | false =>
   rw [hbi,if_neg Zb] at h0;rw [if_neg Zb];exact h.own i hi h0
def Lx (x:Inst) (ys:List Col) (D:Nat) (s:St):Int:=YQ x.orders.length (mI x) x (fstF x.orders.length ys) (skF x x.orders.length) D (WY x.orders.length (mI x) s)
theorem TE {x:Inst} {ys:List Col} {D:Nat} {s:St} (h:s.ix=x.orders.length):Lx x ys D s=0:=by
 unfold Lx
 cases D with
 | zero=>rfl
 | succ D =>
  simp_all [YQ,WY,BZ]
theorem CG {n:Nat} {m:Int} {s:St} {k:Nat} (hk:s.ix=k) (hkn:k<n) (hc:sHas m k=false\/sHas s.cov k=true):WY n m s=WY n m (DD s):=by
 simp_all [WY,DD,DC]
theorem CH {n:Nat} {m:Int} {s:St} {k:Nat} (hk:s.ix=k) (h1:sHas m k=true) (h2:sHas s.cov k=false):WY n m s=s:=by
 obtain ⟨i,v,u⟩:=s
 simp_all [WY,CI]
theorem Fe {n:Nat} {m:Int} {s:St} {c:Col} {k:Nat} (hk:s.ix=k) (hkn:k<n) (hn:n<=4) (hb:c.set.toNat.testBit k=true):Vg n m s c=WY n m (K4 s c):=by
 have e:=CG (n:=n) (m:=m) (s:=⟨s.ix,((s.cov.toNat|||c.set.toNat:Nat):Int),s.used.set c.typ.toNat (nth s.used c.typ.toNat+1)⟩) (k:=k) hk hkn (.inr (by
  simp only
  rw [Wh _ _ Za,KW,hb,Bool.or_true]))
 exact e
theorem Kj {x:Inst} {l ys:List Col} (hc:Ctx x l ys) {k:Nat} (hk:k<x.orders.length) {c:Col} (hm:c∈X7 ys k):c∈ys/\c∈l/\Qx c.set.toNat=(k:Int)/\c.set.toNat.testBit k=true:=by
 rw [X7,U3,Zl] at hm;have hl:=aL hc.ch hm.1;obtain ⟨_,h0,h1,_⟩:=hc.set hl;exact ⟨hm.1,hl,hm.2,((CL h0 h1 hc.n4 hk).1 hm.2).1⟩
theorem MP {x:Inst} {l ys:List Col} (hc:Ctx x l ys) {D:Nat} (hD:10<D) {s:St} {k:Nat} (hv:StV x.orders.length s) (hk:s.ix=k) (hkn:k<x.orders.length) (ho:(nth x.orders k).off=false) (hcv:s.cov.toNat.testBit k=false) :
  Lx x ys D s=if 0<=skpF x k then YF ((X7 ys k).foldl (fun o c=>if Yp x s c=true then YF o c.price (Lx x ys D (K4 s c)) else o) (-1)) (skpF x k) (Lx x ys D (DD s)) else (X7 ys k).foldl (fun o c=>if Yp x s c=true then YF o c.price (Lx x ys D (K4 s c)) else o) (-1):=by
 have hn:=hc.n4
 have e1:Lx x ys D s=YQ x.orders.length (mI x) x (fstF x.orders.length ys) (skF x x.orders.length) (D+1) s:=by
  rw [Lx,CH hk (by grind [Ev]) (by grind [A6])];exact QJ hc.ok _ _ s hv Za Za
 rw [e1,YQ,if_neg Za]
 have e2:nth (fstF x.orders.length ys) s.ix.toNat=X7 ys k:=by simp_all [LI]
 have e3:nth (skF x x.orders.length) s.ix.toNat=skpF x k:=by grind [skF,Ze]
 have e4:(X7 ys k).foldl (fun o c=>if Yp x s c=true then YF o c.price (YQ x.orders.length (mI x) x (fstF x.orders.length ys) (skF x x.orders.length) D (Vg x.orders.length (mI x) s c)) else o) (-1)=(X7 ys k).foldl (fun o c=>if Yp x s c=true then YF o c.price (Lx x ys D (K4 s c)) else o) (-1) :=
  Q8 fun c hm o=>by rw [Fe hk hkn hn (Kj hc hkn hm).2.2.2];rfl
 simp only [e2,e3,e4]
 rfl
def Kq (x:Inst) (ys:List Col) (D:Nat) (s:St) (c:Col):Bool:=Yp x s c&&(decide (0<=Lx x ys D (K4 s c))&&decide (c.price+Lx x ys D (K4 s c)=Lx x ys D s))
noncomputable def AL (l:List Col) (d:Col):Nat:=open Classical in if h:Bst l l.length d then h.choose else 0
theorem Py {l:List Col} {d:Col} (h:Bst l l.length d):AL l d<l.length/\nth l (AL l d)=d/\ ∀i,i<l.length->kd (nth l i)=kd d->d.price<(nth l i).price\/(d.price=(nth l i).price/\AL l d<=i):=by
 have e:AL l d=h.choose:=by rw [AL,dif_pos h]
 grind
noncomputable def gr (x:Inst) (l ys:List Col) (D:Nat):Nat->Nat->St->List Int->List Int
 | 0,_,_,a=>a
 | d+1,k,s,a=>if (nth x.orders k).off=true\/0<=nth a k then gr x l ys D d (k+1) (DD s) a else
  match (X7 ys k).find? (Kq x ys D s) with
  | some c=>gr x l ys D d (k+1) (K4 s c) (Ai c.set.toNat a (AL l c))
  | none=>gr x l ys D d (k+1) (DD s) a
theorem Js {x:Inst} {l ys:List Col} (hc:Ctx x l ys) {a:List Int} {s:St} {k:Nat} (h:Nd x l a s k) (hk:k<x.orders.length) {c:Col} (hm:c∈X7 ys k) (hy:Yp x s c=true):AL l c<l.length/\nth l (AL l c)=c/\Hp x l a (AL l c) k=true:=by
 obtain ⟨h1,h2,h3,h4⟩:=Kj hc hk hm;obtain ⟨p1,p2,_⟩:=Py (hc.ch.bst c h1)
 grind [Hq]
theorem KF {x:Inst} {l:List Col} {a:List Int} {k j:Nat} (hl:a.length=x.orders.length) (hcan:Hp x l a j k=true):(nth l j).set.toNat.testBit k=true/\ ∀t,t<x.orders.length->(t<k\/0<=nth a t)->nth (Ai (nth l j).set.toNat a j) t=nth a t:=by
 simp only [Hp,Zt,Dy,hl] at hcan
 grind [XF]
theorem Cj {x:Inst} {l ys:List Col} (hc:Ctx x l ys) {D:Nat} : ∀(d k:Nat) (s:St) (a:List Int),k+d=x.orders.length->Nd x l a s k->(gr x l ys D d k s a).length=x.orders.length/\ ∀t,t<x.orders.length->(t<k\/0<=nth a t)->nth (gr x l ys D d k s a) t=nth a t
 | 0,k,s,a,_,h=>⟨h.len,fun _ _ _=>rfl⟩
 | d+1,k,s,a,hd,h=>by
  have hk:k<x.orders.length:=Za
  rw [gr];have skip:=Cj hc (D:=D) d (k+1) (DD s) a Za (h.skip' hk)
  split
  ·grind
  ·split
   ·rename_i c hf;have hsel:=Jr hf;simp only [Kq,Zt] at hsel;obtain ⟨p1,p2,p3⟩:=Js hc h hk (Uw hf) hsel.1;have hch:=h.child hc hk p1 p3;rw [p2] at hch;have ho:=(KF h.len p3).2;rw [p2] at ho;obtain ⟨g1,g2⟩:=Cj hc (D:=D) d (k+1) (K4 s c) _ Za hch;refine ⟨g1,fun t ht hh=> ?_⟩
    rw [g2 t ht (by
     rcases hh with h1 | h1
     ·left;omega
     ·right;rw [ho t ht (.inr h1)];exact h1),ho t ht hh]
   grind
theorem K2 {x:Inst} {l:List Col} : ∀(d:Nat) (a:List Int) (p:Int),d<=x.orders.length->a.length=x.orders.length-> ∀q∈Fl x l d a p,q.1.length=x.orders.length/\ ∀t,t<x.orders.length->(t<x.orders.length-d\/0<=nth a t)->nth q.1 t=nth a t
 | 0,a,p,_,h,q,hq=>by
  simp only [Fl,Xs,Jd,or_false] at hq
  grind
 | d+1,a,p,hd,h,q,hq=>by
  rw [Fl] at hq
  split at hq
  ·obtain ⟨g1,g2⟩:=K2 d a p Za h q hq;exact ⟨g1,fun t ht hh=>g2 t ht (hh.imp Za id)⟩
  ·rw [Xr,We] at hq;rcases hq with ⟨j,hj,hq⟩ | hq
   ·split at hq
    ·rename_i hcan;have ho:=(KF h hcan).2;obtain ⟨g1,g2⟩:=K2 d _ _ Za (by rw [Kr];exact h) q hq;refine ⟨g1,fun t ht hh=> ?_⟩
     rw [g2 t ht (by
      rcases hh with h1 | h1
      ·left;omega
      ·right;rw [ho t ht (.inr h1)];exact h1),ho t ht hh]
    ·simp at hq
   ·split at hq
    ·obtain ⟨g1,g2⟩:=K2 d a _ Za h q hq;exact ⟨g1,fun t ht hh=>g2 t ht (hh.imp Za id)⟩
    ·simp at hq
theorem KE.refl {n:Nat} {l:List Col} {a:List Int} :KE n l a a:=fun _ _=>⟨rfl,Int.le_refl _⟩
theorem Za4 {l:List Col} {a:Int} (h:a<0):ky l a=(1,0,0):=if_pos h
theorem HG {l:List Col} {a:Int} (h:0<=a):ky l a=(0,(nth l a.toNat).typ,(nth l a.toNat).set):=if_neg Za
theorem Zha {l:List Col} {i j:Nat} :ky l (i:Int)=ky l (j:Int)↔kd (nth l i)=kd (nth l j):=by
 grind [HG,kd]
theorem cP {x:Inst} {s:St} {r:Col->Int} {ls:List Col} (hp: ∀c∈ls,0<=c.price) (hr: ∀c∈ls,Yp x s c=true-> -1<=r c) {c:Col} (hc:c∈ls) (hy:Yp x s c=true) (h0:0<=r c) :
  Ty (ls.foldl (fun o c=>if Yp x s c=true then YF o c.price (r c) else o) (-1)) (c.price+r c):=by
 have e:=Q8 (f:=fun o c=>if Yp x s c=true then YF o c.price (r c) else o) (g:=fun o c=>if Yp x s c=true then YF o c.price (max (-1) (r c)) else o) (l:=ls) (b:=(-1:Int)) fun c hc o=>by
  grind
 rw [e];have:=(OY (x:=x) (s:=s) (r:=fun c=>max (-1) (r c)) (fun c=>Za) (l:=ls) (a:= -1) hp).2 c hc hy Za
 grind
theorem MQ {x:Inst} {l ys:List Col} (hc:Ctx x l ys) {D:Nat} {s:St} (hv:StV x.orders.length s): -1<=Lx x ys D s:=(VE (m:=mI x) hc.ok D _ (If hv).1).1
theorem OH {o p r:Int} (hr: -1<=r) (hp:0<=p):Ty (YF o p r) o/\(0<=r->Ty (YF o p r) (p+r)):=by
 grind [Ty,YF]
theorem sW {x:Inst} {l ys:List Col} (hc:Ctx x l ys) {D:Nat} (hD:10<D) {a:List Int} {s:St} {k:Nat} (h:Nd x l a s k) (hk:k<x.orders.length) (ho:(nth x.orders k).off=false) (hak:nth a k<0) {c:Col} (hm:c∈X7 ys k) (hy:Yp x s c=true) (h0:0<=Lx x ys D (K4 s c)) :
  Ty (Lx x ys D s) (c.price+Lx x ys D (K4 s c)):=by
 have hcv:s.cov.toNat.testBit k=false:=by rw [h.cov k hk];grind
 rw [MP hc hD h.v h.ix hk ho hcv]
 have nd: ∀e∈X7 ys k,Yp x s e=true->StV x.orders.length (K4 s e):=fun e he hye=>by
  obtain ⟨p1,p2,p3⟩:=Js hc h hk he hye;have:=(h.child hc hk p1 p3).v
  grind
 have low:=cP (x:=x) (s:=s) (r:=fun c=>Lx x ys D (K4 s c)) (ls:=X7 ys k) (fun e he=>(hc.typ (Kj hc hk he).2.1).2) (fun e he hye=>MQ hc (nd e he hye)) hm hy h0
 split
 ·rename_i hs;have b:=(OH (o:=(X7 ys k).foldl (fun o c=>if Yp x s c=true then YF o c.price (Lx x ys D (K4 s c)) else o) (-1)) (MQ hc (D:=D) (h.skip' hk).v) hs).1
  grind [Ty]
 ·exact low
theorem jS {x:Inst} {l ys:List Col} (hc:Ctx x l ys) {D:Nat} (hD:10<D) {a:List Int} {s:St} {k:Nat} (h:Nd x l a s k) (hk:k<x.orders.length) (ho:(nth x.orders k).off=false) (hak:nth a k<0) (hs:0<=skpF x k) (h0:0<=Lx x ys D (DD s)) :
  Ty (Lx x ys D s) (skpF x k+Lx x ys D (DD s)):=by
 have hcv:s.cov.toNat.testBit k=false:=by rw [h.cov k hk];grind
 rw [MP hc hD h.v h.ix hk ho hcv,if_pos hs]
 grind [OH]
theorem Om {x:Inst} {l ys:List Col} (hc:Ctx x l ys) {D:Nat} {a:List Int} {s:St} {k:Nat} (h:Nd x l a s k) (hk:k<x.orders.length) (ho:(nth x.orders k).off=true\/0<=nth a k):Lx x ys D s=Lx x ys D (DD s):=by
 unfold Lx;rw [CG h.ix hk (ho.imp (fun e=>by rw [Ev hc.n4 hk,e];rfl) fun e=>by rw [A6 h.v (by have:=hc.n4;omega),h.cov k hk];grind)]
theorem Bj {x:Inst} {l ys:List Col} (hc:Ctx x l ys) {D:Nat} (hD:10<D): ∀(d k:Nat) (s:St) (a b:List Int) (p:Int),k+d=x.orders.length->Nd x l a s k->Nd x l b s k->KE x.orders.length l a b-> ∀q∈Fl x l d b p,
  0<=Lx x ys D s/\p+Lx x ys D s<=q.2/\(q.2=p+Lx x ys D s->KL x.orders.length l (gr x l ys D d k s a) q.1)
 | 0,k,s,a,b,p,hd,ha,hb,he,q,hq=>by
  simp only [Fl,Xs,Jd,or_false] at hq;subst hq;rw [TE (by rw [ha.ix];omega)];exact ⟨Za,Zb,fun _=> .inr he⟩
 | d+1,k,s,a,b,p,hd,ha,hb,he,q,hq=>by
  have hk:k<x.orders.length:=Za
  have hkd:x.orders.length-(d+1)=k:=Za
  have hneg: ∀t,t<x.orders.length->(0<=nth a t↔0<=nth b t):=fun t ht=>by
   have h1:=ha.cov t ht;rw [hb.cov t ht,decide_eq_decide] at h1;exact h1.symm
  rw [Fl,hkd] at hq;rw [gr]
  split at hq
  ·rename_i ho;have ho':(nth x.orders k).off=true\/0<=nth a k:=ho.imp id (hneg k hk).2;rw [if_pos ho',Om hc ha hk ho'];exact Bj hc hD d (k+1) (DD s) a b p Za (ha.skip' hk) (hb.skip' hk) he q hq
  ·rename_i ho;have ho': ¬((nth x.orders k).off=true\/0<=nth a k):=fun g=>ho (g.imp id (hneg k hk).1);rw [if_neg ho']
   have hoff:(nth x.orders k).off=false:=by
    grind
   have hbk:nth b k<0:=Ji.1 fun g=>ho (.inr g);have hak:nth a k<0:=Ji.1 fun g=>ho' (.inr g)
   -- what was picked stands at k
   have hpick: ∀c,(X7 ys k).find? (Kq x ys D s)=some c->Yp x s c=true/\c∈ys/\(∀t,t<k->nth (gr x l ys D d (k+1) (K4 s c) (Ai c.set.toNat a (AL l c))) t=nth a t)/\nth (gr x l ys D d (k+1) (K4 s c) (Ai c.set.toNat a (AL l c))) k=AL l c/\nth l (AL l c)=c:=fun c hf=>by
    have hsel:=Jr hf;simp only [Kq,Zt] at hsel;obtain ⟨p1,p2,p3⟩:=Js hc ha hk (Uw hf) hsel.1;have hch:=ha.child hc hk p1 p3;obtain ⟨c1,c2⟩:=KF ha.len p3;rw [p2] at hch c1 c2;have g2:=(Cj hc (D:=D) d (k+1) (K4 s c) _ Za hch).2;refine ⟨hsel.1,(Kj hc hk (Uw hf)).1,fun t ht=> ?_,?_,p2⟩
    ·grind
    ·rw [g2 k hk (.inl Za),XF (by rw [ha.len];exact hk),if_pos c1]
   rw [Xr,We] at hq;rcases hq with ⟨j,hj,hq⟩ | hq
   ·have hj:=ZL.1 hj
    split at hq
    ·rename_i hcan;obtain ⟨hy,htz⟩:=(Hq hc hb hk hj).1 hcan;have hjl:=ZD hj;obtain ⟨d',hd',hkd',hpr⟩:=aM hc.ch hjl
     have hst:d'.set=(nth l j).set/\d'.typ=(nth l j).typ:=by
      grind [kd]
     have hm:d'∈X7 ys k:=by
      simp_all [X7]
     have hy':Yp x s d'=true:=by grind [Yp]
     have hnx:K4 s d'=K4 s (nth l j):=by grind [K4]
     have hcb:=hb.child hc hk hj hcan;obtain ⟨cb1,cb2⟩:=KF hb.len hcan;have hqo:=(K2 d _ _ Za (by rw [Kr];exact hb.len) q hq).2
     have hqt: ∀t,t<k->nth q.1 t=nth b t:=fun t ht=>by rw [hqo t Za (.inl Za),cb2 t Za (.inl ht)]
     have hqk:nth q.1 k=j:=by rw [hqo k hk (.inl Za),XF (by rw [hb.len];exact hk),if_pos cb1]
     obtain ⟨i1,i2,_⟩:=Bj hc hD d (k+1) _ _ _ _ Za hcb hcb KE.refl q hq;rw [<- hnx] at i1 i2;have hle:=sW hc hD ha hk hoff hak hm hy' i1;have hp0:=(hc.typ (Kj hc hk hm).2.1).2
     have hL0:0<=Lx x ys D s/\Lx x ys D s<=d'.price+Lx x ys D (K4 s d'):=by
      rcases hle with h | h
      ·-- the least price would be lacking: not so, azs the column leads on
       omega
      ·exact h
     refine ⟨hL0.1,Za,fun hqc=> ?_⟩
     have hpe:d'.price=(nth l j).price:=Za
     have hLe:d'.price+Lx x ys D (K4 s d')=Lx x ys D s:=Za
     have hsel:Kq x ys D s d'=true:=by simp_all [Kq]
     have hpos:=Py (hc.ch.bst d' hd')
     have hpj:AL l d'<=j:=by
      rcases hpos.2.2 j hj hkd'.symm with h | h
      ·omega
      ·exact h.2
     cases hf:(X7 ys k).find? (Kq x ys D s) with
     | none=>rw [KQ] at hf;simp_all
     | some c =>
      obtain ⟨k1,k2,k3,k4,k5⟩:=hpick c hf;simp only
      by_cases hcd:c=d'
      ·subst hcd;obtain ⟨p1,p2,p3⟩:=Js hc ha hk hm hy';have hca:=ha.child hc hk p1 p3;rw [p2] at hca;rw [<- hnx] at hcb;refine (Bj hc hD d (k+1) _ _ _ _ Za hca hcb (fun t ht=> ?_) q hq).2.2 Za;rw [hst.1,XF (by rw [ha.len];exact ht),XF (by rw [hb.len];exact ht)]
       cases hbt:(nth l j).set.toNat.testBit t with
       | true =>
        rw [if_pos rfl,if_pos rfl,Zha,p2]
        grind
       | false =>
        rw [if_neg Zb,if_neg Zb];exact he t ht
      ·-- an earlier kind
       have hlt:cfK c d'<0:=by
        have hpw:(X7 ys k).Pairwise fun a b=>cfK a b<0:=hc.ch.asc.filter _;obtain ⟨_,u,w,hab,hno⟩:=List.find?_eq_some_iff_append.1 hf;rw [hab] at hpw hm;rw [Bv,List.pairwise_cons] at hpw;rcases Xr.1 hm with h | h
        ·have:=hno d' h
         grind
        ·rcases Xs.1 h with h | h
         ·grind
         ·exact hpw.2.1.1 d' h
       rw [D4] at hlt;refine .inl ⟨k,hk,fun t ht=> ?_,?_⟩
       ·rw [k3 t ht,hqt t ht];exact (he t Za).1
       ·rw [k4,hqk,HG Za,HG Za,X3,X3,k5]
        right
        grind
    ·simp at hq
   ·split at hq
    ·rename_i hpen;obtain ⟨s1,s2⟩:=hc.sk k hk hoff;have hs0:=s1.1 hpen;have hse:=s2 hs0;rw [<- hse] at hq;have hqo:=(K2 d _ _ Za hb.len q hq).2;obtain ⟨i1,i2,i3⟩:=Bj hc hD d (k+1) (DD s) a b _ Za (ha.skip' hk) (hb.skip' hk) he q hq;have hle:=jS hc hD ha hk hoff hak hs0 i1;have hrg:=MQ hc (D:=D) ha.v
     have hL0:0<=Lx x ys D s/\Lx x ys D s<=skpF x k+Lx x ys D (DD s):=by
      rcases hle with h | h
      ·omega
      ·exact h
     refine ⟨hL0.1,Za,fun hqc=> ?_⟩
     cases hf:(X7 ys k).find? (Kq x ys D s) with
     | none=>grind
     | some c =>
      obtain ⟨k1,k2,k3,k4,k5⟩:=hpick c hf;simp only;refine .inl ⟨k,hk,fun t ht=> ?_,?_⟩
      ·rw [k3 t ht,hqo t Za (.inl Za)];exact (he t Za).1
      ·rw [k4,hqo k hk (.inl Za),HG Za,Za4 hbk]
       left;omega
    ·simp at hq
theorem iV {x:Inst} {S:Nat} (hn:x.orders.length<=4) (hS:S<9223372036854775808):Oh S (Yc x x.orders.length)=(decide (S<2^x.orders.length)&&(List.range x.orders.length).all fun i=> !(S.testBit i&&(nth x.orders i).off)):=by
 rw [YY,Zt,Zl,Oh,Zy,Zy]
 constructor
 ·intro h
  have key: ∀i,S.testBit i=true->i<x.orders.length/\(nth x.orders i).off=false:=fun i hi=>by
   have h63:i<63:=by
    rcases Wy i 63 with h | h
    ·exact h
    ·have:2^63<=2^i:=Ys Za h
     grind [Cq]
   grind [Ug]
  refine ⟨Nat.lt_pow_two_of_testBit _ fun i hi=> ?_,fun i _=> ?_⟩
  ·grind
  grind
 ·rintro ⟨h1,h2⟩ i _
  cases hb:S.testBit i with
  | false=>rfl
  | true =>
   have hi:i<x.orders.length:=by
    rcases Wy i x.orders.length with h | h
    ·exact h
    ·have:2^x.orders.length<=2^i:=Ys Za h
     grind [Cq]
   have:=h2 i (ZL.2 hi)
   simp_all [Ug]
def zCh : Chc:=⟨false,[],0⟩
def MW (x:Inst) (l:List Col):Chc:=(Fl x l x.orders.length (List.replicate x.orders.length (-1)) 0).foldl (MA l) zCh
def jR (x:Inst) (l:List Col) (b:Chc) (e:Int):Prop:=(8192<l.length/\b=zCh/\e=4)\/(l.length<=8192/\(∃c∈l,rightB x c=false)/\b=zCh/\e=2) \/
 (l.length<=8192/\(∀c∈l,rightB x c=true)/\(((MW x l).found=false/\b=zCh/\e=24)\/((MW x l).found=true/\b=MW x l/\e=0)))
theorem Pq {n i:Nat} (h:i<n):nth (List.replicate n (-1:Int)) i= -1:=by
 grind [Ze]
theorem dW {l:List Col} {x y:Int} (hx: -1<=x) (hy: -1<=y) (h:ky l x=ky l y):(x<0->x=y)/\(y<0->x=y)/\(0<=x->0<=y/\(nth l x.toNat).typ=(nth l y.toNat).typ/\(nth l x.toNat).set=(nth l y.toNat).set):=by
 unfold ky at h
 grind
theorem Cd {l:List Col} : ∀ {a b:List Int},a.length=b.length->(∀t,t<a.length-> -1<=nth a t/\ -1<=nth b t/\ky l (nth a t)=ky l (nth b t))->Az l a b=none
 | [],[],_,_=>T9
 | [],_::_,h,_=>by simp at h
 | _::_,[],h,_=>by simp at h
 | x::a,y::b,hl,h=>by
  have ih:=Cd (l:=l) (a:=a) (b:=b) (by grind) fun t ht=>h (t+1) (by grind);obtain ⟨h1,h2,h3⟩:=h 0 Zb;obtain ⟨k1,k2,k3⟩:=dW (show-1<=x from h1) (show-1<=y from h2) h3;rw [Az]
  grind
theorem OE {l:List Col} : ∀ {a b:List Int} {i:Nat},a.length=b.length->i<a.length->(∀t,t<a.length-> -1<=nth a t/\ -1<=nth b t)->(∀t,t<i->ky l (nth a t)=ky l (nth b t))->dV (ky l (nth a i)) (ky l (nth b i))->Az l a b=some true/\Az l b a=some false
 | [],_,_,_,h,_,_,_=>by simp at h
 | _::_,[],_,h,_,_,_,_=>by simp at h
 | x::a,y::b,0,_,_,hr,_,h=>by
  obtain ⟨h1,h2⟩:=hr 0 Zb;have h':dV (ky l x) (ky l y):=h
  have hne:x≠y:=fun e=>by grind [dV]
  rw [Az,Az,if_neg hne,if_neg (Ne.symm hne)];unfold ky dV at h'
  grind
 | x::a,y::b,i+1,hl,hi,hr,he,h=>by
  have ih:=OE (l:=l) (a:=a) (b:=b) (i:=i) (by grind) (by grind) (fun t ht=>hr (t+1) (by grind)) (fun t ht=>he (t+1) Za) h;obtain ⟨h1,h2⟩:=hr 0 Zb;have h3:ky l x=ky l y:=he 0 Za;obtain ⟨k1,k2,k3⟩:=dW (show-1<=x from h1) (show-1<=y from h2) h3;rw [Az,Az]
  grind
theorem OF : ∀ {a b:List Int},a.length=b.length->(∀t,t<a.length->nth a t<=nth b t)->a=b\/(M7 a b=true/\M7 b a=false)
 | [],[],_,_=> .inl rfl
 | [],_::_,h,_=>by simp at h
 | _::_,[],h,_=>by simp at h
 | x::a,y::b,hl,h=>by
  have h0:x<=y:=h 0 Zb;rw [M7,M7]
  by_cases hxy:x=y
  ·subst hxy;rw [if_pos rfl,if_pos rfl];rcases OF (a:=a) (b:=b) (by grind) (fun t ht=>h (t+1) (by grind)) with e | e
   ·grind
   grind
  grind
theorem sV {x:Inst} {l:List Col} {a b:List Int} (ha:RngA x l a) (hb:RngA x l b) (h:KL x.orders.length l a b):a=b\/(Hg l a b=true/\Hg l b a=false):=by
 have hl:a.length=b.length:=by rw [ha.1,hb.1]
 have hr: ∀t,t<a.length-> -1<=nth a t/\ -1<=nth b t:=fun t ht=>⟨(ha.2 t (by rw [<- ha.1];exact ht)).1,(hb.2 t (by rw [<- ha.1];exact ht)).1⟩;rcases h with ⟨i,hi,he,hlt⟩ | h
 ·obtain ⟨h1,h2⟩:=OE hl (by rw [ha.1];exact hi) hr he hlt
  grind [Rt]
 ·have h1:=Cd (l:=l) hl fun t ht=>⟨(hr t ht).1,(hr t ht).2,(h t (by rw [<- ha.1];exact ht)).1⟩;have h2:=Cd (l:=l) hl.symm fun t ht=>⟨(hr t Za).2,(hr t Za).1,((h t (by rw [<- hb.1];exact ht)).1).symm⟩;rcases OF hl fun t ht=>(h t (by rw [<- ha.1];exact ht)).2 with e | ⟨e1,e2⟩
  ·exact .inl e
  grind [Rs]
def Prf (l:List Col) (P:List Int) (W:Int) (q:List Int×Int):Prop:=W<=q.2/\(q.2=W->P=q.1\/(Hg l P q.1=true/\Hg l q.1 P=false))
theorem MC {l:List Col} {P:List Int} {W:Int} : ∀ {L:List (List Int×Int)},(∀q∈L,Prf l P W q)->L.foldl (MA l) ⟨true,P,W⟩=⟨true,P,W⟩
 | [],_=>rfl
 | q::L,h=>by
  have e:MA l ⟨true,P,W⟩ q=⟨true,P,W⟩:=by
   obtain ⟨h1,h2⟩:=h q Zb;unfold MA
   split
   ·rename_i hc;rcases hc with hc | hc | ⟨hc,hd⟩
    ·cases hc
    ·simp only at hc;omega
    ·simp only at hc hd;rcases h2 hc with e | ⟨_,e⟩
     ·rw [<- e,hc]
     ·rw [e] at hd;cases hd
   ·rfl
  rw [Yt,e];exact MC fun q hq=>h q (Ym _ hq)
theorem GP {l:List Col} {P:List Int} {W:Int} : ∀ {L:List (List Int×Int)} {b:Chc},(b.found=false\/Prf l P W (b.places,b.price))->(∀q∈L,Prf l P W q)->(P,W)∈L->L.foldl (MA l) b=⟨true,P,W⟩
 | [],_,_,_,hm=>by simp at hm
 | q::L,b,hb,h,hm=>by
  rw [Yt];have hq:=h q Zb;have hL: ∀q∈L,Prf l P W q:=fun q hq=>h q (Ym _ hq)
  by_cases e:q=(P,W)
  ·have:MA l b q=⟨true,P,W⟩:=by
    subst e;unfold MA
    split
    ·rfl
    ·rename_i hc;rcases hb with hb | ⟨h1,h2⟩
     ·grind
     ·simp only at h1 h2 hc
      have h3:b.price=W:=by
       omega
      rcases h2 h3 with e | ⟨e,_⟩
      ·obtain ⟨f,bp,bc⟩:=b
       grind
      grind
   grind [MC]
  ·refine GP ?_ hL (by
    rcases Xs.1 hm with h | h
    ·exact absurd h.symm e
    ·exact h)
   unfold MA
   split
   ·exact .inr hq
   ·exact hb
theorem Ll {x:Inst} {l ys:List Col} (hc:Ctx x l ys) {D:Nat} (hD:10<D): ∀(d k:Nat) (s:St) (a:List Int) (p:Int),k+d=x.orders.length->Nd x l a s k->0<=Lx x ys D s->(gr x l ys D d k s a,p+Lx x ys D s)∈Fl x l d a p
 | 0,k,s,a,p,hd,ha,h0=>by
  rw [TE (by rw [ha.ix];omega),VR,gr,Fl];simp
 | d+1,k,s,a,p,hd,ha,h0=>by
  have hk:k<x.orders.length:=Za
  have hkd:x.orders.length-(d+1)=k:=Za
  rw [Fl,hkd,gr]
  split
  ·rename_i ho;rw [Om hc ha hk ho] at h0 ⊢;exact Ll hc hD d (k+1) _ a p Za (ha.skip' hk) h0
  ·rename_i ho
   have hoff:(nth x.orders k).off=false:=by
    cases e:(nth x.orders k).off with
    | false=>rfl
    | true=>exact absurd (.inl e) ho
   have hak:nth a k<0:=Ji.1 fun g=>ho (.inr g)
   have hcv:s.cov.toNat.testBit k=false:=by rw [ha.cov k hk];exact YZ Za
   rw [Xr,We]
   cases hf:(X7 ys k).find? (Kq x ys D s) with
   | some c =>
    left
    have hsel:=Jr hf;simp only [Kq,Zt,Zl] at hsel;obtain ⟨p1,p2,p3⟩:=Js hc ha hk (Uw hf) hsel.1;have hch:=ha.child hc hk p1 p3;rw [p2] at hch;refine ⟨AL l c,ZL.2 p1,?_⟩;rw [if_pos p3,p2];have:=Ll hc hD d (k+1) _ _ (p+c.price) Za hch hsel.2.1;rw [show p+c.price+Lx x ys D (K4 s c)=p+Lx x ys D s by omega] at this;exact this
   | none =>
    right
    rw [KQ] at hf;have hdec:=MP hc hD ha.v ha.ix hk hoff hcv;have hno: ∀c∈X7 ys k,Yp x s c=true->0<=Lx x ys D (K4 s c)->c.price+Lx x ys D (K4 s c)≠Lx x ys D s:=fun c hm hy hL e=>hf c hm (by simp only [Kq,hy,YJ hL,YJ e,Bool.and_self]);obtain ⟨s1,s2⟩:=hc.sk k hk hoff;have hfold:=Gb (x:=x) (s:=s) (r:=fun c=>Lx x ys D (K4 s c)) (l:=X7 ys k) (a:= -1)
    by_cases hs:0<=skpF x k
    ·rw [if_pos (s1.2 hs),<- s2 hs];rw [if_pos hs] at hdec;unfold YF at hdec
     split at hdec
     ·rename_i hb;have:=Ll hc hD d (k+1) _ a (p+skpF x k) Za (ha.skip' hk) hb.1;rw [show p+skpF x k+Lx x ys D (DD s)=p+Lx x ys D s by omega] at this;exact this
     ·exfalso;rcases hfold with e | ⟨c,h1,h2,h3,h4⟩
      ·unfold YF at e;omega
      ·exact hno c h1 h2 h3 (by rw [hdec];exact h4.symm)
    ·exfalso;rw [if_neg hs] at hdec;rcases hfold with e | ⟨c,h1,h2,h3,h4⟩
     ·omega
     ·exact hno c h1 h2 h3 (by rw [hdec];exact h4.symm)
def jQ (l:List Col) (g:List Int) (T:Nat):Nat->List Col
 | 0=> []
 | i+1=>jQ l g T i++(if 0<=nth g i/\(nth l (nth g i).toNat).typ=T/\(nth l (nth g i).toNat).set%(pw i:Nat)=0 then [nth l (nth g i).toNat] else [])
def gW (l:List Col) (g:List Int) (n:Nat):Nat->List Col
 | 0=> []
 | T+1=>gW l g n T++jQ l g T n
def unI (x:Inst) (g:List Int):Nat->List Int
 | 0=> []
 | i+1=>unI x g i++(if nth g i<0/\(nth x.orders i).off=false then [(i:Int)] else [])
theorem PB {l:List Col} {g:List Int} {T:Nat} : ∀k,(jQ l g T k).length<=k
 | 0=>Xg _
 | k+1=>by
  have:=PB (l:=l) (g:=g) (T:=T) k;rw [jQ,Zw];split<;>simp<;>omega
theorem PE {l:List Col} {g:List Int} {n:Nat} : ∀T,(gW l g n T).length<=T*n
 | 0=>by simp [gW]
 | T+1=>by
  have:=PE (l:=l) (g:=g) (n:=n) T;have:=PB (l:=l) (g:=g) (T:=T) n;rw [gW,Zw,XN];omega
theorem PX {x:Inst} {g:List Int} : ∀k,(unI x g k).length<=k
 | 0=>Xg _
 | k+1=>by
  have:=PX (x:=x) (g:=g) k;rw [unI,Zw];split<;>simp<;>omega
def Zfo (x:Inst) (l:List Col) (p:Pln) (c e:Int):Prop:= ∃b,jR x l b e/\(e≠0->p=zPlC/\c=0)/\(e=0->c=b.price/\p=⟨false,(gW l b.places b.places.length x.types.length).map (·.route),false,unI x b.places b.places.length⟩)
theorem Ee {α:Type} {p q:α->Bool} : ∀ {l:List α},(∀a∈l,p a=q a)->l.find? p=l.find? q
 | [],_=>rfl
 | a::l,h=>by
  rw [List.find?_cons,List.find?_cons,h a Zb,Ee fun a ha=>h a (Ym _ ha)]
def RA (l:List Col) (g:List Int):Nat->Nat->List Col
 | 0,_=> []
 | d+1,k=>(if 0<=nth g k/\Qx (nth l (nth g k).toNat).set.toNat=(k:Int) then [nth l (nth g k).toNat] else [])++RA l g d (k+1)
def UA (x:Inst) (g:List Int):Nat->Nat->List Int
 | 0,_=> []
 | d+1,k=>(if nth g k<0/\(nth x.orders k).off=false then [(k:Int)] else [])++UA x g d (k+1)
theorem oL {x:Inst} {l ys:List Col} (hc:Ctx x l ys) {D:Nat} (hD:D=20) {s:St} {k:Nat} (hv:StV x.orders.length s) (hk:s.ix=k) (hkn:k<x.orders.length) (ho:(nth x.orders k).off=false) (hcv:s.cov.toNat.testBit k=false) {c:Col} (hm:c∈X7 ys k) :
  Ie x.orders.length (mI x) x (fstF x.orders.length ys) (skF x x.orders.length) s c=Kq x ys D s c:=by
 have hn:=hc.n4;have e1:=CH (n:=x.orders.length) hk (m:=mI x) (by grind [Ev]) (by grind [A6]);have e2:=Fe (m:=mI x) hk hkn hn (Kj hc hkn hm).2.2.2
 grind [Ie,Kq,Lx]
theorem BL {x:Inst} {l ys:List Col} (hc:Ctx x l ys) {D:Nat} (hD:D=20): ∀(d k:Nat) (s:St) (a:List Int) (f:Nat),k+d=x.orders.length->d<f->Nd x l a s k ->
  Ye x.orders.length (mI x) x (fstF x.orders.length ys) (skF x x.orders.length) f (WY x.orders.length (mI x) s)=(RA l (gr x l ys D d k s a) d k,UA x (gr x l ys D d k s a) d k)
 | 0,k,s,a,0,_,hf,_=>Za
 | 0,k,s,a,f+1,hd,_,h=>by
  rw [Ye,if_pos,RA,UA];simp only [WY];have:=BZ (n:=x.orders.length) (m:=mI x) (cov:=s.cov) (x.orders.length-s.ix.toNat) s.ix.toNat;have:=h.ix;omega
 | d+1,k,s,a,0,_,hf,_=>Za
 | d+1,k,s,a,f+1,hd,hf,h=>by
  have hk:k<x.orders.length:=Za
  have hn:=hc.n4;rw [gr]
  split
  ·rename_i ho;have hsk:=ho.imp (fun e=>show sHas (mI x) k=false by grind [Ev]) (fun e=>show sHas s.cov k=true by rw [A6 h.v Za,h.cov k hk];grind);rw [CG h.ix hk hsk,BL hc hD d (k+1) (DD s) a (f+1) Za Za (h.skip' hk)];have hg:=(Cj hc (D:=D) d (k+1) (DD s) a Za (h.skip' hk)).2 k hk (.inl Za);rw [RA,UA,hg,if_neg,if_neg,Xh,Xh]
   ·grind
   ·rintro ⟨g1,g2⟩;obtain ⟨t,t1,t2⟩:=h.old k hk (Xg _) g1;have hr:=h.rng k hk;obtain ⟨_,s0,s1,_⟩:=hc.set (ZD (l:=l) (i:=(nth a k).toNat) Za);have:=((CL s0 s1 hn hk).1 g2).2 t Za t2;omega
  ·rename_i ho
   have hoff:(nth x.orders k).off=false:=by
    grind
   have hak:nth a k<0:=Ji.1 fun g=>ho (.inr g)
   have hcv:s.cov.toNat.testBit k=false:=by rw [h.cov k hk];grind
   rw [CH h.ix (by grind [Ev]) (by rw [A6 h.v Za,hcv]),Ye,if_neg (by rw [h.ix];omega)]
   have e2:nth (fstF x.orders.length ys) s.ix.toNat=X7 ys k:=by rw [h.ix,X3,LI,if_pos hk]
   rw [e2,Ee (q:=Kq x ys D s) fun c hm=>oL hc hD h.v h.ix hk hoff hcv hm]
   cases hfd:(X7 ys k).find? (Kq x ys D s) with
   | some c =>
    have hsel:=Jr hfd;have hm:=Uw hfd;simp only [Kq,Zt] at hsel;obtain ⟨p1,p2,p3⟩:=Js hc h hk hm hsel.1;have hch:=h.child hc hk p1 p3;obtain ⟨c1,c2⟩:=KF h.len p3;rw [p2] at hch c1 c2;have hg:=(Cj hc (D:=D) d (k+1) (K4 s c) _ Za hch).2 k hk (.inl Za);rw [XF (by rw [h.len];exact hk),if_pos c1] at hg;simp only;rw [Fe h.ix hk hn (Kj hc hk hm).2.2.2,BL hc hD d (k+1) (K4 s c) _ f Za Za hch,RA,UA,hg,if_pos ⟨Za,by rw [X3,p2];exact (Kj hc hk hm).2.2.1⟩,if_neg Za,X3,p2]
    rfl
   | none =>
    have hg:=(Cj hc (D:=D) d (k+1) (DD s) a Za (h.skip' hk)).2 k hk (.inl Za);simp only;have e3:Cw x.orders.length (mI x) s=WY x.orders.length (mI x) (DD s):=rfl;rw [e3,BL hc hD d (k+1) (DD s) a f Za Za (h.skip' hk),RA,UA,hg,if_neg Za,if_pos ⟨hak,hoff⟩,h.ix]
    rfl
theorem QW {l:List Col} {g:List Int} {c:Col} : ∀(d k:Nat),c∈RA l g d k↔ ∃i,k<=i/\i<k+d/\0<=nth g i/\Qx (nth l (nth g i).toNat).set.toNat=(i:Int)/\c=nth l (nth g i).toNat
 | 0,k=>by simp [RA];omega
 | d+1,k=>by
  rw [RA,Xr,QW d (k+1)]
  constructor
  ·rintro (h | ⟨i,h1,h2,h3⟩)
   ·split at h
    ·grind
    ·simp at h
   grind
  grind
theorem MR {l:List Col} {g:List Int} : ∀(d k:Nat),(RA l g d k).Pairwise fun a b=>Qx a.set.toNat<Qx b.set.toNat
 | 0,k=> .nil
 | d+1,k=>by
  rw [RA,Bv];refine ⟨?_,MR d (k+1),fun a ha b hb=> ?_⟩
  ·split<;>simp
  ·split at ha
   ·rename_i hh;obtain ⟨i,h1,h2,h3,h4,rfl⟩:=(QW _ _).1 hb
    grind
   ·simp at ha
theorem On {x:Inst} {g:List Int} : ∀(d k:Nat),UA x g (d+1) k=UA x g d k++(if nth g (k+d)<0/\(nth x.orders (k+d)).off=false then [((k+d:Nat):Int)] else [])
 | 0,k=>by simp [UA]
 | d+1,k=>by
  rw [UA,On d (k+1),UA,Uz,show k+1+d=k+(d+1) by omega]
theorem TI {x:Inst} {g:List Int} : ∀n,UA x g n 0=unI x g n
 | 0=>rfl
 | n+1=>by rw [On,TI n,unI,XE]
theorem Zbv : ∀S:Fin 16,0<S.val-> ∀i:Fin 4,S.val.testBit i.val=true->((S.val:Int)%(pw i.val:Nat)=0↔Qx S.val=(i.val:Int)):=by decide+kernel
theorem K9 {l:List Col} {g:List Int} {T:Nat} {c:Col} : ∀k,c∈jQ l g T k↔ ∃i,i<k/\0<=nth g i/\(nth l (nth g i).toNat).typ=T/\(nth l (nth g i).toNat).set%(pw i:Nat)=0/\c=nth l (nth g i).toNat
 | 0=>by simp [jQ]
 | k+1=>by
  rw [jQ,Xr,K9 k]
  constructor
  ·grind
  grind
theorem H9 {l:List Col} {g:List Int} {n:Nat} {c:Col} : ∀T,c∈gW l g n T↔ ∃t,t<T/\c∈jQ l g t n
 | 0=>by simp [gW]
 | T+1=>by
  rw [gW,Xr,H9 T]
  grind
theorem ZhS {x:Inst} (hx:InstOk x) {k:Nat} (hk:k<x.orders.length) (ho:(nth x.orders k).off=false):(0<=(nth x.orders k).penalty↔0<=skpF x k)/\(0<=skpF x k->skpF x k=skR x k):=by
 have ha:=(hx.orders.2 k hk).arg;simp only [argOk,rng,Zt,Zl] at ha
 have e:Xk x k=if (nth x.orders k).penalty= -1 then (zSco,23) else (⟨(nth x.orders k).penalty,if (nth x.orders k).now= -1 then 0 else 1,0,0⟩,0):=by
  simp_all [Xk,if_neg]
 by_cases hp:(nth x.orders k).penalty= -1
 ·simp_all [skpF]
 ·have hm:(if (nth x.orders k).now= -1 then (0:Int) else 1)=0\/(if (nth x.orders k).now= -1 then (0:Int) else 1)=1:=Za
  have e2:skpF x k=skR x k/\0<=skR x k:=by
   rw [skpF,skR,e,if_neg hp];generalize (if (nth x.orders k).now= -1 then (0:Int) else 1)=m at hm
   have:XW ⟨(nth x.orders k).penalty,m,0,0⟩=((((nth x.orders k).penalty*16+m)*16+0)*65536+0,0):=by
    rw [XW,if_neg (by grind),if_neg (by grind)]
   grind
  omega
theorem Nj {x:Inst} {l ys:List Col} (hx:InstOk x) (hn:x.orders.length<=4) (hC:Cheap l ys) (hr: ∀c∈l,rightB x c=true) (hs: ∀c∈l,c.set<9223372036854775808):Ctx x l ys :=
 have hok:=OJ hx hn hC hr hs
 ⟨hn,hok.typ.1,hC,hr,hs,hok,fun _ hk ho=>ZhS hx hk ho⟩
theorem Io {l:List Col} {n:Nat} {T:Int} : ∀m,m<=n->usdI l (List.replicate n (-1)) T m=0
 | 0,_=>rfl
 | m+1,h=>by
  rw [usdI,Io m Za,Fc,Pq Za,YZ Za];rfl
theorem HN (x:Inst) (l:List Col):Nd x l (List.replicate x.orders.length (-1)) zSt 0:=by
 have hz: ∀i,i<x.orders.length->nth (List.replicate x.orders.length (-1:Int)) i= -1:=fun i hi=>Pq hi;refine ⟨Zb,rfl,sS _,fun i hi=> ?_,fun i hi=>by grind,fun T hT=> ?_,fun i hi h=>by grind,fun i hi _ h=>by grind,fun i hi h=>by grind⟩
 ·simp_all [zSt]
 ·rw [Io _ (Xg _)]
  have:T=0\/T=1\/T=2\/T=3\/T=4\/T=5:=Za
  rcases this with rfl | rfl | rfl | rfl | rfl | rfl<;>rfl
theorem Nd.RngA {x:Inst} {l:List Col} {a:List Int} {s:St} {k:Nat} (h:Nd x l a s k):RngA x l a:=⟨h.len,h.rng⟩
theorem Ge {x:Inst} {l ys:List Col} (hc:Ctx x l ys) {D:Nat} : ∀(d k:Nat) (s:St) (a:List Int),k+d=x.orders.length->Nd x l a s k-> ∃s',Nd x l (gr x l ys D d k s a) s' x.orders.length
 | 0,k,s,a,hd,h=>⟨s,by grind [gr]⟩
 | d+1,k,s,a,hd,h=>by
  have hk:k<x.orders.length:=Za
  rw [gr]
  split
  ·exact Ge hc d (k+1) _ _ Za (h.skip' hk)
  ·split
   ·rename_i c hf;have hsel:=Jr hf;simp only [Kq,Zt] at hsel;obtain ⟨p1,p2,p3⟩:=Js hc h hk (Uw hf) hsel.1;have hch:=h.child hc hk p1 p3;rw [p2] at hch;exact Ge hc d (k+1) _ _ Za hch
   ·exact Ge hc d (k+1) _ _ Za (h.skip' hk)
theorem Ou {x:Inst} {l ys:List Col} (hc:Ctx x l ys) {D:Nat} (hD:10<D) :
  (Lx x ys D zSt<0->(MW x l).found=false)/\(0<=Lx x ys D zSt->MW x l=⟨true,gr x l ys D x.orders.length 0 zSt (List.replicate x.orders.length (-1)),Lx x ys D zSt⟩):=by
 have hz:=HN x l;have hb:=Bj hc hD x.orders.length 0 zSt _ _ 0 Za hz hz KE.refl;obtain ⟨s',hg⟩:=Ge hc (D:=D) x.orders.length 0 zSt _ Za hz
 constructor
 ·intro h
  have:Fl x l x.orders.length (List.replicate x.orders.length (-1)) 0= []:=by
   cases e:Fl x l x.orders.length (List.replicate x.orders.length (-1)) 0 with
   | nil=>rfl
   | cons q L=>grind
  rw [MW,this];rfl
 ·intro h;have hin:=Ll hc hD x.orders.length 0 zSt _ 0 Za hz h;rw [KZ] at hin;refine GP (.inl rfl) (fun q hq=> ?_) hin;obtain ⟨_,h2,h3⟩:=hb q hq;rw [KZ] at h2 h3;exact ⟨h2,fun e=>sV hg.RngA (Du _ hz.RngA q hq) (h3 e)⟩
theorem PA {l:List Col} {g:List Int} {T n:Nat} (hdv: ∀i,i<n->0<=nth g i->((nth l (nth g i).toNat).set%(pw i:Nat)=0↔Qx (nth l (nth g i).toNat).set.toNat=(i:Int))): ∀k,k<=n->(jQ l g T k).Pairwise fun a b=>lE a b<0
 | 0,_=> .nil
 | k+1,hk=>by
  rw [jQ,Bv];refine ⟨PA hdv k Za,by split<;>simp,fun a ha b hb=> ?_⟩
  split at hb
  ·rename_i hh
   obtain rfl:b=nth l (nth g k).toNat:=by grind
   obtain ⟨i,h1,h2,h3,h4,rfl⟩:=(K9 _).1 ha;rw [Qg,h3,hh.2.1]
   right
   refine ⟨rfl,?_⟩
   show Qx _<Qx _
   grind
  ·simp at hb
theorem PD {l:List Col} {g:List Int} {n:Nat} (hdv: ∀i,i<n->0<=nth g i->((nth l (nth g i).toNat).set%(pw i:Nat)=0↔Qx (nth l (nth g i).toNat).set.toNat=(i:Int))): ∀T,(gW l g n T).Pairwise fun a b=>lE a b<0
 | 0=> .nil
 | T+1=>by
  rw [gW,Bv];refine ⟨PD hdv T,PA hdv n (Xg _),fun a ha b hb=> ?_⟩;obtain ⟨t,h1,h2⟩:=(H9 _).1 ha;obtain ⟨i,_,_,h3,_,rfl⟩:=(K9 _).1 h2;obtain ⟨j,_,_,h5,_,rfl⟩:=(K9 _).1 hb
  simp_all [Qg]
theorem Zi0 {x:Inst} {l ys:List Col} (hc:Ctx x l ys) {g:List Int} {s:St} (hg:Nd x l g s x.orders.length) {zs:List Col} (hp:zs.Perm (RA l g x.orders.length 0)) (ha:zs.Pairwise fun a b=> ¬lE b a<0):zs=gW l g x.orders.length x.types.length:=by
 have hn:=hc.n4;have hin: ∀i,i<x.orders.length->0<=nth g i->nth l (nth g i).toNat∈l:=fun i hi h0=>ZD (by have:=hg.rng i hi;omega)
 have hdv: ∀i,i<x.orders.length->0<=nth g i->((nth l (nth g i).toNat).set%(pw i:Nat)=0↔Qx (nth l (nth g i).toNat).set.toNat=(i:Int)):=fun i hi h0=>by
  obtain ⟨e,s0,s1,_⟩:=hc.set (hin i hi h0);have h16:(nth l (nth g i).toNat).set.toNat<16:=Uy s1 (Ys (n:=2) Za hn);have:=Zbv ⟨_,h16⟩ s0 ⟨i,Za⟩ (hg.own i hi h0)
  grind
 have hne:zs.Pairwise fun a b=>lo a≠lo b:=by
  have h1:(RA l g x.orders.length 0).Pairwise fun a b=>lo a≠lo b:=(MR _ _).imp fun {a b} h e=>by
   have e':Qx a.set.toNat=Qx b.set.toNat:=e;omega
  exact (hp.pairwise_iff fun h e=>h e.symm).2 h1
 have hz:zs.Pairwise fun a b=>lE a b<0:=(hne.and ha).imp fun {a b} h=>by
  have h1:=h.1;have h2:=h.2;rw [Qg] at h2 ⊢;omega
 refine E7 (r:=fun a b=>lE a b<0) (fun a=>by rw [Qg];omega) (fun a b=>by rw [Qg,Qg];omega) hz (PD hdv _) fun c=> ?_;rw [hp.mem_iff,QW,H9]
 constructor
 ·rintro ⟨i,_,h1,h2,h3,rfl⟩;have ht:=(hc.typ (hin i Za h2)).1;exact ⟨(nth l (nth g i).toNat).typ.toNat,Za,(K9 _).2 ⟨i,Za,h2,Za,(hdv i Za h2).2 h3,rfl⟩⟩
 ·rintro ⟨t,_,h⟩;obtain ⟨i,h1,h2,h3,h4,rfl⟩:=(K9 _).1 h
  grind
theorem D1 {x:Inst} {ys:List Col} {D:Nat} (hD:D=20):HJ x ys=Lx x ys D zSt:=by subst hD;rfl
theorem Zhd {x:Inst} {l:List Col} {a e e':Int} {b:Chc} (hx:InstOk x) (hn:x.orders.length<=4) (hs: ∀c∈l,c.set<9223372036854775808) (h:Zlf x l a e) (h':jR x l b e'):a=b.price/\e=e':=by
 rcases h with ⟨g1,rfl,rfl⟩ | ⟨g1,⟨c,gc,g2⟩,rfl,rfl⟩ | ⟨g1,g2,ys,g3,rfl,rfl⟩<;>rcases h' with ⟨k1,rfl,rfl⟩ | ⟨k1,⟨c',kc,k2⟩,rfl,rfl⟩ | ⟨k1,k2,k3⟩
 ·exact ⟨rfl,rfl⟩
 ·omega
 ·omega
 ·omega
 ·exact ⟨rfl,rfl⟩
 ·grind
 ·omega
 ·grind
 ·obtain ⟨D,hD⟩: ∃D:Nat,D=20:=⟨20,rfl⟩;rw [D1 hD];obtain ⟨q1,q2⟩:=Ou (Nj hx hn g3 g2 hs) (D:=D) Za;rcases k3 with ⟨f,rfl,rfl⟩ | ⟨f,rfl,rfl⟩
  ·have:Lx x ys D zSt<0:=Ji.1 fun h0=>by grind
   rw [if_pos this,if_pos this];exact ⟨rfl,rfl⟩
  grind
theorem aR {x:Inst} {l:List Col} {p q:Pln} {c e c' e':Int} (hx:InstOk x) (hn:x.orders.length<=4) (hs: ∀c∈l,c.set<9223372036854775808) (h:ChoR x l p c e) (h':Zfo x l q c' e'):c=c'/\e=e'/\p.routes=q.routes/\p.unserved=q.unserved/\p.routes.length<=24/\p.unserved.length<=24/\ ∀r∈p.routes,∃c∈l,r=c.route:=by
 obtain ⟨b,hb,h1,h2⟩:=h';have z:zPlC.routes.length<=24/\zPlC.unserved.length<=24/\ ∀r∈zPlC.routes,∃c∈l,r=c.route:=⟨by simp [zPlC],by simp [zPlC],fun r hr=>by simp [zPlC] at hr⟩;rcases h with ⟨g1,rfl,rfl,rfl⟩ | ⟨g1,⟨c,gc,g2⟩,rfl,rfl,rfl⟩ | ⟨g1,g2,ys,g3,g4,g5⟩<;>rcases hb with ⟨k1,rfl,rfl⟩ | ⟨k1,⟨c',kc,k2⟩,rfl,rfl⟩ | ⟨k1,k2,k3⟩
 ·grind
 ·omega
 ·omega
 ·omega
 ·grind
 ·grind
 ·omega
 ·grind
 ·obtain ⟨D,hD⟩: ∃D:Nat,D=20:=⟨20,rfl⟩;have hc:=Nj hx hn g3 g2 hs;obtain ⟨q1,q2⟩:=Ou hc (D:=D) Za;rw [D1 hD] at g5;rcases g5 with ⟨g6,rfl,rfl,rfl⟩ | ⟨g6,rfl,rfl,zs,hp,ha,rfl⟩
  ·grind
  ·rcases k3 with ⟨f,rfl,rfl⟩ | ⟨f,rfl,rfl⟩
   ·grind
   ·obtain ⟨rfl,rfl⟩:=h2 rfl;have hz:=HN x l;have hpk:=BL hc hD x.orders.length 0 zSt _ 20 Za Za hz;obtain ⟨s',hg⟩:=Ge hc (D:=D) x.orders.length 0 zSt _ Za hz;rw [q2 g6];simp only [mI] at hpk;rw [hpk] at hp ⊢;simp only at hp ⊢;have hzs:=Zi0 hc hg hp ha;rw [hg.len,TI,hzs];have l1:=PE (l:=l) (g:=gr x l ys D x.orders.length 0 zSt (List.replicate x.orders.length (-1))) (n:=x.orders.length) x.types.length;have l2:=PX (x:=x) (g:=gr x l ys D x.orders.length 0 zSt (List.replicate x.orders.length (-1))) x.orders.length
    have l3:x.types.length*x.orders.length<=6*4:=Nat.mul_le_mul hc.t6 hn;refine ⟨trivial,trivial,rfl,rfl,by grind,Za,fun r hr=> ?_⟩;obtain ⟨c,hcm,rfl⟩:=XD.1 hr;rw [<- hzs,hp.mem_iff,QW] at hcm;obtain ⟨i,_,i1,i2,_,rfl⟩:=hcm;exact ⟨_,ZD (by have:=hg.rng i Za;omega),rfl⟩
theorem Oc {g:FuncId} {args:List V} {R:Pln->Int->Int->Prop} {H:List AM.Obj} {K:V->List AM.Obj->Prop} (h:ACalls Tryz.prog g args [] fun y H'=> ∃p c e,R p c e/\y= .tup [.p (UR p),.p (.int .i64 c),.p (.int .i64 e)]/\H'= []) (k: ∀p c e,R p c e->K (.tup [.p (UR p),.p (.int .i64 c),.p (.int .i64 e)]) H) (ha:Xd 0 args=true:=by rfl):ACalls Tryz.prog g args H K :=
 (h.behind ha H).mono fun x H' hq=>by
  obtain ⟨y,H1,⟨p,c,e,hr,rfl,rfl⟩,rfl,rfl⟩:=hq
  grind [shV,shVs]
theorem CN {ok:List Vis->Bool} {col:List Vis->Col} {better:Col->Col->Bool} : ∀(L:List (List Vis)) (b:Col×Bool),(L.foldl (Ub ok col better) b).2=true->(b.2=true/\(L.foldl (Ub ok col better) b).1=b.1)\/ ∃m∈L,ok m=true/\(L.foldl (Ub ok col better) b).1=col m
 | [],b,h=> .inl ⟨h,rfl⟩
 | l::L,b,h=>by
  rw [Yt] at h ⊢;rcases CN L _ h with ⟨h1,h2⟩ | ⟨m,h1,h2,h3⟩
  ·rw [h2];unfold Ub at h1 ⊢
   grind
  grind
theorem FX {x:Inst} {k:Int} {S:Nat} (h:(JV x k S).2=0): ∃m,m∈Pi x k S (UL x S) [] (st0 (nth x.types k.toNat))/\HS x k m=true/\(JV x k S).1=VZ x k S m:=by
 unfold JV at h ⊢
 split at h
 ·rename_i hc;rw [if_pos hc];rcases CN _ _ hc.2 with ⟨h1,_⟩ | ⟨m,h1,h2,h3⟩
  ·cases h1
  ·exact ⟨m,h1,h2,h3⟩
 ·cases h
theorem L3 {one:Nat->List Col} {c:Col} : ∀q,c∈ES one q↔ ∃S,1<=S/\S<=q/\c∈one S
 | 0=>by simp [ES];omega
 | q+1=>by
  rw [ES,Xr,L3 q]
  grind
theorem IB {one:Nat->Nat->List Col} {N:Nat} {c:Col} : ∀K,c∈JQ one N K↔ ∃k S,k<K/\1<=S/\S<=N/\c∈one k S
 | 0=>by simp [JQ]
 | K+1=>by
  rw [JQ,Xr,IB K,L3]
  grind
noncomputable def allL (x:Inst):List Col:=JQ (Ke x) (2^x.orders.length-1) x.types.length
theorem DQ {x:Inst} {c:Col} :c∈allL x↔ ∃k S,k<x.types.length/\0<S/\S<2^x.orders.length/\(JV x (k:Int) S).2=0/\c=(JV x (k:Int) S).1:=by
 have hp1:1<=2^x.orders.length:=Nat.one_le_two_pow;rw [allL,IB]
 constructor
 ·grind [Ke]
 ·rintro ⟨k,S,h1,h2,h3,h4,h5⟩;exact ⟨k,S,h1,Za,Za,by simp_all [Ke]⟩
theorem TY {x:Inst} {c:Col} (h:c∈allL x): ∃(k S:Nat) (m:List Vis),k<x.types.length/\0<S/\S<2^x.orders.length/\m.length=UL x S/\HS x k m=true/\c=VZ x k S m:=by
 obtain ⟨k,S,h1,h2,h3,h4,rfl⟩:=DQ.1 h;obtain ⟨m,m1,m2,m3⟩:=FX h4;exact ⟨k,S,m,h1,h2,h3,by have:=HL _ _ _ m m1;grind,m2,m3⟩
theorem G3 {x:Inst} (hn:x.orders.length<=4) (h6:x.types.length<=6):(allL x).length<=96/\ ∀c∈allL x,c.set<9223372036854775808/\L6 c.route:=by
 have hp2:2^x.orders.length<=2^4:=Ys Za hn;refine ⟨?_,fun c hc=> ?_⟩
 ·have h1:=DP (N:=2^x.orders.length-1) (EJ (x:=x)) x.types.length;have h2:x.types.length*(2^x.orders.length-1)<=6*16:=Nat.mul_le_mul Za Za;unfold allL;omega
 ·obtain ⟨k,S,m,_,_,h3,h4,_,rfl⟩:=TY hc;have:=Ik x S x.orders.length;unfold UL at h4;exact ⟨by grind [VZ],by grind [VZ,EW],by simp [VZ,EW]⟩
theorem PL (x:Inst) (hx:InstOk x) (hn:x.orders.length<=4) (h6:x.types.length<=6) (hbl:x.before.length<=1048576) (hal:x.apart.length<=1048576) :
  ACalls Tryz.prog 37 [.p (ZF x)] [] fun y H'=> ∃p c e,ChoR x (allL x) p c e/\y= .tup [.p (UR p),.p (.int .i64 c),.p (.int .i64 e)]/\H'= []:=by
 obtain ⟨hl,hc⟩:=G3 hn h6;have ca:=LS x hx hn h6 hbl hal;have cc:=SC x (allL x) false hx hn Za (fun c h=>(hc c h).1) Za;rw [show JQ (Ke x) (2^x.orders.length-1) x.types.length=allL x from rfl] at ca;generalize allL x=L at ca cc ⊢;refine Zf [] Tryz.func37 rfl ZgN ?_;simp (disch:=omega) only [Tryz.f37,go_sem,seval];refine CP ca (Wp ?_);refine Oc cc fun p c e hR=>Wp ?_;exact ⟨.tup [.p (UR p),.p (.int .i64 c),.p (.int .i64 e)],[],wk,p,c,e,hR,rfl,rfl⟩
def dayI (ds:List Inst) (P:List Pln) (X:List Inst) (j:Nat):Inst:=if j=0 then mN (nth ds 0) else Fw (nth ds j) (nth X (j-1)) (nth P (j-1))
def dayE (ds:List Inst) (P:List Pln) (X:List Inst) (j:Nat):Int:=if j=0 then 0 else Tu (nth ds j) (nth X (j-1)) (nth P (j-1))
structure WkS (ds:List Inst) (P:List Pln) (X:List Inst) (k:Nat):Prop where
 pl:P.length=k
 xl:X.length=k
 st: ∀j,j<k->nth X j=dayI ds P X j/\dayE ds P X j=0/\ ∃c,ChoR (nth X j) (allL (nth X j)) (nth P j) c 0
def PlanR (ds:List Inst) (P:List Pln) (X:List Inst) (e:Int):Prop :=
 ∃P' X' k,WkS ds P' X' k/\k<=ds.length/\((k=ds.length/\e=0/\P=P'/\X=X')\/(k<ds.length/\e≠0/\P= []/\X= [] /\
  ((dayE ds P' X' k=e)\/(dayE ds P' X' k=0/\ ∃p c,ChoR (dayI ds P' X' k) (allL (dayI ds P' X' k)) p c e))))
def TC (x:Inst):Prop:=Da x 2/\x.wf 1048576
theorem BF {α:Type} [Inhabited α] {a b:List α} {j:Nat} (h:j<a.length):nth (a++b) j=nth a j:=by
 grind [Ze]
theorem LJ {α:Type} [Inhabited α] {a:List α} {x:α} :nth (a++ [x]) a.length=x:=by
 grind [Ze]
theorem bN {ds:List Inst} {P:List Pln} {X:List Inst} {j:Nat} {p:Pln} {x:Inst} (h1:j<=P.length) (h2:j<=X.length):dayI ds (P++ [p]) (X++ [x]) j=dayI ds P X j/\dayE ds (P++ [p]) (X++ [x]) j=dayE ds P X j:=by
 unfold dayI dayE
 by_cases h:j=0
 ·simp [h]
 ·rw [if_neg h,if_neg h,if_neg h,if_neg h,BF Za,BF Za];simp
theorem WkS.zero {ds:List Inst} :WkS ds [] [] 0:=⟨rfl,rfl,fun j h=>Za⟩
theorem WkS.snoc {ds:List Inst} {P:List Pln} {X:List Inst} {k:Nat} (h:WkS ds P X k) {p:Pln} {c:Int} (he:dayE ds P X k=0) (hp:ChoR (dayI ds P X k) (allL (dayI ds P X k)) p c 0):WkS ds (P++ [p]) (X++ [dayI ds P X k]) (k+1):=by
 obtain ⟨rfl,h2,h3⟩:=h;refine ⟨Zb,by simp [h2],fun j hj=> ?_⟩;obtain ⟨e1,e2⟩:=bN (ds:=ds) (P:=P) (X:=X) (p:=p) (x:=dayI ds P X P.length) (show j<=P.length by omega) (show j<=X.length by omega);rw [e1,e2]
 by_cases hjk:j<P.length
 ·rw [BF hjk,BF Za]
  grind
 ·have:j=P.length:=Za
  subst this;have n1:nth (P++ [p]) P.length=p:=LJ
  have n2:nth (X++ [dayI ds P X P.length]) P.length=dayI ds P X P.length:=by rw [<- h2];exact LJ
  grind
theorem A7 {ds:List Inst} {P:List Pln} {X:List Inst} {j:Nat} :(dayI ds P X j).orders.length=(nth ds j).orders.length/\(dayI ds P X j).types=(nth ds j).types/\(dayI ds P X j).apart=(nth ds j).apart/\(dayI ds P X j).before=(nth ds j).before:=by
 unfold dayI
 by_cases h:j=0
 ·subst h;exact ⟨YS,rfl,rfl,rfl⟩
 ·rw [if_neg h];exact ⟨YS,rfl,rfl,rfl⟩
theorem OP {ds:List Inst} {P:List Pln} {X:List Inst} {k:Nat} (hk:k<ds.length) (hD: ∀x∈ds,TC x) (h: ∀i,i<k->nth X i=dayI ds P X i) (he:dayE ds P X k=0):InstOk (dayI ds P X k)/\(dayI ds P X k).wf 1048576:=by
 have hd:=hD _ (Zq hk)
 by_cases h0:k=0
 ·subst h0;rw [dayI,if_pos rfl];exact ⟨vR hd.1.2.2.2.2.2.2,vS hd.2 (by have:=hd.1.2.1;omega)⟩
 ·have hd1:=hD _ (Zq (show k-1<ds.length by omega))
  have ht:(nth X (k-1)).types.length=(nth ds (k-1)).types.length:=by grind [A7]
  rw [dayE,if_neg h0] at he;rw [dayI,if_neg h0]
  have hz:V2 (nth X (k-1)) (nth P (k-1))=0:=by grind [Tu]
  exact ⟨bJ hd.1.2.2.2.2.2.2 he,bK hd.2 hz (by have:=hd1.1.2.1;omega)⟩
theorem lK (x:Inst) (l:List Col): ∃q c e,Zfo x l q c e:=by
 suffices h: ∃b e,jR x l b e by
  obtain ⟨b,e,h⟩:=h
  by_cases he:e=0
  ·exact ⟨_,_,e,b,h,fun h=>absurd he h,fun _=>⟨rfl,rfl⟩⟩
  ·exact ⟨_,_,e,b,h,fun _=>⟨rfl,rfl⟩,fun h=>absurd h he⟩
 unfold jR
 by_cases h1:8192<l.length
 ·grind
 ·by_cases h2: ∃c∈l,rightB x c=false
  ·exact ⟨_,_,.inr (.inl ⟨Za,h2,rfl,rfl⟩)⟩
  ·have h3: ∀c∈l,rightB x c=true:=fun c hc=>by
    grind
   cases hf:(MW x l).found with
   | false=>exact ⟨_,_,.inr (.inr ⟨Za,h3,.inl ⟨rfl,rfl,rfl⟩⟩)⟩
   | true=>exact ⟨_,_,.inr (.inr ⟨Za,h3,.inr ⟨rfl,rfl,rfl⟩⟩)⟩
theorem vC {x:Inst} {p:Pln} {c e:Int} (hx:InstOk x) (hn:x.orders.length<=4) (h6:x.types.length<=6) (h:ChoR x (allL x) p c e):p.routes.length<=24/\p.unserved.length<=24/\ ∀r∈p.routes,L6 r:=by
 obtain ⟨q,c',e',h'⟩:=lK x (allL x);obtain ⟨_,hc⟩:=G3 hn h6;obtain ⟨_,_,_,_,r3,r4,r5⟩:=aR hx hn (fun c h=>(hc c h).1) h h'
 grind
theorem WkS.facts {ds:List Inst} {P:List Pln} {X:List Inst} {k:Nat} (h:WkS ds P X k) (hD: ∀x∈ds,TC x) (hk:k<=ds.length) {j:Nat} (hj:j<k):InstOk (nth X j)/\(nth X j).wf 1048576/\(nth X j).orders.length<=2/\(nth X j).types.length<=2 /\
  (nth P j).routes.length<=24/\(nth P j).unserved.length<=24/\ ∀r∈(nth P j).routes,L6 r:=by
 obtain ⟨e1,e2,c,e3⟩:=h.st j hj;have hd:=hD _ (Zq (show j<ds.length by omega));have hok:=OP (show j<ds.length by omega) hD (fun i hi=>(h.st i Za).1) e2;obtain ⟨l1,l2,_,_⟩:=A7 (ds:=ds) (P:=P) (X:=X) (j:=j);rw [<- e1] at hok l1 l2
 have o2:(nth X j).orders.length<=2:=by rw [l1];have:=hd.1.1;omega
 have t2:(nth X j).types.length<=2:=by rw [l2];exact hd.1.2.1
 exact ⟨hok.1,hok.2,o2,t2,vC hok.1 Za Za e3⟩
theorem WkS.next {ds:List Inst} {P:List Pln} {X:List Inst} {k m:Nat} (h:WkS ds P X m) (hD: ∀x∈ds,TC x) (hm:k<=m) (hk:k<ds.length) (he:dayE ds P X k=0):InstOk (dayI ds P X k)/\(dayI ds P X k).wf 1048576/\(dayI ds P X k).orders.length<=2/\(dayI ds P X k).types.length<=2:=by
 have hd:=hD _ (Zq hk);have hok:=OP hk hD (fun i hi=>(h.st i Za).1) he;obtain ⟨l1,l2,_,_⟩:=A7 (ds:=ds) (P:=P) (X:=X) (j:=k);exact ⟨hok.1,hok.2,by rw [l1];have:=hd.1.1;omega,by rw [l2];exact hd.1.2.1⟩
theorem cS (x:Inst) (ho:x.orders.length<=1048576):PC 35 [.p (ZF x)] (ZF (mN x)) :=
 ACalls.read ((O2 x ho).mono fun y H' h=>by
  obtain ⟨rfl,rfl⟩:=h;simp [rd,rds,rd1,FA,oat,mN,ZF,YS]
  grind [Cp,YS])
def HW (P:List Pln) (X:List Inst) (e:Int):V:= .tup [.p (.list (decide (e≠0)) (P.map UR)),.p (.list (decide (e≠0)) (X.map ZF)),.p (.int .i64 e)]
theorem gB (ds:List Inst) (c:Bool) (hl:ds.length<=3) (hD: ∀x∈ds,TC x) :
  ACalls Tryz.prog 11 [.p (.list c (ds.map ZF))] [] fun y H'=> ∃P X e,PlanR ds P X e/\y=HW P X e/\H'= []:=by
 refine Zf [5] Tryz.func11 rfl ZgG ?_;simp (disch:=omega) only [Tryz.f11,go_sem,seval];refine cD ?_ ?_<;>intro h0<;>simp (disch:=omega) only [Sh.out h0,go_sem,seval]
 ·omega
 refine Zr (Weak.ofNil 5 2 (by simp (disch:=omega) only [go_sem,seval]) Zb (Weak.ofNil 6 6 (by simp (disch:=omega) only [go_sem,seval]) Zb (Weak.refl _ _ _))) ?_;refine Zg [20] _ _ _ _ (Wp ?_);refine Xc [20] [18,19] (fun q:Nat×List Pln×List Inst=> [(5,.sl 0 0 q.2.1.length q.2.1.length),(6,.sl 1 0 q.2.2.length q.2.2.length),(20,.p (.int .i64 q.1))]) (fun q=> [.elems 2 (q.2.1.map UR),.elems 6 (q.2.2.map ZF)]) (fun q=>WkS ds q.2.1 q.2.2 q.1/\q.1<=ds.length) (fun q=>ds.length-q.1) (0,[],[]) ⟨WkS.zero,Zb⟩ (Weak.mk ?_) ?_
 ·simp (disch:=omega) only [Zo,go_sem,seval]
 ·rintro ⟨k,P,X⟩ ⟨hw,hk⟩;simp only at hw hk;have hpl:=hw.pl;have hxl:=hw.xl;refine Wp ?_;refine cD ?_ ?_<;>intro h1<;>simp (disch:=omega) only [Sh.out h1,go_sem,seval,↓reduceIte]
  ·have hk2:k<ds.length:=Za
   have hd:=(hD _ (Zq hk2)).1;have hd1:=hd.1;have hd2:=hd.2.1;have hd5:=hd.2.2.2.2.1;have hd6:=hd.2.2.2.2.2.1;obtain ⟨_,l2,l3,l4⟩:=A7 (ds:=ds) (P:=P) (X:=X) (j:=k);have cf:=cS (nth ds k) Za;generalize hY0:mN (nth ds k)=Y0 at cf;refine (cf).use (Wp ?_);refine cD ?_ ?_<;>intro h2<;>simp (disch:=omega) only [Sh.out h2,go_sem,seval,↓reduceIte]
   ·have hb:=hw.facts hD hk (show k-1<k by omega);have cc:=lD (nth ds k) (nth X (k-1)) (nth P (k-1)) Za Za Za Za Za (fun r hr=>(hb.2.2.2.2.2.2 r hr).1)
    have hix:((k:Int)-1).toNat=k-1:=Za
    have hlt:k-1<k:=Za
    have heX:Qw (X.map ZF) (k-1)=ZF (nth X (k-1)):=Wn Za;have heP:Qw (P.map UR) (k-1)=UR (nth P (k-1)):=Wn Za
    have hdE:dayE ds P X k=Tu (nth ds k) (nth X (k-1)) (nth P (k-1)):=by rw [dayE,if_neg Za]
    have hdI:dayI ds P X k=Fw (nth ds k) (nth X (k-1)) (nth P (k-1)):=by rw [dayI,if_neg Za]
    by_cases hz:dayE ds P X k=0
    ·obtain ⟨n1,n2,n3,n4⟩:=hw.next hD (Xg _) hk2 hz;have hs:=fun p c (h:ChoR (dayI ds P X k) (allL (dayI ds P X k)) p c 0)=>hw.snoc hz h;have hf: ∀p c e,e≠0->ChoR (dayI ds P X k) (allL (dayI ds P X k)) p c e->PlanR ds [] [] e:=fun p c e he h=>⟨P,X,k,hw,hk,.inr ⟨hk2,he,rfl,rfl,.inr ⟨hz,p,c,h⟩⟩⟩;rw [crT,<- hdE,if_pos hz,hz,<- hdI] at cc;generalize dayI ds P X k=Y at cc n1 n2 n3 n4 hs hf l2 l3 l4;have hsv:=PL Y n1 Za Za (by grind) (by grind);refine Xe [15,16] 17 mixed Zd Zd Zd Zb ?_
     simp (disch:=first | omega | (simp only [Zz,ZQ,Zw,Zv,ZE,ZK]<;>omega)) only [hix,heX,heP,hxl,hpl,hlt,eq_self,go_sem,seval,↓reduceIte];refine YT cc (Wp ?_);refine ZJ 15 _ _ Zd (by refine Wp ?_;exact ⟨rfl,rfl⟩) ?_;refine Wp ?_;refine ZJ 16 _ _ Zd (by refine Wp ?_;exact ⟨rfl,rfl⟩) (Yk ?_);refine Wp ?_;refine Oc hsv fun p c e hP=>Wp ?_;refine cD ?_ ?_<;>intro h4<;>simp (disch:=omega) only [Sh.out h4,go_sem,seval,↓reduceIte]
     ·exact ⟨_,_,Weak.mk (by simp (disch:=omega) only [HW,Zo,YJ h4,go_sem,seval]),[],[],e,hf p c e h4 hP,rfl,rfl⟩
     ·have he:e=0:=Za
      subst he
      have hc1:(k+1)*48<=140737488355328:=Za
      have hc2:k<=140737488355327:=Za
      have hc3:(k+1)*144<=140737488355328:=Za
      simp (disch:=first | omega | (simp only [Zz,ZQ,Zw,Zv,ZE,ZK]<;>omega)) only [hpl,hxl,eq_self,hc1,hc2,hc3,and_self,go_sem,seval];exact ⟨(k+1,P++ [p],X++ [Y]),⟨hs p c hP,Za⟩,Za,Weak.mk (by simp (disch:=first | omega | (simp only [Zz,ZQ,Zw,Zv,ZE,ZK]<;>omega)) only [XY,ZG,Zo,hxl,hpl,go_sem,seval])⟩
    ·have hf:PlanR ds [] [] (dayE ds P X k):=⟨P,X,k,hw,hk,.inr ⟨hk2,hz,rfl,rfl,.inl rfl⟩⟩;rw [crT,<- hdE,if_neg hz] at cc;generalize dayE ds P X k=E at cc hz hf;refine Xe [15,16] 17 mixed Zd Zd Zd Zb ?_;simp (disch:=first | omega | (simp only [Zz,ZQ,Zw,Zv,ZE,ZK]<;>omega)) only [hix,heX,heP,hxl,hpl,hlt,eq_self,go_sem,seval,↓reduceIte];refine YT cc (Wp ?_);refine ZJ 15 _ _ Zd (by refine Wp ?_;exact ⟨rfl,rfl⟩) ?_
     refine Wp ?_;refine ZJ 16 _ _ Zd (by refine Wp ?_;exact ⟨rfl,rfl⟩) (Yk ?_);refine Wp ?_;refine cD ?_ ?_<;>intro h4<;>simp (disch:=omega) only [Sh.out h4,go_sem,seval,↓reduceIte]
     ·exact ⟨_,_,Weak.mk (by simp (disch:=omega) only [HW,Zo,YJ h4,go_sem,seval]),[],[],E,hf,rfl,rfl⟩
     ·omega
   ·have hk0:k=0:=Za
    subst hk0
    have hz:dayE ds P X 0=0:=by rfl
    have hdI:dayI ds P X 0=Y0:=by rw [dayI,if_pos rfl,hY0]
    obtain ⟨n1,n2,n3,n4⟩:=hw.next hD (Xg _) hk2 hz;have hs:=fun p c (h:ChoR (dayI ds P X 0) (allL (dayI ds P X 0)) p c 0)=>hw.snoc hz h;have hf: ∀p c e,e≠0->ChoR (dayI ds P X 0) (allL (dayI ds P X 0)) p c e->PlanR ds [] [] e:=fun p c e he h=>⟨P,X,0,hw,hk,.inr ⟨hk2,he,rfl,rfl,.inr ⟨hz,p,c,h⟩⟩⟩;rw [hdI] at n1 n2 n3 n4 hs hf l2 l3 l4;refine Oc (PL Y0 n1 Za Za (by grind) (by grind)) fun p c e hP=>Wp ?_;refine ZP ?_ ?_<;>intro h4
    ·exact ⟨_,_,Weak.mk (by simp (disch:=omega) only [HW,Zo,YJ h4,go_sem,seval]),[],[],e,hf p c e h4 hP,rfl,rfl⟩
    ·have he:e=0:=Za
     subst he;exact ⟨(1,P++ [p],X++ [Y0]),⟨hs p c hP,Za⟩,Za,Weak.mk (by simp (disch:=first | omega | (simp only [Zz,ZQ,Zw,Zv,ZE,ZK]<;>omega)) only [XY,ZG,Zo,hxl,hpl,go_sem,seval])⟩
  ·have hkl:k=ds.length:=Za
   refine Zr (Weak.fz (o:=0) (by rfl)) ?_;refine Zr (Weak.fz (o:=1) (by rfl)) ?_;refine Zg [] _ _ _ _ ?_;simp (disch:=omega) only [ZG,Zo,Xo,ZC,hxl,hpl,eq_self,go_sem,seval];exact ⟨_,_,Weak.mk (by simp (disch:=omega) only [HW,go_sem,seval]),P,X,0,⟨P,X,k,hw,hk,.inl ⟨hkl,rfl,rfl,rfl⟩⟩,rfl,rfl⟩
theorem AF {α:Type} [DecidableEq α] {p q:α->Bool} {a:α} : ∀ {l:List α},l.Nodup->a∈l->p a=false->q a=true->(∀b∈l,b≠a->p b=q b)->(l.filter q).length=(l.filter p).length+1
 | [],_,h,_,_,_=>by simp at h
 | b::l,hn,h,hp,hq,he=>by
  rw [List.nodup_cons] at hn
  by_cases e:b=a
  ·grind [Bz]
  ·have ih:=AF hn.2 (by
    grind) hp hq fun c hc=>he c (Ym _ hc)
   grind
theorem fK {x:Inst} {l:List Vis} (h:RightV x l):XP l≠0:=fun e=>by
 obtain ⟨v,hv⟩: ∃v,v∈l:=by
  cases l with
  | nil=>exact absurd rfl h.ne
  | cons v l=>simp
 have hi:=h.inr v hv;have hb:=(h.bit v.order.toNat).2 ⟨v,hv,Za⟩
 grind
theorem nF {x:Inst} {t:Typ} {sp:List Stp} {k:Nat} {L:Lab} {b:Bool} (hT:TrpOk x t sp) (hk:k<sp.length) (he:(nxtF x t sp k L b).2=0):L.ready<=(nxtF x t sp k L b).1.ready:=by
 have hrs:=hT.rst
 have hd:L.ready<=ZO t L b:=by grind [ZO]
 have hgo:(Y8 x t sp k (ZO t L b)).2.2=0->ZO t L b<=(Y8 x t sp k (ZO t L b)).1:=fun e=>dA hT.net e;have hst:=hT.stp _ (ZD hk);unfold nxtF at he ⊢
 generalize Y8 x t sp k (ZO t L b)=g at *
 generalize ZO t L b=d at *
 generalize Wo L b=s at *
 generalize XX k d b L.she=m at *
 have hk2: ¬k=sp.length:=Za
 unfold Wt at he ⊢
 grind
theorem nE {x:Inst} {t:Typ} {sp:List Stp} {L:Lab} {b:Bool} (hT:TrpOk x t sp) (he:(nxtF x t sp sp.length L b).2=0):L.ready<=(nxtF x t sp sp.length L b).1.she.fin/\(nxtF x t sp sp.length L b).1.she.fin<=t.cls:=by
 have hrs:=hT.rst
 have hd:L.ready<=ZO t L b:=by grind [ZO]
 have hgo:(Y8 x t sp sp.length (ZO t L b)).2.2=0->ZO t L b<=(Y8 x t sp sp.length (ZO t L b)).1:=fun e=>dA hT.net e;unfold nxtF at he ⊢
 generalize Y8 x t sp sp.length (ZO t L b)=g at *
 generalize ZO t L b=d at *
 generalize Wo L b=s at *
 generalize XX sp.length d b L.she=m at *
 unfold Wt at he ⊢
 grind
theorem PF {x:Inst} {t:Typ} {sp:List Stp} (hT:TrpOk x t sp): ∀(bs:List Bool) (k:Nat) (L:Lab),k+bs.length=sp.length+1->0<bs.length->(Xu x t sp k L bs).2=0->L.ready<=(Xu x t sp k L bs).1.she.fin/\(Xu x t sp k L bs).1.she.fin<=t.cls
 | [],k,L,_,h3,_=>by simp at h3
 | b::bs,k,L,h2,_,h=>by
  rw [Xu] at h ⊢
  by_cases h4:(nxtF x t sp k L b).2=0
  ·simp only [h4,if_true] at h ⊢
   cases bs with
   | nil =>
    simp_all [Xu,nE]
   | cons b2 bs =>
    simp at h2;have h5:=PF hT (b2::bs) (k+1) _ (by simp;omega) Zb h;have h6:=nF hT (show k<sp.length by omega) h4;omega
  grind
theorem lZ {x:Inst} {r:Rte} (hx:InstOk x) (h:Z4 x r=0):(ZX x r).opn<=(Wr x r).fin/\(Wr x r).fin<=(ZX x r).cls:=by
 obtain ⟨hty,h0,hs⟩:=Uh (VB h)
 have e:Wr x r=(Xp x r).1:=by rw [Wr,if_pos h]
 have ee:(Xp x r).2=0:=by rw [Z4,if_pos (VB h)] at h;exact h
 have hT:=Kw hx hty (Ua h0);obtain ⟨bs,hb1,hb2,hb3⟩:=FW (by grind [Yi]) ee;have hb3:(Xp x r).1=_:=hb3;rw [e,hb3];have h1:=PF hT bs 0 _ Za Za hb2
 grind [labF]
def UQ (l:List Vis) (N:Nat):Nat:=(List.range N).countP fun i:Nat=>hasO l (i:Int)
theorem RI {l m:List Vis} {N:Nat} (h: ∀v∈l,v∈m):UQ l N<=UQ m N:=List.countP_mono_left fun i _ hi=>by
 grind [XL]
theorem OK {x:Inst} {l:List Vis} {t:Int} (hi:Inr x l): ∀n,n<=l.length->(0<=(chgF x l t n).1/\(chgF x l t n).1<=(UQ (l.take n) x.orders.length:Int))/\(0<=(chgF x l t n).2/\(chgF x l t n).2<=(UQ (l.take n) x.orders.length:Int))
 | 0,_=>by simp [chgF]
 | n+1,h=>by
  have ih:=OK (t:=t) hi n Za
  have hn:n<l.length:=Za
  have hv:=hi _ (ZD hn)
  have htk:l.take (n+1)=l.take n++ [nth l n]:=by rw [Xm hn,Ze hn]
  have hmono:UQ (l.take n) x.orders.length<=UQ (l.take (n+1)) x.orders.length:=RI fun v hv=>by grind
  have hap: ∀i:Int,hasO (l.take (n+1)) i=(hasO (l.take n) i||decide ((nth l n).order=i)):=fun i=>by grind [hasO]
  rw [chgF]
  split
  ·rename_i hf
   have hadd:UQ (l.take (n+1)) x.orders.length=UQ (l.take n) x.orders.length+1:=by
    unfold UQ;rw [Dn,Dn]
    have ei:(((nth l n).order.toNat:Nat):Int)=(nth l n).order:=Za
    refine AF (a:=(nth l n).order.toNat) List.nodup_range (ZL.2 Za) ?_ ?_ fun b _ hb=> ?_
    ·rw [ei];simp only [W3,Yr] at hf;exact hf
    ·grind
    grind
   omega
  ·omega
theorem AD {x:Inst} {r:Rte} (hx:InstOk x) (h:Z4 x r=0):WX (Xt x r)/\(Xt x r).cost<=22000000/\(Xt x r).moved<=(UQ r.visits x.orders.length:Int)/\(Xt x r).other<=(UQ r.visits x.orders.length:Int)/\(Xt x r).work<=4096:=by
 have hg:=I5 hx h;have hf:=lZ hx h;obtain ⟨hty,_,_⟩:=Uh (VB h);have hnum:=VK hx (show r.typ.toNat<x.types.length by omega);have htyp:nth x.types r.typ.toNat=ZX x r:=rfl;rw [htyp] at hnum
 have e:(Xp x r).1=Wr x r:=by rw [Wr,if_pos h]
 have hch:=OK (t:=r.typ) (WT h).inr r.visits.length (Xg _);rw [Yb] at hch;rw [Xt,if_pos h,e];unfold Zep WX
 generalize Wr x r=s at *
 generalize ZX x r=t at *
 have p1:0<=t.perMile*s.miles/\t.perMile*s.miles<=100*210000:=⟨VQ Za Za,Vq Za Za Za Za⟩
 have hW:0<=s.fin-t.opn/\s.fin-t.opn<=4096:=Za
 have p2:0<=t.perTick*(s.fin-t.opn)/\t.perTick*(s.fin-t.opn)<=100*4096:=⟨VQ Za Za,Vq Za Za Za Za⟩
 have p3:0<=(s.fin-t.opn).tdiv 64/\(s.fin-t.opn).tdiv 64<=64:=by
  grind
 have p4:0<=(s.fin-t.opn).tdiv 64*(s.fin-t.opn).tdiv 64/\(s.fin-t.opn).tdiv 64*(s.fin-t.opn).tdiv 64<=64*64:=⟨VQ p3.1 p3.1,Vq p3.2 p3.2 p3.1 Za⟩
 grind
theorem PP {α:Type} {f:α->Nat} {p:α->Bool} : ∀l:List α,(l.map fun a=>f a+(if p a=true then 1 else 0)).sum=(l.map f).sum+l.countP p
 | []=>rfl
 | a::l=>by
  rw [ZG,ZG,KX,KX,PP l,BA];omega
theorem bG {rs:List Rte} {us:List Int} {N:Nat} (h: ∀i:Nat,i<N->rs.countP (fun r=>hasO r.visits (i:Int))+us.countP (fun u=>decide (u=(i:Int)))<=1): ∀n,n<=N->(rs.map fun r=>UQ r.visits n).sum+(us.map fun u=>(List.range n).countP fun i=>decide (u=((i:Nat):Int))).sum<=n
 | 0,_=>by
  have h1: ∀l:List Rte,(l.map fun r=>UQ r.visits 0).sum=0:=fun l=>by
   induction l with
   | nil=>rfl
   | cons a l ih=>grind [UQ]
  have h2: ∀l:List Int,(l.map fun u=>(List.range 0).countP fun i=>decide (u=((i:Nat):Int))).sum=0:=fun l=>by
   induction l with
   | nil=>rfl
   | cons a l ih=>grind
  grind
 | n+1,hn=>by
  have ih:=bG h n Za;have hh:=h n Za
  have e1:(fun r:Rte=>UQ r.visits (n+1))=fun r=>UQ r.visits n+(if hasO r.visits (n:Int)=true then 1 else 0):=funext fun r=>by
   simp_all [UQ,Yu]
  have e2:(fun u:Int=>(List.range (n+1)).countP fun i=>decide (u=((i:Nat):Int)))=fun u=>((List.range n).countP fun i=>decide (u=((i:Nat):Int)))+(if decide (u=(n:Int))=true then 1 else 0):=funext fun u=>by
   simp_all [Yu]
  grind [PP]
theorem Eh {α:Type} {f:α->Sco} {g:α->Nat} : ∀(l:List α) (s:Sco),(∀a∈l,(f a).cost<=22000000/\(f a).moved<=(g a:Int)/\(f a).other<=(g a:Int)/\(f a).work<=4096) ->
  (l.foldl (fun s a=>XV s (f a)) s).cost<=s.cost+22000000*(l.length:Int)/\(l.foldl (fun s a=>XV s (f a)) s).moved<=s.moved+((l.map g).sum:Nat)/\(l.foldl (fun s a=>XV s (f a)) s).other<=s.other+((l.map g).sum:Nat)/\(l.foldl (fun s a=>XV s (f a)) s).work<=s.work+4096*(l.length:Int)
 | [],s,_=>Zb
 | a::l,s,h=>by
  have h1:=h a Zb;have h2:=Eh l (XV s (f a)) fun b hb=>h b (Ym _ hb)
  grind [XV]
theorem HI {α:Type} {g:α->Nat} : ∀l:List α,(∀a∈l,1<=g a)->l.length<=(l.map g).sum
 | [],_=>Zb
 | a::l,h=>by
  have h1:=h a Zb;have h2:=HI l fun b hb=>h b (Ym _ hb);rw [ZG,KX,Zz];omega
theorem bC {x:Inst} {l:List Vis} (h:RightV x l):1<=UQ l x.orders.length:=by
 obtain ⟨v,hv⟩: ∃v,v∈l:=by
  cases l with
  | nil=>exact absurd rfl h.ne
  | cons v l=>simp
 have hi:=h.inr v hv;exact Qo.2 ⟨v.order.toNat,ZL.2 Za,XL.2 ⟨v,hv,Za⟩⟩
theorem Fa {x:Inst} (hx:InstOk x) (i:Int):WX (Xk x i).1/\(Xk x i).1.cost<=22000000/\(Xk x i).1.moved<=1/\(Xk x i).1.other<=1/\(Xk x i).1.work<=4096:=by
 unfold Xk
 split
 ·simp [WX,zSco]
 ·split
  ·simp [WX,zSco]
  ·split
   ·simp [WX,zSco]
   ·have ha:=(hx.orders.2 i.toNat Za).arg;simp only [argOk,rng,Zt,Zl] at ha
    grind [WX]
theorem PH {x:Inst} {p:Pln} (hx:InstOk x) (hn:x.orders.length<=4) (hk:Wu x p=0):(XW (Jx x p)).2=0/\p.routes.length+p.unserved.length<=4:=by
 obtain ⟨hev,hun⟩:=Vn hk;obtain ⟨k1,k2,k3,k4,k5⟩:=KG hk;have hc:=bG (rs:=p.routes) (us:=p.unserved) k2 x.orders.length (Xg _);have hR: ∀r∈p.routes,WX (Xt x r)/\(Xt x r).cost<=22000000/\(Xt x r).moved<=(UQ r.visits x.orders.length:Int)/\(Xt x r).other<=(UQ r.visits x.orders.length:Int)/\(Xt x r).work<=4096:=fun r hr=>AD hx (hev r hr)
 have hU1: ∀u∈p.unserved,1<=(List.range x.orders.length).countP fun i=>decide (u=((i:Nat):Int)):=fun u hu=>by
  have:=k1 u hu;exact Qo.2 ⟨u.toNat,ZL.2 Za,by simp;omega⟩
 have l1:=HI p.routes fun r hr=>bC (WT (hev r hr));have l2:=HI p.unserved hU1;have f1:=Eh (f:=fun r=>Xt x r) (g:=fun r=>UQ r.visits x.orders.length) p.routes zSco fun r hr=>(hR r hr).2
 have f2:=Eh (f:=fun i=>(Xk x i).1) (g:=fun u=>(List.range x.orders.length).countP fun i=>decide (u=((i:Nat):Int))) p.unserved (Y2 x p.routes) fun u hu=>by
  have h1:=(Fa hx u).2;have h2:=hU1 u hu;omega
 have hpos: ∀ {α:Type} (f:α->Sco) (l:List α) (s:Sco),(∀a∈l,WX (f a))->WX s->WX (l.foldl (fun s a=>XV s (f a)) s):=fun f l=>by
  induction l with
  | nil=>simp
  | cons r l ih=>simp_all [Ki]
 have q1:WX (Y2 x p.routes):=hpos (fun r=>Xt x r) p.routes zSco (fun r hr=>(hR r hr).1) (by simp [WX,zSco]);have q2:WX (QP x (Y2 x p.routes) p.unserved):=hpos (fun i=>(Xk x i).1) p.unserved _ (fun u _=>(Fa hx u).1) q1
 have hsc:Jx x p=QP x (Y2 x p.routes) p.unserved:=by rw [Jx,if_pos hk]
 rw [hsc,QU q2];have f1:(Y2 x p.routes).cost<=zSco.cost+_/\(Y2 x p.routes).moved<=zSco.moved+_/\(Y2 x p.routes).other<=zSco.other+_/\(Y2 x p.routes).work<=zSco.work+_:=f1;have f2:(QP x (Y2 x p.routes) p.unserved).cost<=(Y2 x p.routes).cost+_/\(QP x (Y2 x p.routes) p.unserved).moved<=(Y2 x p.routes).moved+_/\(QP x (Y2 x p.routes) p.unserved).other<=(Y2 x p.routes).other+_/\(QP x (Y2 x p.routes) p.unserved).work<=(Y2 x p.routes).work+_:=f2;simp only [zSco] at f1;omega
theorem SP {x:Inst} (hx:InstOk x) (hn:x.orders.length<=4): ∀c∈allL x,rightB x c=true:=fun c hc=>by
 obtain ⟨k,S,h1,h2,h3,h4,h5⟩:=DQ.1 hc;obtain ⟨m,m1,m2,m3⟩:=FX h4;have hp4:2^x.orders.length<=2^4:=Ys Za hn
 have hal:Wk x.orders x.apart x.before ((S:Nat):Int)=0:=by
  grind [JV]
 have hf:=YV hx;have ha:Alw x S:=(CT Za (by rw [Nat.div_eq_zero_iff];exact .inr h3) hf.val).1 hal
 have hw:Oh S (Yc x x.orders.length)=true:=by
  rw [iV hn Za,Zt,Zl,Zy];refine ⟨h3,fun i hi=> ?_⟩
  cases hb:S.testBit i with
  | false=>rfl
  | true=>rw [ha.off i (ZL.1 hi) hb];rfl
 have he:=Kc m2;have hfn:=AD hx he
 have hcn:UQ (EW (k:Int) m).visits x.orders.length<=x.orders.length:=by
  have:=List.countP_le_length (p:=fun i:Nat=>hasO (EW (k:Int) m).visits (i:Int)) (l:=List.range x.orders.length);rw [List.length_range] at this;exact this
 have hpr:(V7 x (EW k m)).1=(((Xt x (EW k m)).cost*16+(Xt x (EW k m)).moved)*16+(Xt x (EW k m)).other)*65536+(Xt x (EW k m)).work:=by
  rw [V7,if_pos he]
  grind [ME,QU]
 have hp:=LV x (EW k m)
 have h6:(VZ x k S m).price<=18014398509481984:=by
  show (V7 x (EW k m)).1<=_
  omega
 rw [h5,m3];simp only [rightB,Zt,Zl];refine ⟨?_,?_,?_,?_,?_,h6⟩
 ·show (0:Int)<=(k:Int);omega
 ·show (k:Int)<_;omega
 ·show (0:Int)<(S:Int);omega
 ·show Oh ((S:Nat):Int).toNat _=true
  grind
 ·exact hp.1
theorem SE {x:Inst} {p:Pln} (hx:InstOk x) (hn:x.orders.length<=4) (hk:Wu x p=0):(∀r∈p.routes,V7 x r=XW (Xt x r)/\(V7 x r).2=0)/\(XW (Jx x p)).1=(p.routes.map fun r=>(V7 x r).1).sum+(p.unserved.map fun u=>skR x u.toNat).sum:=by
 have hw:=(PH hx hn hk).1;have hpos: ∀r∈p.routes,WX (Xt x r):=fun r hr=>(AD hx ((Vn hk).1 r hr)).1;obtain ⟨hev,hun⟩:=Vn hk;obtain ⟨k1,k2,k3,k4,k5⟩:=KG hk
 have hsc:Jx x p=QP x (Y2 x p.routes) p.unserved:=by rw [Jx,if_pos hk]
 rw [hsc] at hw ⊢
 have hsR:WX (Y2 x p.routes):=by
  have: ∀(l:List Rte) (s:Sco),(∀r∈l,WX (Xt x r))->WX s->WX (l.foldl (fun s r=>XV s (Xt x r)) s):=fun l=>by
   induction l with
   | nil=>simp
   | cons r l ih=>simp_all [Ki]
  exact this _ _ hpos (by simp [WX,zSco])
 obtain ⟨w1,w2,w3⟩:=Zdt (f:=fun i=>(Xk x i).1) p.unserved (Y2 x p.routes) (fun u _=>(Fa hx u).1) hsR hw;obtain ⟨_,v2,v3⟩:=Zdt (f:=fun r=>Xt x r) p.routes zSco hpos (by simp [WX,zSco]) w1
 have hpr: ∀r∈p.routes,V7 x r=XW (Xt x r):=fun r hr=>by simp_all [V7]
 refine ⟨fun r hr=>⟨hpr r hr,by grind⟩,?_⟩
 have s1:(p.routes.map fun r=>(V7 x r).1)=p.routes.map fun r=>(XW (Xt x r)).1:=YX fun r hr=>by rw [hpr r hr]
 have s2:(p.unserved.map fun u=>skR x u.toNat)=p.unserved.map fun u=>(XW (Xk x u).1).1:=YX fun u hu=>by
  rw [skR,show ((u.toNat:Nat):Int)=u by have:=k1 u hu;omega]
 have z0:(XW zSco).1=0:=by decide
 grind [QP,Y2]
def Cf (l:List Vis) (Q:Nat->Bool) (N:Nat):Nat:=(List.range N).countP fun i:Nat=>hasO l (i:Int)&&Q i
theorem aP {x:Inst} {l:List Vis} {t:Int} (hi:Inr x l): ∀n,n<=l.length->(chgF x l t n).2=(Cf (l.take n) (fun i=>ZT (nth x.orders i).last t) x.orders.length:Nat)
 | 0,_=>by
  grind [hasO,chgF,Cf,KP]
 | n+1,h=>by
  have ih:=aP (t:=t) hi n Za
  have hn:n<l.length:=Za
  have hv:=hi _ (ZD hn)
  have htk:l.take (n+1)=l.take n++ [nth l n]:=by rw [Xm hn,Ze hn]
  have hap: ∀i:Int,hasO (l.take (n+1)) i=(hasO (l.take n) i||decide ((nth l n).order=i)):=fun i=>by rw [htk,hasO,hasO,List.any_append];simp
  have ei:(((nth l n).order.toNat:Nat):Int)=(nth l n).order:=Za
  rw [chgF]
  split
  ·rename_i hf
   have hno:hasO (l.take n) (((nth l n).order.toNat:Nat):Int)=false:=by
    rw [ei];simp only [W3,Yr] at hf;exact hf
   simp only
   split
   ·rename_i hq
    have hadd:Cf (l.take (n+1)) (fun i=>ZT (nth x.orders i).last t) x.orders.length=Cf (l.take n) (fun i=>ZT (nth x.orders i).last t) x.orders.length+1:=by
     unfold Cf;rw [Dn,Dn];refine AF (a:=(nth l n).order.toNat) List.nodup_range (ZL.2 Za) (by rw [hno];rfl) (by rw [hap,ei];simp [hq]) fun b _ hb=> ?_;rw [hap,YZ Za,Bool.or_false]
    omega
   ·rename_i hq
    have hadd:Cf (l.take (n+1)) (fun i=>ZT (nth x.orders i).last t) x.orders.length=Cf (l.take n) (fun i=>ZT (nth x.orders i).last t) x.orders.length:=by
     unfold Cf;refine List.countP_congr fun b _=> ?_;rw [hap]
     by_cases hb:b=(nth l n).order.toNat
     ·subst hb;simp [hq]
     ·rw [YZ Za,Bool.or_false]
    omega
  ·rename_i hf
   have hin:hasO (l.take n) (nth l n).order=true:=by
    simp only [W3,Yr,Bool.not_eq_false] at hf;exact hf
   have hadd:Cf (l.take (n+1)) (fun i=>ZT (nth x.orders i).last t) x.orders.length=Cf (l.take n) (fun i=>ZT (nth x.orders i).last t) x.orders.length:=by
    unfold Cf;refine List.countP_congr fun b _=> ?_;rw [hap]
    by_cases hb:(nth l n).order=(b:Int)
    ·rw [<- hb,hin];simp
    ·rw [YZ hb,Bool.or_false]
   omega
theorem D7 {α:Type} {p q r:α->Bool} : ∀ {l:List α},(∀a∈l,r a=(p a||q a)/\(p a=true->q a=false))->l.countP r=l.countP p+l.countP q
 | [],_=>rfl
 | a::l,h=>by
  obtain ⟨h1,h2⟩:=h a Zb;have ih:=D7 (l:=l) (p:=p) (q:=q) (r:=r) fun b hb=>h b (Ym _ hb);rw [BA,BA,BA,ih,h1]
  cases hp:p a<;>cases hq:q a<;>simp<;>first | omega | (rw [h2 hp] at hq;cases hq)
theorem Lu {rs:List Rte} {o:Nat} : ∀k:Nat,0<=ZZ rs k o->(ZZ rs k o).toNat<k/\hasO (nth rs (ZZ rs k o).toNat).visits (o:Int)=true
 | 0,h=>by simp [ZZ] at h
 | k+1,h=>by
  rw [ZZ] at h ⊢
  split
  ·grind
  ·rename_i c;rw [if_neg c] at h;have:=Lu k h
   grind
theorem lP {α:Type} [Inhabited α] {p:α->Bool} {l:List α} {j k:Nat} (hjk:j<k) (hk:k<l.length) (h1:p (nth l j)=true) (h2:p (nth l k)=true):2<=l.countP p:=by
 have e:l=l.take k++l.drop k:=(List.take_append_drop k l).symm;have c1:0<(l.take k).countP p:=Qo.2 ⟨nth l j,ZN.2 ⟨j,by grind,by grind [Ze]⟩,h1⟩;have c2:0<(l.drop k).countP p:=Qo.2 ⟨nth l k,ZN.2 ⟨0,by grind,by grind [Ze]⟩,h2⟩
 grind
def EM (x:Inst) (rs:List Rte) (k i:Nat):Bool:=decide (0<=ZZ rs k i)&&ZT (nth x.orders i).last (UT rs (ZZ rs k i))
theorem Pw {x:Inst} {rs:List Rte} (h: ∀i:Nat,i<x.orders.length->rs.countP (fun r=>hasO r.visits (i:Int))<=1) (hr: ∀r∈rs,Z4 x r=0): ∀k,k<=rs.length->(Y2 x (rs.take k)).other=((List.range x.orders.length).countP (EM x rs k):Nat)
 | 0,_=>by
  rw [KP.2 (fun i _=>by simp [EM,ZZ])];rfl
 | k+1,hk=>by
  have hk2:k<rs.length:=Za
  have ih:=Pw h hr k Za;rw [CK hk2];have he:=hr _ (ZD hk2)
  have h3:(Xt x (nth rs k)).other=(Cf (nth rs k).visits (fun i=>ZT (nth x.orders i).last (nth rs k).typ) x.orders.length:Nat):=by
   have:=aP (t:=(nth rs k).typ) (WT he).inr (nth rs k).visits.length (Xg _);rw [Yb] at this;rw [Xt,if_pos he,<- this];rfl
  have h4:(List.range x.orders.length).countP (EM x rs (k+1))=(List.range x.orders.length).countP (EM x rs k)+Cf (nth rs k).visits (fun i=>ZT (nth x.orders i).last (nth rs k).typ) x.orders.length:=by
   refine D7 fun i hi=> ?_;have hin:i<x.orders.length:=ZL.1 hi
   by_cases c:hasO (nth rs k).visits (i:Int)=true
   ·have hneg: ¬ 0<=ZZ rs k i:=fun h0=>by
     obtain ⟨q1,q2⟩:=Lu k h0;have:=lP (p:=fun r:Rte=>hasO r.visits (i:Int)) q1 hk2 q2 c;have:=h i hin;omega
    have e1:EM x rs k i=false:=by simp [EM,hneg]
    have e2:ZZ rs (k+1) i=(k:Int):=by rw [ZZ,if_pos c]
    rw [e1,EM,e2,UT,if_pos Za,X3,c];simp
   ·have e2:ZZ rs (k+1) i=ZZ rs k i:=by rw [ZZ,if_neg c]
    have e3:hasO (nth rs k).visits (i:Int)=false:=by simpa using c
    rw [e3];simp [EM,e2]
  show (Y2 x (rs.take k)).other+(Xt x (nth rs k)).other=_
  rw [ih,h3,h4];omega
theorem GN {x:Inst} : ∀(l:List Int) (s:Sco),(QP x s l).other=s.other
 | [],_=>rfl
 | i::l,s=>by
  have e:(Xk x i).1.other=0:=by
   unfold Xk
   split
   ·rfl
   ·split
    ·rfl
    ·split<;>rfl
  have:=GN (x:=x) l (XV s (Xk x i).1)
  show (QP x (XV s (Xk x i).1) l).other=_
  rw [this]
  show s.other+(Xk x i).1.other=_
  rw [e];omega
theorem LR {x:Inst} {p:Pln} (hk:Wu x p=0):(Jx x p).other=((List.range x.orders.length).countP (EM x p.routes p.routes.length):Nat):=by
 obtain ⟨_,k2,_⟩:=KG hk;have:=Pw (rs:=p.routes) (fun i hi=>by grind) (Vn hk).1 p.routes.length (Xg _)
 simp_all [Jx,GN]
theorem dO {x:Inst} {p:Pln} (hk:Wu x p=0):V2 x p=0:=by
 obtain ⟨_,k2,_⟩:=KG hk;have hr:=(Vn hk).1
 have hno: ∀j,j<p.routes.length->Ah x (nth p.routes j)=false:=fun j hj=>by
  have he:=hr _ (ZD hj);obtain ⟨⟨t1,t2⟩,_,_⟩:=Uh (VB he);have hi:Inr x (nth p.routes j).visits:=(WT he).inr;rw [Ah,Ds,Ds,XS];refine ⟨⟨YZ Za,YZ Za⟩,fun v hv=> ?_⟩;have:=hi v hv
  simp_all [Od]
 rw [HF hno,if_neg];intro h2;obtain ⟨o,h3,j,hj,h4⟩:=(Il fun j hj v hv=>((Kk (hno j hj)).2 v hv).1).1 h2;obtain ⟨v,hv,e⟩:=XL.1 h4;have hin:=(Kk (hno j hj)).2 v hv;have h5:=k2 o Za
 have h6: ∀k,k<=p.routes.length->nW p.routes (o:Int) k=(p.routes.take k).countP fun r=>hasO r.visits (o:Int):=fun k=>by
  induction k with
  | zero=>grind [nW]
  | succ k ih =>
   intro hk
   have hk2:k<p.routes.length:=Za
   rw [nW,ih Za,Xm hk2,List.countP_append,Ze hk2];simp
 have:=h6 _ (Xg _)
 grind
theorem aI {x b:Inst} {now last:List Int} : ∀k,Is x b now last k=(List.range k).countP fun i=>decide (rS b now last (nth x.orders i) i)
 | 0=>rfl
 | k+1=>by rw [Is,aI k,Yu,List.countP_append];simp
theorem NM {x:Inst} {p:Pln} (hk:Wu x p=0) (h: ∀i,i<x.orders.length->(nth x.orders i).last= -1):(Jx x p).other=0:=by
 grind [LR,KP,EM,ZT]
theorem NL {d b:Inst} {q p:Pln} (hk:Wu (Fw d b q) p=0) (h: ∀i,i<d.orders.length->(nth d.orders i).last= -1) :
  (Jx (Fw d b q) p).other=(Is (Fw d b q) b (US (Fw d b q) p) (US b q) (Fw d b q).orders.length:Nat):=by
 have hl:(Fw d b q).orders.length=d.orders.length:=YS;have hty: ∀r∈p.routes,0<=r.typ:=fun r hr=>(Uh (VB ((Vn hk).1 r hr))).1.1;rw [LR hk,aI]
 congr 1
 refine List.countP_congr fun i hi=> ?_;have hi2:i<(Fw d b q).orders.length:=ZL.1 hi
 have HE:i<d.orders.length:=Za
 have e1:nth (Fw d b q).orders i=JX d b q i:=UJ HE;have e2:nth (US (Fw d b q) p) i=UT p.routes (ZZ p.routes p.routes.length i):=Ko hi2
 have e3:(JX d b q i).name=(nth d.orders i).name:=by rw [JX];split<;>rfl
 have hlr:=Uf (rs:=p.routes) (o:=i) p.routes.length
 have hge:0<=UT p.routes (ZZ p.routes p.routes.length i)↔0<=ZZ p.routes p.routes.length i:=by
  grind [UT,Zq]
 rw [Zl,rS,e1,e3,e2,EM,e1];generalize UT p.routes (ZZ p.routes p.routes.length i)=T at hge ⊢;generalize ZZ p.routes p.routes.length i=L at hge ⊢;rw [JX];simp only [Zt,Zl,ZT]
 grind [Ej]
end Go.Proofs.YtiigdaohjanidaaGreatDoor.K
