/- Declarations that the closing texts need, part 24: joined by tools/slim.py. -/
import Derived.Test.YtiigdaohjanidaaGreatDoorZ23
import Derived.Shelf.SlSortCmp.NoneTotal
set_option linter.unusedVariables false
set_option linter.unusedSimpArgs false
namespace Go.AM
open Go.RowKit Go.Shelf Go.Lib Go.Sort Go.Proofs
theorem dB {W w':World} {H':List AM.Obj} {ι':List (Option Nat)} (g:Good Ai [] [] W H' ι' w'): ∃q os',w'=grow (W.drewN q) os':=by
 refine ⟨w'.drawn-W.drawn,w'.heap.extract W.heap.size w'.heap.size,?_⟩
 have h1:w'.heap=W.heap++w'.heap.extract W.heap.size w'.heap.size:=by
  apply Array.ext_getElem?;intro i
  by_cases hi:i<W.heap.size
  ·rw [Cr hi];exact g.keep i hi Zb
  ·rw [Array.getElem?_append_right Za];have:=g.size;rw [Array.getElem?_extract]
   split
   ·congr 1;omega
   ·rw [Array.getElem?_eq_none Za]
 have h2:W.drawn<=w'.drawn:=g.tape.2.resolve_right fun h=>h;have h3:=g.tape.1;have h4:=g.os;have h5:=g.output
 cases w'
 simp only [grow,World.drewN] at *
 congr 1
 omega
def Ob (c:Array Value) (k i:Nat):List Value:=(List.range k).map fun j=>c.getD (i*k+j) undef
theorem EO (c k i):(Ob c k i).length=k:=by simp [Ob]
theorem BM {c k i j} (h:j<k):(Ob c k i)[j]! =c.getD (i*k+j) undef:=by
 rw [List.getElem!_eq_getElem?_getD,Ob,Xy,List.getElem?_range h];rfl
theorem ACalls.sortFunc {P : Program} {ρ : Ren} (L : SlLaysF0.n6 P ρ) (hg : Zh P (ρ.f 6)) (k : Nat) (aE : ∀ w, (isAgg (ρ.t 24)).run P w = .ok true w) (zE : ∀ w, (Go.sizeOf (ρ.t 24)).run P w = .ok k w)
    {β : Type} [Inhabited β] (f : β -> PV) (hf : ∀ x, ∃ cs, f x = .agg cs /\ cs.length = k /\ cs.all (·.one) = true) (cf : β -> β -> Int) (hO : SWO (ltOf cf)) (g : FuncId)
    (hcmp : ∀ x y, ACalls P g [.p (f x), .p (f y)] [] fun r H' => r = .p (.int .i64 (cf x y)) /\ H' = []) (xs : List β) (hlen : xs.length < 4611686018427387904) {H : List AM.Obj} {o : Nat} (hHo : H[o]? = some (.elems k (xs.map f))) :
    ACalls P (ρ.f 6) [.sl o 0 xs.length xs.length, .fn (.func g) [] []] H fun y H' => y = .tup [] /\ ∃ ys : List β, ys.Perm xs /\ ys.Pairwise (fun a b => ¬ cf b a < 0) /\ H' = H.set o (.elems k (ys.map f)) := by
  refine ⟨hg, fun F ι w vs hr hv => ?_⟩;obtain ⟨hv1, hv2⟩ := hv;have h0 := hv2 0 _ rfl;have h1 := hv2 1 _ rfl
  have hvs : vs = #[vs.getD 0 undef, vs.getD 1 undef] := by
    apply Array.ext
    · simpa using hv1
    · intro i h2 h3
      have : i = 0 \/ i = 1 := by simp at hv1; omega
      rcases this with rfl | rfl <;> simp [Array.getD, h2]
  rw [hvs];generalize vs.getD 0 undef = v0 at h0 ⊢;generalize vs.getD 1 undef = v1 at h1 ⊢;clear hvs hv1 hv2
  cases h1 with | fn _ _ _ a e hs ht _ _ =>
  have ea : a = #[] := Dq (by simpa using hs);have ee : e = #[] := Dq (by simpa using ht);subst ea; subst ee;generalize hL : xs.length = n at h0 hlen
  by_cases hz : n = 0
  · subst hz
    obtain rfl : xs = [] := List.length_eq_zero_iff.1 hL
    have e1 : H.set o (.elems k (([] : List β).map f)) = H := by
      apply Jx;intro i;rw [Us]
      split
      · rename_i hi; subst hi; rw [hHo]; simp [(Zo.1 hHo).1]
      · rfl
    obtain ⟨ad, cap, rfl⟩ : ∃ ad cap, v0 = .slice ad 0 cap := by
      cases h0 with
      | slNil => exact ⟨_, _, rfl⟩
      | sl => exact ⟨_, _, rfl⟩
      | slD _ _ _ _ _ hd => rw [hHo] at hd; cases hd
      | slS _ _ _ _ _ S2 xs2 hd hne => rw [hHo] at hd; simp at hd; obtain ⟨_, rfl⟩ := hd; simp at hne
      | slC _ _ _ _ _ _ hd => rw [hHo] at hd; cases hd
    refine (AnyF.slices_SortFunc_none L ad cap _ w).mono ?_;rintro e w' ⟨rfl, rfl⟩;exact ⟨.tup [], _, ι, _, rfl, ⟨rfl, [], .refl _, .nil, e1.symm⟩, Good.refl hr, .tup [] #[] Zb Zb⟩
  have hn : 0 < n := Za
  cases h0 with
  | slNil => omega
  | slD _ _ _ _ _ hd => rw [hHo] at hd; cases hd
  | slS _ _ _ _ _ S ys hd hlt => rw [hHo] at hd; simp at hd; obtain ⟨_, rfl⟩ := hd; simp at hlt; omega
  | slC _ _ _ _ _ _ hd => rw [hHo] at hd; cases hd
  | sl _ _ _ _ b S cap t ys c hι hH ht2 hw hcap hl hle hm =>
  rw [hHo] at hH;simp at hH;obtain ⟨rfl, rfl⟩ := hH;rcases hr.elm o k (xs.map f) hHo with ⟨e1, _⟩ | ⟨b2, c2, t2, cap2, e1, e2, e3, e4, e5, e6, e7⟩
  · rw [hι] at e1; cases e1
  rw [hι] at e1;simp at e1; subst e1;rw [hw] at e2;simp at e2;obtain ⟨rfl, rfl⟩ := e2;have hbs : b < w.heap.size := (hr.avo o b hι).2;have hbF : ¬ F b := (hr.avo o b hι).1
  -- an index, made one that there is
  let ix : Nat -> Nat := fun i => if i < n then i else 0
  have hix : ∀ i, ix i < n := fun i => by simp only [ix]; split <;> omega
  have hixe : ∀ i, i < n -> ix i = i := fun i hi => by simp only [ix]; rw [if_pos hi]
  let enc : Nat -> List Value := fun i => Ob c k (ix i)
  have hk : ∀ x, (enc x).length = k := fun x => EO _ _ _
  -- one cell of an element
  have cell : ∀ i, i < n -> ∃ cs, f (nth xs i) = .agg cs /\ cs.length = k /\ ∀ (j : Nat) (y : PV), cs[j]? = some y -> y.one = true /\ RP (Own F ι) w y (c.getD (i * k + j) undef) := fun i hi => by
    obtain ⟨cs, q1, q2, q3⟩ := hf (nth xs i);refine ⟨cs, q1, q2, fun j y hj => ⟨Zw.1 q3 y (Xq hj), ?_⟩⟩;refine e7 i (f (nth xs i)) j y ?_ (by rw [q1]; exact hj);rw [Xy, Wv Za, Zj Za]; rfl
  have one : ∀ x, ∀ v ∈ enc x, v.oneCell' = true := fun x v hv => by
    obtain ⟨j, hj, rfl⟩ := Z4.1 hv
    have hjk : j < k := by rw [hk] at hj; exact hj
    obtain ⟨cs, q1, q2, q3⟩ := cell (ix x) (hix x);have hg := q3 j (cs[j]'(Za)) Zb
    have e9 : (enc x)[j] = c.getD (ix x * k + j) undef := by
      have := BM (c := c) (i := ix x) hjk;rw [List.getElem!_eq_getElem?_getD, Wv (by rw [EO]; exact hjk)] at this;exact this
    rw [e9];exact hg.2.oneCell hg.1
  let d : Array Nat := Array.range n
  have hd : d.size = n := by simp [d]
  let cf' : Nat -> Nat -> Int := fun i j => cf (nth xs (ix i)) (nth xs (ix j))
  have hO' : SWO (ltOf cf') := ⟨fun x => hO.irrefl _, fun x y z h1 h2 => hO.trans _ _ _ h1 h2, fun x y z h1 h2 => hO.ntrans _ _ _ h1 h2⟩
  have hsz : n * k <= c.size := by
    rw [e3]; exact XY k (by simpa [hL] using e4)
  have hcell : ∀ j, j < c.size -> w.cell? ⟨b, j, none⟩ = some (c.getD j undef) := fun j hj => by
    simp [World.cell?, hw, hj]
  have hHolds : HoldsK enc k w b (0 * k) d := fun j hj => by
    have hj2 : j < n * k := by simpa [hd] using hj
    have k0 : 0 < k := by rcases Nat.eq_zero_or_pos k with h | h; · subst h; simp at hj2
                          · exact h
    rw [get_flatK enc k d j (by rw [hd]; exact hj2)];have hdj : j / k < n := Nat.div_lt_of_lt_mul (by rw [K2]; exact hj2)
    have hde : d[j / k]! = j / k := by simp [d, hdj]
    rw [hde]
    have e9 : (enc (j / k))[j % k]! = c.getD j undef := by
      show (Ob c k (ix (j / k)))[j % k]! = _
      rw [hixe _ hdj, BM (UR _ k0), Nat.div_add_mod']
    rw [e9, Nat.zero_mul, XV];exact ⟨hcell j Za, by simp [World.frozen?, hw]⟩
  have hcmp' : CmpLays P g #[] enc k cf' b (0 * k) d.size w := fun m os dk hdk x y => by
    generalize hW : sortWorldK enc k w b (0 * k) m dk os = W
    have hKeep : Keeps (Own F ι) w Ai W := fun b' hb' hs' => by
      have hne : b' ≠ b := fun e => hb' (.inr (e ▸ Xq hι));refine ⟨fun h => h, ?_, ?_⟩
      · rw [<- hW]; simp [sortWorldK, grow, putRowK, putRow, mapBlock, ahead]; omega
      · rw [<- hW]
        simp only [sortWorldK, grow, putRowK, putRow, mapBlock, ahead];rw [Cr (by simpa using hs'), Dx, if_neg (fun e => hne e.symm)]
        rfl
    have heW : Env Ai [] W := (hr.env.of (w' := W) (ι' := ι) (by rw [<- hW]; simp [sortWorldK, grow, putRowK, putRow, mapBlock, ahead]) (fun b' hb' hni => by
      have hne : b' ≠ b := fun e => hni (e ▸ Xq hι);rw [<- hW];simp only [sortWorldK, grow, putRowK, putRow, mapBlock, ahead];rw [Cr (by simpa using hb'), Dx, if_neg (fun e => hne e.symm)]
      rfl) (fun _ _ h => h)).noth
    have arg : ∀ i, RV Ai [] [] W (.p (f (nth xs (ix i)))) (.agg (enc i).toArray) := fun i => by
      obtain ⟨cs, q1, q2, q3⟩ := cell (ix i) (hix i);refine .p _ _ ?_;rw [q1]
      refine (RP.agg cs (enc i).toArray (by simp [hk, q2]) fun j y hj => ?_ : RP Ai W _ _).weaker fun b hb => by
        rcases hb with hb | hb
        · exact hb
        · simp at hb
      have hjk : j < k := by rw [<- q2]; exact (Zo.1 hj).1
      have e9 : (enc i).toArray.getD j undef = c.getD (ix i * k + j) undef := by
        have := BM (c := c) (i := ix i) hjk;rw [List.getElem!_eq_getElem?_getD, Wv (by rw [EO]; exact hjk)] at this;simp only [Zz, J3];rw [Wv (by rw [hk]; exact hjk), Jq];rw [Jq] at this;simpa only [Zz] using this
      rw [e9];exact (q3 j y hj).2.ext hKeep
    refine ((hcmp (nth xs (ix x)) (nth xs (ix y))).2 Ai [] W _ (EQ heW) ⟨rfl, fun j q hj => ?_⟩).mono ?_
    · cases j with
      | zero => simp at hj; subst hj; exact arg x
      | succ j => cases j with
        | zero => simp at hj; subst hj; exact arg y
        | succ j => simp at hj
    · rintro e' w' ⟨x', H', ι', v, rfl, ⟨rfl, rfl⟩, gd, rv⟩
      cases rv with | p _ _ rp =>
      rw [rp.int_inv];exact ⟨rfl, dB gd⟩
  have eg := (hcmp default default).1;have main := AnyQ.slices_SortFunc L k aE zE enc hk one cf' hO' g #[] b (0 * k) cap d w (fun args w => eg args w) hcmp' hHolds hbs (by rw [hd]; exact hlen);rw [hd] at main;refine main.mono ?_;rintro e' w' ⟨rfl, d', m, os, hp, hso, rfl⟩;obtain ⟨p1, _, p3⟩ := hp;rw [hd] at p1
  have hperm : d'.toList.Perm (List.range n) := by
    have e8 : (d'.extract 0 n).toList = d'.toList := by rw [<- p1]; simp
    have e9 : (d.extract 0 n).toList = List.range n := by
      have : d.extract 0 n = d := by rw [<- hd]; simp
      rw [this]; simp [d]
    rw [e8, e9] at p3; exact p3
  have hlt : ∀ i ∈ d'.toList, i < n := fun i hi => by simpa using hperm.mem_iff.1 hi
  have hlt2 : ∀ i, i < n -> d'.toList[i]?.isSome = true := fun i hi => by simp [p1, hi]
  have hget : ∀ i (hi : i < n), d'[i]! = d'.toList[i]'(by simp [p1, hi]) := fun i hi => by
    rw [getElem!_pos d' i Za]; simp
  let ys : List β := d'.toList.map (nth xs)
  have hyl : ys.length = n := by simp [ys, p1]
  have hys : ∀ i (hi : i < n), ys[i]'(Za) = nth xs d'[i]! := fun i hi => by
    simp only [ys, List.getElem_map]; rw [hget i hi]
  have hdl : ∀ i, i < n -> d'[i]! < n := fun i hi => by rw [hget i hi]; exact hlt _ (UO _)
  have yperm : ys.Perm xs := by
    have h9 : (List.range n).map (nth xs) = xs := by
      refine UN (by simp [hL]) fun i h1 h2 => ?_;simp only [List.getElem_map, List.getElem_range];rw [Zj h2]
    have := hperm.map (nth xs);rw [h9] at this; exact this
  have ysort : ys.Pairwise fun a b => ¬ cf b a < 0 := by
    rw [Ds];intro i j hi hj hij;rw [hys i Za, hys j Za];have h9 := hso i j (Nat.zero_le _) hij Za;simp only [ltOf, cf', Yd] at h9;rwa [hixe _ (hdl j Za), hixe _ (hdl i Za)] at h9
  let c' : Array Value := putCells id (0 * k) (flatK enc k d') c
  have hcs : c'.size = c.size := by simp [c', putCells]
  have hat : (sortWorldK enc k w b (0 * k) m d' os).heap[b]? = some (.cells c' t (0, 0)) := by
    simp only [sortWorldK, grow, putRowK, putRow, mapBlock, ahead];rw [Cr (by simpa using hbs), Dx, if_pos rfl]
    show Option.map _ w.heap[b]? = _
    rw [hw]; rfl
  have hoth : ∀ q, q < w.heap.size -> q ≠ b -> (sortWorldK enc k w b (0 * k) m d' os).heap[q]? = w.heap[q]? := fun q hq hne => by
    simp only [sortWorldK, grow, putRowK, putRow, mapBlock, ahead];rw [Cr (by simpa using hq), Dx, if_neg (fun e => hne e.symm)]
    rfl
  have hc' : ∀ i j, i < n -> j < k -> c'.getD (i * k + j) undef = c.getD (d'[i]! * k + j) undef := fun i j hi hj => by
    have hb1 : i * k + j < n * k := by
      have := XY k (show i + 1 <= n from hi);rw [YI, Vv] at this; omega
    have e8 : (flatK enc k d')[i * k + j]! = c.getD (d'[i]! * k + j) undef := by
      rw [get_flatK enc k d' _ (by rw [p1]; exact hb1)]
      have q1 : (i * k + j) / k = i := by rw [K2, Nat.mul_add_div Za, Bu hj]; omega
      have q2 : (i * k + j) % k = j := by rw [K2, Nat.mul_add_mod, KW hj]
      rw [q1, q2]
      show (Ob c k (ix d'[i]!))[j]! = _
      rw [BM hj, hixe _ (hdl i hi)]
    have e9 : c'[i * k + j]? = some ((flatK enc k d')[i * k + j]!) := by
      simp only [c', putCells, Array.getElem?_mapIdx];rw [Array.getElem?_eq_getElem Za];simp only [Bv, Nat.zero_mul, Nat.zero_le, true_and, XV, size_flatK, p1, hb1, if_true, Nat.sub_zero, id]
    rw [Zz, e9, Jq, e8]
  have good := XR (w' := sortWorldK enc k w b (0 * k) m d' os) (c := c') (t := t) (xs' := ys.map f) (cap := cap2) (b' := b) hr (o := o) (S := k) (xs := xs.map f) hHo rfl (Tp.of rfl (by simp [sortWorldK, grow, putRowK, putRow, mapBlock, ahead])) rfl
    (fun c0 t0 h => by rw [hw] at h; simp at h; obtain ⟨rfl, rfl⟩ := h; exact ⟨rfl, hcs⟩) (by simp [sortWorldK, grow, putRowK, putRow, mapBlock, ahead]) hat hoth (.inl ⟨hι, .inl ⟨by simp [hyl, hL], fun c0 t0 h => by rw [hw] at h; simp at h; obtain ⟨rfl, rfl⟩ := h; exact ⟨rfl, hcs⟩⟩⟩)
    (by rw [hcs]; exact e3) (by simp only [Xp, hyl]; simpa [hL] using e4) e5
    (fun i x hi => by
      rw [Xy, Zl] at hi;obtain ⟨y, _, rfl⟩ := hi;obtain ⟨cs, q1, q2, _⟩ := hf y
      rw [q1]; exact q2)
    (fun i x j y hi hj => by
      rw [Xy, Zl] at hi;obtain ⟨z, hz, rfl⟩ := hi
      have hin : i < n := by have := (Zo.1 hz).1; omega
      have e8 : z = nth xs d'[i]! := by
        obtain ⟨h9, h10⟩ := Zo.1 hz;rw [<- h10]; exact hys i hin
      obtain ⟨cs, q1, q2, q3⟩ := cell _ (hdl i hin);rw [e8, q1] at hj
      have hjk : j < k := by rw [<- q2]; exact (Zo.1 hj).1
      rw [hc' i j hin hjk]
      exact (q3 j y hj).2)
  have hset : ι.set o (some b) = ι := by
    refine Jx fun i => ?_;rw [Us]
    split
    · rename_i e; subst e
      have := (Zo.1 hι).1;rw [if_pos this, hι]
    · rfl
  rw [hset] at good;exact ⟨.tup [], _, ι, .tuple #[], rfl, ⟨rfl, ys, yperm, ysort, rfl⟩, good, .tup [] #[] rfl (fun j c hj => by simp at hj)⟩
end Go.AM
namespace Go.Proofs.YtiigdaohjanidaaGreatDoor.K
open Go Go.AM Go.Proofs
set_option maxRecDepth 60000
set_option maxHeartbeats 8000000
theorem PF {α:Type} [Inhabited α] {l:List α} {i j:Nat} {a:α} (h:i<l.length):nth (l.set i a) j=if i=j then a else nth l j:=by
 grind [nth]
theorem oE {α:Type} [Inhabited α] {l:List α} {j:Nat} {a:α} (h:j<l.length):nth (l++ [a]) j=nth l j:=by
 grind [nth]
theorem HY {α:Type} [Inhabited α] {l:List α} {a:α} :nth (l++ [a]) l.length=a:=by
 grind [nth]
def cfK (a b:Col):Int:=oO [Vn a.typ b.typ,Vn a.set b.set]
theorem bB {a b:Int} :Vn a b<0↔a<b:=by grind [Vn]
theorem bC {a b:Int} :Vn a b=0↔a=b:=by grind [Vn]
theorem D7 {a b:Col} :cfK a b<0↔a.typ<b.typ\/(a.typ=b.typ/\a.set<b.set):=by
 grind [cfK,H8,bC,bB]
theorem mC : Go.Sort.SWO (ltOf cfK) where
 irrefl x:=by grind [ltOf,D7]
 trans x y z h1 h2:=by simp only [ltOf,Zr,D7] at *;omega
 ntrans x y z h1 h2:=by grind [ltOf,D7]
theorem Lc (a b:Col):PC 197 [.p (Xz a),.p (Xz b)] (.int .i64 (cfK a b)):=by
 refine Zc Tryz.func197 rfl zP ?_;simp (disch:=omega) only [Tryz.f197,go_sem,seval];refine Z6 (X8 ?_);refine Zq (F5 a.typ b.typ) (X8 ?_);refine Zq (F5 a.set b.set) (X8 ?_);refine Zq (ZbR [Vn a.typ b.typ,Vn a.set b.set] false Zb) (X8 ?_)
 rfl
theorem pX (xs:List Col) (hl:xs.length<=1048576) {H:List AM.Obj} {o:Nat} (hH:H[o]? =some (.elems 7 (xs.map Xz))) :
  ACalls Tryz.prog 103 [.sl o 0 xs.length xs.length,.fn (.func 197) [] []] H fun y H'=>y= .tup []/\ ∃ys:List Col,ys.Perm xs/\ys.Pairwise (fun a b=> ¬cfK b a<0)/\H'=H.set o (.elems 7 (ys.map Xz)) :=
 ACalls.sortFunc MB dI 7 Tryz.isAgg158 Tryz.sizeOf158 Xz (fun x=>⟨_,rfl,rfl,rfl⟩) cfK mC 197 Lc xs Za hH
def kd (c:Col):Kd:=⟨c.typ,c.set⟩
def Bst (l:List Col) (k:Nat) (d:Col):Prop:= ∃j,j<k/\nth l j=d/\ ∀i,i<k->kd (nth l i)=kd d->d.price<(nth l i).price\/(d.price=(nth l i).price/\j<=i)
structure Chp (l:List Col) (k:Nat) (m:List (Kd×Int)) (out:List Col):Prop where
 len:out.length<=k
 at1: ∀i,i<out.length->mq m (kd (nth out i))=some (i:Int)
 at2: ∀q v,mq m q=some v-> ∃i,i<out.length/\v=i/\kd (nth out i)=q
 bst: ∀i,i<out.length->Bst l k (nth out i)
 all: ∀j,j<k-> ∃i,i<out.length/\kd (nth out i)=kd (nth l j)
theorem aX (l:List Col):Chp l 0 [] []:=⟨Zb,fun i h=>by simp at h,fun q v h=>by simp [mq] at h,fun i h=>by simp at h,fun j h=>by simp at h⟩
theorem mJ {l:List Col} {k:Nat} {m m':List (Kd×Int)} {out:List Col} (h:Chp l k m out) (hn:mq m (kd (nth l k))=none) (hm: ∀q,mq m' q=if q=kd (nth l k) then some (out.length:Int) else mq m q):Chp l (k+1) m' (out++ [nth l k]):=by
 have hno: ∀i,i<out.length->kd (nth out i)≠kd (nth l k):=fun i hi e=>by
  have:=h.at1 i hi
  grind
 have split: ∀i,i<(out++ [nth l k]).length->(i<out.length/\nth (out++ [nth l k]) i=nth out i)\/(i=out.length/\nth (out++ [nth l k]) i=nth l k):=fun i hi=>by
  simp only [ZQ,Zs,ZH] at hi;rcases W7 i out.length with h1 | h1
  ·grind [oE]
  ·obtain rfl:i=out.length:=Za
   exact .inr ⟨rfl,HY⟩
 refine ⟨by have:=h.len;simp;omega,fun i hi=> ?_,fun q v hq=> ?_,fun i hi=> ?_,fun j hj=> ?_⟩
 ·rcases split i hi with ⟨h1,e⟩ | ⟨rfl,e⟩
  ·rw [e,hm,if_neg (hno i h1)];exact h.at1 i h1
  grind
 ·rw [hm] at hq
  split at hq
  ·grind [HY]
  ·obtain ⟨i,h1,h2,h3⟩:=h.at2 q v hq
   grind
 ·rcases split i hi with ⟨h1,e⟩ | ⟨rfl,e⟩
  ·rw [e];obtain ⟨j,h2,h3,h4⟩:=h.bst i h1;refine ⟨j,Za,h3,fun p hp he=> ?_⟩
   grind
  ·rw [e];refine ⟨k,Za,rfl,fun p hp he=> ?_⟩;rcases Bq.1 hp with h5 | rfl
   ·obtain ⟨i,h6,h7⟩:=h.all p h5
    grind
   omega
 ·rcases Bq.1 hj with h5 | rfl
  ·obtain ⟨i,h6,h7⟩:=h.all j h5
   grind
  ·exact ⟨out.length,Zb,by rw [HY]⟩
theorem mK {l:List Col} {k:Nat} {m:List (Kd×Int)} {out:List Col} {i:Nat} (h:Chp l k m out) (hi:i<out.length) (hk:kd (nth out i)=kd (nth l k)):Chp l (k+1) m (if (nth l k).price<(nth out i).price then out.set i (nth l k) else out):=by
 have hun: ∀j,j<out.length->kd (nth out j)=kd (nth l k)->j=i:=fun j hj e=>by
  have h1:=h.at1 j hj;have h2:=h.at1 i hi
  grind
 split
 ·rename_i hp
  have key: ∀j,kd (nth (out.set i (nth l k)) j)=kd (nth out j):=fun j=>by
   grind [PF]
  refine ⟨by have:=h.len;simp;omega,fun j hj=> ?_,fun q v hq=> ?_,fun j hj=> ?_,fun j hj=> ?_⟩
  ·rw [key];exact h.at1 j (by grind)
  ·obtain ⟨j,h1,h2,h3⟩:=h.at2 q v hq
   grind
  ·simp only [KY] at hj;rw [PF hi]
   split
   ·rename_i e;subst e;refine ⟨k,Za,rfl,fun p hp2 he=> ?_⟩;rcases Bq.1 hp2 with h5 | rfl
    ·obtain ⟨j,h6,h7,h8⟩:=h.bst i hi
     grind
    omega
   ·rename_i e;obtain ⟨p,h2,h3,h4⟩:=h.bst j hj;refine ⟨p,Za,h3,fun p' hp' he=> ?_⟩
    grind
  ·rcases Bq.1 hj with h5 | rfl
   ·obtain ⟨p,h6,h7⟩:=h.all j h5
    grind
   grind
 ·rename_i hp;refine ⟨by have:=h.len;omega,h.at1,h.at2,fun j hj=> ?_,fun j hj=> ?_⟩
  ·obtain ⟨p,h2,h3,h4⟩:=h.bst j hj;refine ⟨p,Za,h3,fun p' hp' he=> ?_⟩
   grind
  ·rcases Bq.1 hj with h5 | rfl
   ·exact h.all j h5
   grind
structure Cheap (l ys:List Col):Prop where
 asc:ys.Pairwise fun a b=>cfK a b<0
 bst: ∀d∈ys,Bst l l.length d
 all: ∀c∈l,∃d∈ys,kd d=kd c
theorem mH {l:List Col} {m:List (Kd×Int)} {out ys:List Col} (h:Chp l l.length m out) (hp:ys.Perm out) (ha:ys.Pairwise fun a b=> ¬cfK b a<0):Cheap l ys:=by
 have hnd:out.Pairwise fun a b=>kd a≠kd b:=by
  rw [Ds];intro i j hi hj hij e;have h1:=h.at1 i hi;have h2:=h.at1 j hj
  grind [Zj]
 have hnd2:ys.Pairwise fun a b=>kd a≠kd b:=(hp.pairwise_iff fun h e=>h e.symm).2 hnd;refine ⟨(hnd2.and ha).imp fun {a b} hh=> ?_,fun d hd=> ?_,fun c hc=> ?_⟩
 ·rw [D7] at hh ⊢
  grind [kd]
 ·obtain ⟨i,hi,rfl⟩:=Z4.1 (hp.mem_iff.1 hd);rw [<- Zj hi];exact h.bst i hi
 ·obtain ⟨j,hj,rfl⟩:=Z4.1 hc;obtain ⟨i,hi,e⟩:=h.all j hj
  grind [Zj]
theorem Np (l:List Col) (c:Bool) (hl:l.length<=8192):ACalls Tryz.prog 150 [.p (.list c (l.map Xz))] [] fun y H'=> ∃ys:List Col,(Cheap l ys/\ys.length<=l.length)/\y= .p (.list false (ys.map Xz))/\H'= []:=by
 refine Ze [15] Tryz.func150 rfl yI ?_;simp (disch:=omega) only [Tryz.f150,go_sem,seval];refine Zi [3,11,12] (fun q:Nat×List (Kd×Int)×List Col=> [(4,.sl 1 0 q.2.2.length q.2.2.length),(13,.p (.int .i64 q.1))]) (fun q=> [.map (q.2.1.map (Ln Tz)),.elems 7 (q.2.2.map Xz)]) (fun q=>q.1<=l.length/\Chp l q.1 q.2.1 q.2.2) (fun q=>l.length-q.1) (0,[],[]) ⟨Zb,aX l⟩ (Weak.ofNil 4 7 (by simp (disch:=omega) only [go_sem,seval]) Zb (Weak.mk ?_)) ?_
 ·simp (disch:=omega) only [Zk,ZH,go_sem,seval]
 ·rintro ⟨k,m,out⟩ ⟨hk,hC⟩;simp only at hk hC;have hol:=hC.len;refine X8 ?_;refine cD ?_ ?_<;>intro h1<;>simp (disch:=omega) only [Sh.out h1,go_sem,seval,↓reduceIte]
  ·have hk2:k<l.length:=Za
   refine eE (l:=m) (k:=kd (nth l k)) dW (fun _ _=>trivial) trivial (by rfl) (X8 ?_)
   cases hq:mq m (kd (nth l k)) with
   | none =>
    simp (disch:=omega) only [KU,Option.getD_none,go_sem,seval];refine If (l:=m) (k:=kd (nth l k)) dW (fun _ _=>trivial) trivial (by rfl) fun m' hm' _=> ?_;simp (disch:=omega) only [Z9,go_sem,seval];exact ⟨(k+1,m',out++ [nth l k]),⟨Za,mJ hC hq hm'⟩,Za,Weak.mk (by simp (disch:=omega) only [Xm,Zu,Zk,ZQ,Zs,ZH,XV,go_sem,seval])⟩
   | some v =>
    obtain ⟨i,hi,rfl,hkd⟩:=hC.at2 _ _ hq;have hold:=mK hC hi hkd;simp (disch:=omega) only [Jw,Jq,go_sem,seval];refine Z6 ?_;simp (disch:=first | omega | (simp only [Zs,ZH,ZQ,Xp,ZA,Xg]<;>omega)) only [WK hi,hi,go_sem,seval,↓reduceIte];refine ZB ?_ ?_<;>intro h2
    ·rw [if_pos h2] at hold;simp (disch:=first | omega | (simp only [Zs,ZH,ZQ,Xp,ZA,Xg]<;>omega)) only [go_sem,seval];exact ⟨(k+1,m,out.set i (nth l k)),⟨Za,hold⟩,Za,Weak.mk (by simp (disch:=omega) only [W6,KY,go_sem,seval])⟩
    ·rw [if_neg h2] at hold;exact ⟨(k+1,m,out),⟨Za,hold⟩,Za,wk⟩
  ·have hkl:k=l.length:=Za
   subst hkl;refine (pX out Za (H:=_) (o:=1) rfl).mono ?_;rintro y H' ⟨rfl,ys,g1,g2,rfl⟩;have hyl:ys.length=out.length:=g1.length_eq;simp (disch:=omega) only [X7,Z9,go_sem,seval];rw [<- hyl];refine Zp (Weak.fz (o:=1) (by rfl)) (Zf [] _ _ _ _ (V4 ?_));exact ⟨.p (.list false (ys.map Xz)),[],wk,ys,⟨mH hC g1 g2,Za⟩,rfl,rfl⟩
def Yh (x:Inst):Nat->Nat
 | 0=>0
 | i+1=>if (nth x.orders i).off=true then Yh x i else Yh x i|||pw i
theorem LT (x:Inst): ∀i,Yh x i<2^i
 | 0=>by simp [Yh]
 | i+1=>by
  have:=LT x i
  have h:2^(i+1)=2*2^i:=Za
  rw [Yh]
  split
  ·omega
  ·exact J5 Za (by rw [pw];omega)
theorem Uc (x:Inst): ∀(n i:Nat),(Yh x n).testBit i=(decide (i<n)&& !(nth x.orders i).off)
 | 0,i=>by simp [Yh]
 | n+1,i=>by
  rw [Yh]
  split
  ·rename_i h;rw [Uc x n i]
   by_cases e:i=n
   ·subst e;simp [h]
   ·have:decide (i<n+1)=decide (i<n):=by simp;omega
    rw [this]
  ·rename_i h;rw [KZ,Uc x n i,pw,Nat.testBit_two_pow]
   grind
theorem uK (o:Ord):PC 195 [.p (eOrd o)] (.bool true):=by
 refine Zc Tryz.func195 rfl zN ?_;simp (disch:=omega) only [Tryz.f195,go_sem,seval,↓reduceIte]
theorem Zcg (x:Inst) (hn:x.orders.length<=10):PC 194 [.p (Zv x),.fn (.func 195) [] []] (.int .i64 ((Yh x x.orders.length:Nat):Int)):=by
 refine Ze [] Tryz.func194 rfl zM ?_;simp (disch:=omega) only [Tryz.f194,go_sem,seval];refine Zi [1,9,10] (fun k:Nat=> [(5,.p (.int .i64 ((Yh x k:Nat):Int))),(11,.p (.int .i64 k))]) (fun _=> [Zg x]) (fun k=>k<=x.orders.length) (fun k=>x.orders.length-k) 0 Zb (Weak.mk ?_) ?_
 ·have h00:((Yh x 0:Nat):Int)=0:=rfl;simp (disch:=omega) only [h00,Zg,go_sem,seval]
 ·intro k hk;refine Yi ?_;refine cD ?_ ?_<;>intro h1<;>simp (disch:=omega) only [Sh.out h1,go_sem,seval,↓reduceIte]
  ·have hk2:k<x.orders.length:=Za
   have hm:=LT x k;have hp:2^k<=2^10:=XZ Za Za;have hpw:pw k<=1024:=hp;refine Jd ?_ ?_<;>intro h2
   ·refine (uK (nth x.orders k)).use (X8 ?_)
    have ho:(nth x.orders k).off=false:=by grind
    exact ⟨k+1,Za,Za,Weak.mk (by simp (disch:=omega) only [Yh,ho,Wu,go_sem,seval,↓reduceIte])⟩
   ·have ho:(nth x.orders k).off=true:=by grind
    exact ⟨k+1,Za,Za,Weak.mk (by simp (disch:=omega) only [Yh,ho,go_sem,seval,↓reduceIte])⟩
  ·have hkl:k=x.orders.length:=Za
   subst hkl;exact we
theorem ZbU (x:Inst) (hn:x.orders.length<=10):PC 148 [.p (Zv x)] (.int .i64 ((Yh x x.orders.length:Nat):Int)):=by
 refine Zc Tryz.func148 rfl yG ?_;simp (disch:=omega) only [Tryz.f148,go_sem,seval];refine (Zcg x hn).use ?_;simp (disch:=omega) only [go_sem,seval]
def jK (S M:Nat):Bool:=(List.range 63).all fun i=> !S.testBit i||M.testBit i
theorem pS (S M:Nat) (hS:S<9223372036854775808):PC 196 [.p (.int .i64 (S:Int)),.p (.int .i64 (M:Int))] (.bool (jK S M)):=by
 refine Zc Tryz.func196 rfl zO ?_;simp (disch:=omega) only [Tryz.f196,go_sem,seval];have hb:=CS (S:=S) (M:=M) hS
 have hd:decide (IntKind.i64.wrap ((BitVec.ofInt 64 (S:Int)&&& ~~~BitVec.ofInt 64 (M:Int)).toNat:Int)=0)=((List.range 63).all fun i=> !S.testBit i||M.testBit i):=by
  grind
 exact X0 (fun b=>V.p (PV.bool b)) hd
def rightB (x:Inst) (c:Col):Bool:=decide (0<=c.typ)&&(decide (c.typ<x.types.length)&&(decide (0<c.set)&&(jK c.set.toNat (Yh x x.orders.length)&&(decide (0<=c.price)&&decide (c.price<=18014398509481984)))))
theorem RI (x:Inst) (c:Col) (hs:c.set<9223372036854775808) (ht:x.types.length<=1048576):PC 149 [.p (Zv x),.p (Xz c),.p (.int .i64 ((Yh x x.orders.length:Nat):Int))] (.bool (rightB x c)):=by
 refine Zc Tryz.func149 rfl yH ?_;simp (disch:=omega) only [Tryz.f149,go_sem,seval];refine gT ?_ ?_<;>intro h1<;>simp (disch:=omega) only [Sh.out h1,go_sem,seval,↓reduceIte]
 ·refine gT ?_ ?_<;>intro h2<;>simp (disch:=omega) only [Sh.out h2,go_sem,seval,↓reduceIte]
  ·refine gT ?_ ?_<;>intro h3<;>simp (disch:=omega) only [Sh.out h3,go_sem,seval,↓reduceIte]
   ·obtain ⟨S,hS⟩: ∃S:Nat,c.set=(S:Int):=⟨c.set.toNat,Za⟩
    have e1:rightB x c=(jK S (Yh x x.orders.length)&&(decide (0<=c.price)&&decide (c.price<=18014398509481984))):=by
     simp_all [rightB]
    rw [hS];refine (pS S (Yh x x.orders.length) Za).use (X8 ?_);refine gT ?_ ?_<;>intro h4<;>simp (disch:=omega) only [Sh.out h4,go_sem,seval,↓reduceIte]
    ·refine gT ?_ ?_<;>intro h5<;>simp (disch:=omega) only [Sh.out h5,go_sem,seval,↓reduceIte]
     ·grind
     grind
    grind
   grind [rightB]
  grind [rightB]
 ·simp [rightB,h1]
theorem Zoj (n:Nat) (h0:0<n) (h:n<16):PC 159 [.p (.int .u64 n)] (.int .i64 (Ag n)):=by
 refine Zc Tryz.func159 rfl yP ?_;simp (disch:=omega) only [Tryz.f159,go_sem,seval];refine (Zcm n h0 h).use ?_;simp (disch:=omega) only [go_sem,seval]
theorem Ms (n:Nat) (h0:0<n) (h:n<16):PC 107 [.p (.int .i64 n)] (.int .i64 (Ag n)):=by
 refine Zc Tryz.func107 rfl xF ?_;simp (disch:=omega) only [Tryz.f107,go_sem,seval];refine cD ?_ ?_<;>intro h1<;>simp (disch:=omega) only [Sh.out h1,go_sem,seval]
 ·omega
 ·refine (Zoj n h0 h).use ?_;simp (disch:=omega) only [go_sem,seval]
def skpF (x:Inst) (i:Nat):Int:=if (unsF x i).2=0/\(Wn (unsF x i).1).2=0 then (Wn (unsF x i).1).1 else-1
def Yb (ys:List Col) (i:Nat):List Col:=ys.filter fun c=>decide (Ag c.set.toNat=(i:Int))
def fstF (n:Nat) (ys:List Col):List (List Col):=(List.range n).map (Yb ys)
theorem SH {ys:List Col} {k i:Nat} (h:k<ys.length):Yb (ys.take (k+1)) i=if Ag (nth ys k).set.toNat=(i:Int) then Yb (ys.take k) i++ [nth ys k] else Yb (ys.take k) i:=by
 grind [Zx,Yb,nth]
theorem gV (i:Nat):Yb [] i= []:=rfl
theorem BI (ys:List Col) (k i:Nat):(Yb (ys.take k) i).length<=ys.length:=by
 refine Nat.le_trans (List.length_filter_le _ _) ?_;simp;omega
theorem Ji (ys):fstF 0 ys= []:=rfl
theorem U7 (ys):fstF 1 ys= [Yb ys 0]:=rfl
theorem U8 (ys):fstF 2 ys= [Yb ys 0,Yb ys 1]:=rfl
theorem U9 (ys):fstF 3 ys= [Yb ys 0,Yb ys 1,Yb ys 2]:=rfl
theorem Qa (ys):fstF 4 ys= [Yb ys 0,Yb ys 1,Yb ys 2,Yb ys 3]:=rfl
def BN : List (List Col)->Nat->List V
 | [],_=> []
 | p::P,o=> .sl o 0 p.length p.length::BN P (o+1)
def GP (P:List (List Col)):List AM.Obj:=P.map fun p=> .elems 7 (p.map Xz)
theorem Sm {n0:Nat} {fr:List V} {a b c:AM.Obj} (h0:n0<=4) (n:Nat):Weak n0 fr [a,b,c,.cells (List.replicate n (.p (.list true [])))] fr (a::b::c:: .cells (BN (List.replicate n []) 4)::GP (List.replicate n [])):=by
 have hr: ∀(k o:Nat),BN (List.replicate k []) o=(List.range k).map fun j=>V.sl (o+j) 0 0 0:=fun k=>by
  induction k with
  | zero=>intro o;rfl
  | succ k ih =>
   intro o;rw [Jn,BN,ih,List.range_succ_eq_map,Zu,List.map_map];simp only [ZH,Vu,List.cons.injEq,true_and];apply Yw
   grind
 have key: ∀k,k<=n->Weak n0 fr [a,b,c,.cells (List.replicate n (.p (.list true [])))] fr (a::b::c:: .cells (((List.range k).map fun j=>V.sl (4+j) 0 0 0)++List.replicate (n-k) (.p (.list true [])))::List.replicate k (.elems 7 [])):=fun k=>by
  induction k with
  | zero=>grind [Weak.refl]
  | succ k ih =>
   intro hk
   have h1:=(ih Za).trans (Weak.nilC (n0:=n0) (fr:=fr) (o:=3) (j:=k) 7 (by rfl) (by
    grind) (by simp;omega))
   have e1:List.length (a::b::c::AM.Obj.cells (((List.range k).map fun j=>V.sl (4+j) 0 0 0)++List.replicate (n-k) (.p (.list true [])))::List.replicate k (AM.Obj.elems 7 []))=4+k:=by simp;omega
   have e2:(((List.range k).map fun j=>V.sl (4+j) 0 0 0)++List.replicate (n-k) (V.p (.list true []))).set k (.sl (4+k) 0 0 0)=((List.range (k+1)).map fun j=>V.sl (4+j) 0 0 0)++List.replicate (n-(k+1)) (V.p (.list true [])):=by
    rw [List.set_append_right _ _ Zb,show n-k=(n-(k+1))+1 by omega,Jn,VT,Xm];simp
   grind [List.replicate_succ']
 have:=key n (ZM _)
 simp_all [GP]
def skF (x:Inst) (n:Nat):List Int:=(List.range n).map (skpF x)
def lV (x:Inst) (m:Int) (f g:V):AM.Obj:= .cells [.p (.list x.net.places_c (x.net.places.map eS)),.p (.list x.net.arcs_c (x.net.arcs.map Wj)),.p (.list x.types_c (x.types.map Y5)),.p (.list x.orders_c (x.orders.map eOrd)),.p (.list x.apart_c (x.apart.map eP)),.p (.list x.before_c (x.before.map eP)),f,g,.mp 1,.p (.int .i64 m)]
theorem Uy {x:Inst} {c:Col} (h:rightB x c=true) (hs:c.set<9223372036854775808): ∃S:Nat,c.set=S/\0<S/\S<2^x.orders.length/\ ∀i,S.testBit i=true->i<x.orders.length/\(nth x.orders i).off=false:=by
 simp only [rightB,ZG,Zr] at h;obtain ⟨_,_,h3,h4,_⟩:=h
 have key: ∀i,c.set.toNat.testBit i=true->i<x.orders.length/\(nth x.orders i).off=false:=fun i hi=>by
  have h63:i<63:=by
   rcases W7 i 63 with h | h
   ·exact h
   ·have:2^63<=2^i:=XZ Za h
    grind [KR]
  have:=Zw.1 h4 i (Xc.2 h63)
  grind [Uc]
 refine ⟨c.set.toNat,Za,Za,?_,key⟩;refine Dt _ fun i hi=> ?_
 grind
theorem Zcn {S n:Nat} (h0:0<S) (h:S<2^n) (hn:n<=4):Ag S<n/\0<=Ag S:=by
 have:n=0\/n=1\/n=2\/n=3\/n=4:=Za
 unfold Ag
 grind
theorem E6 (x:Inst) (k:Nat):skF x (k+1)=skF x k++ [skpF x k]:=by simp [skF,VT]
theorem JA (x:Inst) (k:Nat):(skF x k).length=k:=by simp [skF]
theorem ZiX (x:Inst):skF x 0= []:=rfl
theorem LM {P:Program} {ko:List Nat} {l:List Oper} {n:Nat} {rem:List Nat} {fr:List V} {H:List AM.Obj} {K:List V->List AM.Obj->Prop} (m:Nat) (Y:V) (Z:List AM.Obj) (hr:Vx l rem= [m]) (h:Zt P (ZW l m) fr H fun y H'=>y=Y/\H'=Z)
  (k:(∀k∈ko,oat Z k=oat H k)/\Aw P ko l n (rem.erase m) (Y7 fr (ZW l m).dst Y) Z K):Aw P ko l (n+1) rem fr H K :=
 Gs m _ hr h fun y H' hq=>by grind
theorem RH (x:Inst) (l:List Col) (lc:Bool) (hn:x.orders.length<=4) (ht:x.types.length<=1048576) (hu: ∀i:Nat,scoR 1152921504606846976 (unsF x i).1) (hs: ∀c∈l,c.set<9223372036854775808) (hl:l.length<=1048576) :
  ACalls Tryz.prog 99 [.p (Zv x),.p (.list lc (l.map Xz))] [] fun y H'=>(8192<l.length/\y= .tup [.p .nilp,.p (.int .i64 4)]/\H'= [])\/(l.length<=8192/\(∃c∈l,rightB x c=false)/\y= .tup [.p .nilp,.p (.int .i64 2)]/\H'= []) \/
   (l.length<=8192/\(∀c∈l,rightB x c=true)/\ ∃ys,(Cheap l ys/\ys.length<=l.length)/\y= .tup [.ptr 2 0,.p (.int .i64 0)]/\H'= .cells (List.replicate 6 .junk)::(X4 x (.list false ((fstF x.orders.length ys).map Y2)) (.list false ((skF x x.orders.length).map eI)) (Yh x x.orders.length) []).map (shO 1)):=by
 refine Ze [10] Tryz.func99 rfl Zh9 ?_;simp (disch:=omega) only [Tryz.f99,go_sem,seval];refine cD ?_ ?_<;>intro h0<;>simp (disch:=omega) only [Sh.out h0,go_sem,seval]
 ·exact ⟨_,[],wk,.inl ⟨Za,rfl,rfl⟩⟩
 ·refine Xo [1] 4 mixed Zd Zd Zd Zb (X8 ?_);refine Zq (ZbU x Za) (X8 ?_);refine ZV 1 _ _ Zd (by refine X8 ?_;exact ⟨rfl,rfl⟩) (Yo ?_);simp (disch:=omega) only [show ∀(l:List V),Qr (V.mp 1::l)=none from fun _=>rfl,Option.map_none,go_sem,seval];refine Zi [1,2,6,27,28] (fun k:Nat=> [(29,.p (.int .i64 k))]) (fun _=> [Zg x,.map [],lV x ((Yh x x.orders.length:Nat):Int) (.p (.list true [])) (.p (.list true []))]) (fun k=>k<=l.length/\ ∀j,j<k->rightB x (nth l j)=true) (fun k=>l.length-k) 0 ⟨Za,fun j hj=>Za⟩ (Weak.mk ?_) ?_
  ·simp (disch:=omega) only [Zg,lV,go_sem,seval]
  ·rintro k ⟨hk,hr⟩;simp (disch:=omega) only [Zg,lV,go_sem,seval];refine cD ?_ ?_<;>intro h1<;>simp (disch:=omega) only [Sh.out h1,go_sem,seval,↓reduceIte]
   ·have hk2:k<l.length:=Za
    refine Z6 (X8 ?_);refine Zq (RI x (nth l k) (hs _ (ZN hk2)) ht) (X8 ?_)
    cases hq:rightB x (nth l k) with
    | false =>
     refine C6 ?_;exact ⟨_,[],wk,.inr (.inl ⟨Za,⟨_,ZN hk2,hq⟩,rfl,rfl⟩)⟩
    | true =>
     refine Ks ?_
     exact ⟨k+1,⟨Za,fun j hj=>by
      grind⟩,Za,wk⟩
   ·have hkl:k=l.length:=Za
    subst hkl
    have YB: ∀c∈l,rightB x c=true:=fun c hc=>by
     obtain ⟨j,hj,rfl⟩:=Z4.1 hc
     grind [Zj]
    clear hr hk h1;generalize ((Yh x x.orders.length:Nat):Int)=m;have hun: ∀i:Nat,PT 151 [.p (Zv x),.p (.int .i64 i)] [.p (De (unsF x i).1),.p (.int .i64 (unsF x i).2)]:=fun i=>L7 x i Za;refine VC (Ho 4 rfl rfl (X8 ?_));refine ⟨_,_,GD 205 110 _ _ x.orders.length 24 (.list true []) rfl Zd Zd Zd Zd (by rfl) Za Za (by simp (disch:=omega) only [go_sem,seval]) (by simp (disch:=omega) only [go_sem,seval]),?_⟩
    refine X8 ?_
    have h5:x.orders.length=0\/x.orders.length=1\/x.orders.length=2\/x.orders.length=3\/x.orders.length=4:=Za
    refine Zp (Sm Zb x.orders.length) ?_;refine Zf [17] _ _ _ _ (X8 ?_);refine (Np l lc Za).useV fun ys hC=>X8 ?_;obtain ⟨hC,hyl⟩:=hC;rcases h5 with h5 | h5 | h5 | h5 | h5
    all_goals
     simp (disch:=omega) only [h5,List.replicate,BN,GP,Zu,Zk,go_sem,seval];refine Zi [2,6,50,51] (fun k:Nat=> [(52,.p (.int .i64 k))]) (fun k=> [Zg x,.map [],lV x m (.sl 3 0 x.orders.length x.orders.length) (.p (.list true [])),.cells (BN (fstF x.orders.length (ys.take k)) 4)]++GP (fstF x.orders.length (ys.take k))) (fun k=>k<=ys.length) (fun k=>ys.length-k) 0 Za (Weak.mk ?_) ?_
     ·simp (disch:=omega) only [h5,Wx,gV,ZH,Ji,U7,U8,U9,Qa,BN,GP,Zu,Zk,Xu,ZF,Zg,lV,go_sem,seval]
     ·intro k hk;simp (disch:=omega) only [h5,Ji,U7,U8,U9,Qa,BN,GP,Zu,Zk,Xu,ZF,Zg,lV,go_sem,seval];refine cD ?_ ?_<;>intro h1<;>simp (disch:=omega) only [Sh.out h1,go_sem,seval,↓reduceIte]
      ·have hk2:k<ys.length:=Za
       obtain ⟨j,hj,hjl,_⟩:=hC.bst _ (ZN hk2)
       have hmem:nth ys k∈l:=by rw [<- hjl];exact ZN hj
       obtain ⟨S,hS,hS0,hS1,hS2⟩:=Uy (YB _ hmem) (hs _ hmem);have hlt:=Zcn hS0 hS1 hn;have h16:S<16:=Jv hS1 (by rw [h5];decide)
       have cl:PC 107 [.p (.int .i64 (nth ys k).set)] (.int .i64 (Ag (nth ys k).set.toNat)):=by
        rw [hS];exact Ms S hS0 h16
       refine (cl).use ?_;simp (disch:=omega) only [go_sem,seval]
       have htz:Ag (nth ys k).set.toNat=Ag S:=by rw [hS];rfl
       have hi:Ag (nth ys k).set.toNat=0\/Ag (nth ys k).set.toNat=1\/Ag (nth ys k).set.toNat=2\/Ag (nth ys k).set.toNat=3:=Za
       rcases hi with hi | hi | hi | hi
       all_goals try omega
       all_goals
        simp (disch:=omega) only [hi,go_sem,seval];refine Q8 [14] [1,2,3] [2] 15 mixed Zd Zd Zd Zd Zb ?_;simp (disch:=omega) only [go_sem,seval,↓reduceIte];refine ⟨fun q hq p' hp=> ?_,?_⟩
        ·simp only [Yj,Jp,or_false] at hq;rcases hq with rfl | rfl | rfl
         ·obtain rfl:59=p':=Vt hp;exact WW (by decide)
         ·obtain rfl:60=p':=Vt hp;exact WW (by decide)
         ·obtain rfl:61=p':=Vt hp;exact WW (by decide)
        ·have q0:=BI ys k 0;have q1:=BI ys k 1;have q2:=BI ys k 2;have q3:=BI ys k 3;refine LM 14 _ _ Zd (by simp (disch:=omega) only [go_sem,seval,↓reduceIte];exact ⟨rfl,rfl⟩) ?_;refine ⟨fun k hk=>by simp at hk;subst hk;rfl,HS ?_⟩;simp (disch:=omega) only [go_sem,seval];exact ⟨k+1,Za,Za,Weak.mk (by simp (disch:=omega) only [h5,SH hk2,hi,Xm,ZQ,Zs,ZH,XV,U7,U8,U9,Qa,BN,Zu,Zk,go_sem,seval,↓reduceIte])⟩
      ·have hkl:k=ys.length:=Za
       subst hkl;clear hk h1
       try refine Zp (Weak.fz (o:=4) (by rfl)) ?_
       try refine Zp (Weak.fz (o:=5) (by rfl)) ?_
       try refine Zp (Weak.fz (o:=6) (by rfl)) ?_
       try refine Zp (Weak.fz (o:=7) (by rfl)) ?_
       refine Zf [17] _ _ _ _ ?_;simp (disch:=omega) only [Yu,Zu,Zk,X7,Z9,eq_self,go_sem,seval,↓reduceIte];refine Zp (Weak.fzC (o:=3) (ys:=(fstF x.orders.length ys).map Y2) (by rw [h5];rfl) (fun y hy=>by obtain ⟨p,_,rfl⟩:=Ww.1 hy;rfl)) ?_;refine Zf [17] _ _ _ _ ?_;simp (disch:=omega) only [h5,Ji,U7,U8,U9,Qa,Zu,Zk,X7,Z9,Zs,ZH,XV,Nat.reduceAdd,eq_self,go_sem,seval,↓reduceIte]
       refine Zf [28] _ _ _ _ ?_;simp (disch:=omega) only [go_sem,seval,↓reduceIte];refine Zi [2,6,78] (fun k:Nat=> [(79,.p (.int .i64 k))]) (fun k=> [Zg x,.map [],lV x m (.p (.list false ((fstF x.orders.length ys).map Y2))) (.sl (4+x.orders.length) 0 k k),.dead]++List.replicate x.orders.length .dead++ [.elems 1 ((skF x k).map eI)]) (fun k=>k<=x.orders.length) (fun k=>x.orders.length-k) 0 Za ((Weak.nilC (o:=2) (j:=7) 1 (by rfl) (by rfl) Zb).trans (Weak.mk ?_)) ?_
       ·simp (disch:=omega) only [h5,ZiX,List.replicate,X7,Z9,Zs,ZH,XV,Nat.reduceAdd,Ji,U7,U8,U9,Qa,Zu,Zk,Xu,ZF,Zg,lV,go_sem,seval]
       ·intro k hk;simp (disch:=omega) only [h5,List.replicate,Nat.reduceAdd,Ji,U7,U8,U9,Qa,Zu,Zk,Xu,ZF,Zg,lV,go_sem,seval];refine cD ?_ ?_<;>intro h1<;>simp (disch:=omega) only [Sh.out h1,go_sem,seval,↓reduceIte]
        ·have hk2:k<x.orders.length:=Za
         refine Y0 (hun k) ?_;simp (disch:=omega) only [go_sem,seval,↓reduceIte];refine cD ?_ ?_<;>intro h2<;>simp (disch:=omega) only [Sh.out h2,go_sem,seval,↓reduceIte]
         ·refine Y0 (GE _ (hu k)) ?_;simp (disch:=omega) only [go_sem,seval];refine cD ?_ ?_<;>intro h3<;>simp (disch:=omega) only [Sh.out h3,go_sem,seval,↓reduceIte]
          ·have hsk:skpF x k=(Wn (unsF x k).1).1:=by simp [skpF,h2,h3]
           simp (disch:=omega) only [JA,go_sem,seval];rw [if_pos ⟨Za,Za⟩];simp (disch:=omega) only [JA,Xp,ZQ,Zs,ZH,XV,eq_self,W8,go_sem,seval];exact ⟨k+1,Za,Za,Weak.mk (by simp (disch:=omega) only [h5,E6,hsk,Xm,List.replicate,Nat.reduceAdd,Ji,U7,U8,U9,Qa,Zu,Zk,Xu,ZF,go_sem,seval])⟩
          ·have hsk:skpF x k= -1:=by simp [skpF,h3]
           simp (disch:=omega) only [JA,go_sem,seval];rw [if_pos ⟨Za,Za⟩];simp (disch:=omega) only [JA,Xp,ZQ,Zs,ZH,XV,eq_self,W8,go_sem,seval];exact ⟨k+1,Za,Za,Weak.mk (by simp (disch:=omega) only [h5,E6,hsk,Xm,List.replicate,Nat.reduceAdd,Ji,U7,U8,U9,Qa,Zu,Zk,Xu,ZF,go_sem,seval])⟩
         ·have hsk:skpF x k= -1:=by simp [skpF,h2]
          simp (disch:=omega) only [JA,go_sem,seval];rw [if_pos ⟨Za,Za⟩];simp (disch:=omega) only [JA,Xp,ZQ,Zs,ZH,XV,eq_self,W8,go_sem,seval];exact ⟨k+1,Za,Za,Weak.mk (by simp (disch:=omega) only [h5,E6,hsk,Xm,List.replicate,Nat.reduceAdd,Ji,U7,U8,U9,Qa,Zu,Zk,Xu,ZF,go_sem,seval])⟩
        ·have hkl:k=x.orders.length:=Za
         clear hk h1;refine Zp (Weak.fz (o:=4+x.orders.length) (S:=1) (xs:=(skF x k).map eI) (by rw [h5];rfl)) ?_;refine Zf [] _ _ _ _ ?_;simp (disch:=omega) only [h5,Zu,Zk,X7,Z9,Xp,JA,Nat.reduceAdd,eq_self,go_sem,seval,↓reduceIte];exact ⟨.tup [.ptr 2 0,.p (.int .i64 0)],_,Weak.mk (by simp (disch:=omega) only [hkl,h5,X4,YT,shO,shVs,shV,Ji,U7,U8,U9,Qa,Zu,Zk,go_sem,seval]),.inr (.inr ⟨Za,YB,ys,⟨hC,hyl⟩,rfl,rfl⟩)⟩
theorem Zco : ∀S:Fin 16,0<S.val->sHas (S.val:Int) (Ag S.val)=true:=by decide+kernel
theorem MA {x:Inst} (hx:InstOk x) (i:Nat): -1<=skpF x i/\skpF x i<=18014398509481984:=by
 unfold skpF
 split
 ·rename_i h
  have hm:(unsF x i).1.cost<=1000000/\(unsF x i).1.moved<=1/\0<=(unsF x i).1.moved/\(unsF x i).1.other=0/\(unsF x i).1.work=0:=by
   unfold unsF
   split
   ·simp [zSco]
   ·split
    ·simp [zSco]
    ·split
     ·simp [zSco]
     ·have ha:=(hx.orders.2 (i:Int).toNat Za).arg;simp only [argOk,rng,ZG,Zr] at ha
      grind
  obtain ⟨_,h2⟩:=h;unfold Wn at h2 ⊢
  grind
 ·omega
theorem O1 {x:Inst} {l ys:List Col} (hx:InstOk x) (hn:x.orders.length<=4) (hC:Cheap l ys) (hr: ∀c∈l,rightB x c=true) (hs: ∀c∈l,c.set<9223372036854775808):ChOk x.orders.length x (fstF x.orders.length ys) (skF x x.orders.length):=by
 refine ⟨fun i hi c hc=> ?_,?_,fun i hi=> ?_⟩
 ·have e:nth (fstF x.orders.length ys) i=Yb ys i:=by
   grind [fstF,Zj]
  rw [e,Yb,Qf] at hc;obtain ⟨h1,h2⟩:=hc;simp only [Zr] at h2;obtain ⟨j,hj,hjl,_⟩:=hC.bst c h1
  have hm:c∈l:=by grind [ZN]
  obtain ⟨S,q1,q2,q3,_⟩:=Uy (hr c hm) (hs c hm);have h16:S<16:=Jv q3 (XZ (n:=2) Za hn);have hb:=Zco ⟨S,h16⟩ q2;have hr1:=hr c hm;simp only [rightB,ZG,Zr] at hr1
  grind
 ·have ht:=hx.types;simp only [typesOk,rng,Zr] at ht;refine ⟨Za,fun t _=> ?_⟩;rcases W7 t x.types.length with h | h
  ·have:=ht.2 t h;unfold Az at this;have:=this.1.1.1.1.1.1.2;simp only [rng,Zr] at this;omega
  ·rw [show nth x.types t=default from by grind [nth]]
   decide
 simp_all [skF,Zj,MA]
def zSt : St:=⟨0,0,[0,0,0,0,0,0]⟩
def HU (x:Inst) (ys:List Col):Int:=YV x.orders.length ((Yh x x.orders.length:Nat):Int) x (fstF x.orders.length ys) (skF x x.orders.length) 20 (W0 x.orders.length ((Yh x x.orders.length:Nat):Int) zSt)
theorem tT (n:Nat):StV n zSt:=⟨rfl,⟨by decide,by simp [zSt]⟩,⟨0,rfl,Za⟩,fun j hj=>by
 have:nth zSt.used j=0:=by
  have:j=0\/j=1\/j=2\/j=3\/j=4\/j=5:=Za
  rcases this with rfl | rfl | rfl | rfl | rfl | rfl<;>rfl
 omega⟩
def kp (c:Col):Int×Int×Int:=(c.typ,c.set,c.price)
theorem AP {α:Type} {r:α->α->Prop} (irr: ∀a,¬r a a) (asy: ∀a b,r a b-> ¬r b a): ∀ {l l':List α},l.Pairwise r->l'.Pairwise r->(∀a,a∈l↔a∈l')->l=l'
 | [],[],_,_,_=>rfl
 | [],b::_,_,_,h=>by have:=(h b).2 Zb;simp at this
 | a::_,[],_,_,h=>by have:=(h a).1 Zb;simp at this
 | a::l,b::l',h1,h2,h=>by
  rw [List.pairwise_cons] at h1 h2
  have hab:a=b:=by
   rcases Yj.1 ((h a).1 Zb) with e | e
   ·exact e
   ·rcases Yj.1 ((h b).2 Zb) with e' | e'
    ·exact e'.symm
    ·exact absurd (h1.1 b e') (asy _ _ (h2.1 a e))
  subst hab
  rw [AP irr asy h1.2 h2.2 fun c=>⟨fun hc=>by
   rcases Yj.1 ((h c).1 (Yv _ hc)) with e | e
   ·subst e;exact absurd (h1.1 c hc) (irr c)
   ·exact e,fun hc=>by
   rcases Yj.1 ((h c).2 (Yv _ hc)) with e | e
   ·subst e;exact absurd (h2.1 c hc) (irr c)
   ·exact e⟩]
theorem aT {l ys:List Col} (h:Cheap l ys) {c:Col} (hc:c∈l): ∃d∈ys,kd d=kd c/\d.price<=c.price:=by
 obtain ⟨d,hd,e⟩:=h.all c hc;obtain ⟨j,hj,rfl⟩:=Z4.1 hc;obtain ⟨i,hi,_,h3⟩:=h.bst d hd
 grind [Zj]
theorem aS {l ys:List Col} (h:Cheap l ys) {d:Col} (hd:d∈ys):d∈l:=by
 obtain ⟨j,hj,e,_⟩:=h.bst d hd
 grind [ZN]
theorem LX {n i:Nat} {ys:List Col} :nth (fstF n ys) i=if i<n then Yb ys i else []:=by
 split
 ·grind [fstF,Zj]
 ·rename_i h;rw [nth,Wy,List.getElem?_eq_none (by simp [fstF];omega)];rfl
def TB (a b:Int):Prop:=b<0\/(0<=a/\a<=b)
theorem Pb {x:Inst} {s:St} {r:Col->Int} (hr: ∀c,-1<=r c): ∀ {l:List Col} {a:Int},(∀c∈l,0<=c.price) ->
  TB (l.foldl (fun o c=>if Yp x s c=true then YK o c.price (r c) else o) a) a/\ ∀c∈l,Yp x s c=true->0<=r c->TB (l.foldl (fun o c=>if Yp x s c=true then YK o c.price (r c) else o) a) (c.price+r c)
 | [],a,_=>⟨by grind [TB],fun c hc=>by simp at hc⟩
 | d::l,a,hp=>by
  have hd:=hp d Zb;obtain ⟨g1,g2⟩:=Pb (x:=x) (s:=s) hr (l:=l) (a:=if Yp x s d=true then YK a d.price (r d) else a) fun c hc=>hp c (Yv _ hc);rw [Qc];generalize l.foldl (fun o c=>if Yp x s c=true then YK o c.price (r c) else o) (if Yp x s d=true then YK a d.price (r d) else a)=M at g1 g2;refine ⟨?_,fun c hc hy h0=> ?_⟩
  ·grind [TB,YK]
  ·rcases Yj.1 hc with rfl | hc
   ·rw [if_pos hy] at g1
    grind [TB,YK]
   grind
theorem Gg {x:Inst} {s:St} {r:Col->Int} : ∀ {l:List Col} {a:Int},l.foldl (fun o c=>if Yp x s c=true then YK o c.price (r c) else o) a=a\/ ∃c∈l,Yp x s c=true/\0<=r c/\l.foldl (fun o c=>if Yp x s c=true then YK o c.price (r c) else o) a=c.price+r c
 | [],a=> .inl rfl
 | d::l,a=>by
  rw [Qc];rcases Gg (x:=x) (s:=s) (r:=r) (l:=l) (a:=if Yp x s d=true then YK a d.price (r d) else a) with h | ⟨c,h1,h2,h3,h4⟩
  ·rw [h]
   split
   ·rename_i hy;unfold YK
    split
    ·grind
    omega
   omega
  grind
def YG (x:Inst) (S:Nat) (l:List Vis):List Vis:=(Qs x S x.orders.length).filter fun v=>decide (v ∉ l)
def Fz (x:Inst) (S:Nat) (l:List Vis):List Vis:=(YG x S l).filter fun v=> !(v.drp&&decide ((⟨v.order,false⟩:Vis)∈YG x S l))
theorem T2 (x:Inst) (S k:Nat):(Qs x S k).Pairwise fun v w=>vk v<vk w:=by
 rw [Qs,List.pairwise_flatMap]
 have hm: ∀i,∀v∈(if S.testBit i=true then ZZ x.orders i else []),v∈ZZ x.orders i:=fun i v hv=>by
  grind
 constructor
 ·intro i _
  split
  ·rcases VA x.orders i with e | e | e | e<;>rw [e]<;>simp [vk,dn]<;>omega
  ·simp
 ·refine (List.pairwise_lt_range (n:=k)).imp fun {i j} hij v hv w hw=> ?_
  grind [YQ,A8,vk]
theorem PG (x:Inst) (S:Nat) (l:List Vis):(Fz x S l).Pairwise fun v w=>vk v<vk w:=((T2 x S _).filter _).filter _
theorem Pz {x:Inst} {S:Nat} {l:List Vis} {v:Vis} :v∈Fz x S l↔v∈YG x S l/\(v.drp=true->(⟨v.order,false⟩:Vis) ∉ YG x S l):=by
 rw [Fz,Qf]
 grind
theorem DD {x:Inst} {S:Nat} {l:List Vis} {v:Vis} :v∈YG x S l↔v∈Qs x S x.orders.length/\v ∉ l:=by
 grind [YG]
theorem DF {x:Inst} {S:Nat} {l:List Vis} :Fz x S l= []↔YG x S l= []:=by
 constructor
 ·intro h;refine List.eq_nil_iff_forall_not_mem.2 fun v hv=> ?_
  by_cases c:v.drp=true/\(⟨v.order,false⟩:Vis)∈YG x S l
  ·have:(⟨v.order,false⟩:Vis)∈Fz x S l:=Pz.2 ⟨c.2,Zb⟩
   grind
  simp_all [Fz]
 grind [Fz]
theorem DC {nx:List Vis->List Vis} (hn: ∀l,(nx l).Pairwise fun v w=>vk v<vk w): ∀(f:Nat) (l:List Vis),(Qj nx f l).Pairwise fun a b=>Vp a b<0
 | 0,l=>by simp [Qj]
 | f+1,l=>by
  rw [Qj]
  split
  ·simp
  ·rw [List.pairwise_flatMap];refine ⟨fun v _=>DC hn f _,(hn l).imp fun {v w} h a ha b hb=> ?_⟩;obtain ⟨r,rfl⟩:=Bw f _ a ha;obtain ⟨s,rfl⟩:=Bw f _ b hb;rw [VV,VV,Pu];simp only [List.singleton_append,Vp];have h2:AE v w<0:=O3.2 h;omega
theorem NN {nx:List Vis->List Vis} {m:List Vis} (hm:nx m= []) {k0:Nat} (h: ∀j,k0<=j->j<m.length->nth m j∈nx (m.take j)): ∀f k,k0<=k->k<=m.length->m.length<=k+f->m∈Qj nx f (m.take k)
 | 0,k,_,h2,h3=>by
  grind [Qj]
 | f+1,k,h1,h2,h3=>by
  by_cases hk:k<m.length
  ·have ha:=h k h1 hk;rw [Qj,if_neg (fun e=>by grind),Uq];refine ⟨nth m k,ha,?_⟩
   have e:m.take k++ [nth m k]=m.take (k+1):=by rw [Zx hk,Zj hk]
   rw [e];exact NN hm h f (k+1) Za Za Za
  simp_all [Dw,Qj]
theorem iD {x:Inst} (hf:IFacts x) {m:List Vis} (h:RightV x m):C1 x (ordS m) m= []/\ ∀j,j<m.length->nth m j∈C1 x (ordS m) (m.take j):=by
 have hg:=h.gr hf m.length (ZM _);rw [Yu] at hg;exact ⟨oF hg (h.len hf),fun j hj=>hg.at j hj⟩
theorem GN {x:Inst} (hf:IFacts x) {m:List Vis} (h:RightV x m):Fz x (ordS m) m= []/\ ∀j,j<m.length->nth m j∈Fz x (ordS m) (m.take j):=by
 have hg:=h.gr hf m.length (ZM _);rw [Yu] at hg;refine ⟨DF.2 (List.eq_nil_iff_forall_not_mem.2 fun v hv=> ?_),fun j hj=> ?_⟩
 ·obtain ⟨h1,h2⟩:=DD.1 hv;exact h2 (hg.full (h.len hf) v h1)
 ·obtain ⟨i,i1,i2,i3,i4,i5⟩:=QL.1 (hg.at j hj);obtain ⟨r1,r2,r3⟩:=(Ux i4).1 i5;refine Pz.2 ⟨DD.2 ⟨hg.sub _ (Zn hj),r1⟩,fun hd hp=> ?_⟩;obtain ⟨p1,p2⟩:=DD.1 hp;obtain ⟨q,q1,q2,q3⟩:=QK.1 p1;have e1:=YQ i4;have e2:=YQ q3
  grind
def FE (b:Rte) (m:List Vis):Rte:=⟨b.typ,b.start,b.rests_c,b.rests,b.visits_c&&decide (m.length=b.visits.length),m⟩
def Qo (x:Inst) (b:Rte) (S:Nat) (m:List Vis):Bool:=decide ((ordR m).2=0)&&(decide ((ordR m).1=(S:Int))&&decide ((Ao x (FE b m)).2=0))
def Wh (x:Inst) (b:Rte) (S:Nat) (m:List Vis):Col:=⟨b.typ,S,(Ao x (FE b m)).1,FE b m⟩
theorem SG {x:Inst} {r:Rte} (h:(Ao x r).2=0):Xb x r=0:=by
 grind [Ao]
theorem Cx {x:Inst} (hf:IFacts x) {b:Rte} {S:Nat} {m:List Vis} (h:Qo x b S m=true):RightV x m/\ordS m=S:=by
 simp only [Qo,ZG,Zr] at h;have hr:RightV x m:=Lq (SG h.2.2);have e:=hr.ord hf
 grind
theorem nV {x:Inst} (hf:IFacts x) {b:Rte} {S:Nat} {l:List Vis} {f f':Nat} (h1:Qq x S<=l.length+f) (h2:Qq x S<=l.length+f') :
  (Qj (C1 x S) f l).filter (Qo x b S)=(Qj (Fz x S) f' l).filter (Qo x b S):=by
 have pre: ∀ {nx:List Vis->List Vis} {g:Nat} {m:List Vis},m∈Qj nx g l->l.length<=m.length/\m.take l.length=l:=fun hm=>by
  obtain ⟨r,rfl⟩:=Bw _ _ _ hm;simp
 refine AP (r:=fun a b=>Vp a b<0) (fun a=>by have:=(LN a a).2 rfl;omega) (fun a b h h'=>by grind [Es])
  ((DC (fun q=>Sl x S q _) f l).filter _) ((DC (PG x S) f' l).filter _) fun m=> ?_
 rw [Qf,Qf];refine and_congr_left fun ho=> ?_;obtain ⟨hr,rfl⟩:=Cx hf ho;have hl:=hr.len hf;unfold Qq at h1 h2
 constructor
 ·intro hm;obtain ⟨p1,p2⟩:=pre hm;obtain ⟨q1,q2⟩:=GN hf hr;have:=NN q1 (k0:=l.length) (fun j _ hj=>q2 j hj) f' l.length (ZM _) p1 Za
  grind
 ·intro hm;obtain ⟨p1,p2⟩:=pre hm;obtain ⟨q1,q2⟩:=iD hf hr;have:=NN q1 (k0:=l.length) (fun j _ hj=>q2 j hj) f l.length (ZM _) p1 Za
  grind
def D5 (a b:Col):Bool:=decide (a.price<b.price)
theorem JZ {ok:List Vis->Bool} {col:List Vis->Col} (hc: ∀m,(col m).route.visits=m): ∀(L:List (List Vis)) (b:Col×Bool),L.Pairwise (fun a b=>Vp a b<0)->(b.2=true-> ∀m∈L,Vp b.1.route.visits m<0)->L.foldl (Yl ok col UF) b=L.foldl (Yl ok col D5) b
 | [],_,_,_=>rfl
 | l::L,b,hp,hb=>by
  rw [List.pairwise_cons] at hp;rw [Qc,Qc]
  have e:Yl ok col UF b l=Yl ok col D5 b l:=by
   unfold Yl
   by_cases h2:b.2=true
   ·have h3:=hb h2 l Zb
    have h4:UF (col l) b.1=D5 (col l) b.1:=by
     unfold UF D5
     split
     ·rfl
     ·rename_i hp;have hp:(col l).price=b.1.price:=Xl.1 hp
      grind [Es]
    rw [h4]
   grind
  rw [e];refine JZ hc L _ hp.2 fun h3 m hm=> ?_;unfold Yl at h3 ⊢
  grind
def RU (b:Rte):Bool:=decide (b.visits.length<b.rests.length)
def La (x:Inst) (b:Rte) (S f:Nat) (z:Col×Bool):Col×Bool:=(if RU b=true then [b.visits] else Qj (C1 x S) f b.visits).foldl (Yl (Qo x b S) (Wh x b S) UF) z
def lY (x:Inst) (b:Rte) (S f:Nat) (z:Col×Bool):Col×Bool:=(if RU b=true then [b.visits] else Qj (Fz x S) f b.visits).foldl (Yl (Qo x b S) (Wh x b S) D5) z
theorem lX {x:Inst} (hf:IFacts x) {b:Rte} {S f f':Nat} {z:Col×Bool} (h1:Qq x S<=b.visits.length+f) (h2:Qq x S<=b.visits.length+f') (hz:z.2=false):La x b S f z=lY x b S f' z:=by
 unfold La lY
 split
 ·exact JZ (fun _=>rfl) _ z Zb (by simp [hz])
 ·rw [U1,nV hf h1 h2,<- U1];exact JZ (fun _=>rfl) _ z (DC (PG x S) f' _) (by simp [hz])
theorem OZ {x:Inst} {b:Rte} {S f:Nat} {z:Col×Bool} (h:(ordR b.visits).2≠0\/ ∃i,(ordS b.visits).testBit i=true/\S.testBit i=false) (hf:IFacts x):La x b S f z=z:=GZ fun m hm=>by
 cases ho:Qo x b S m with
 | false=>rfl
 | true =>
  exfalso;obtain ⟨hr,rfl⟩:=Cx hf ho
  obtain ⟨r,rfl⟩: ∃r,m=b.visits++r:=by
   split at hm
   ·simp_all
   grind [Bw]
  rcases h with h | ⟨i,h1,h2⟩
  ·refine h ?_;rw [ordR,if_pos];rw [Zw];intro v hv;have:=hr.inr v (List.mem_append_left _ hv);have:=hf.len;simp [CX];omega
  grind [WE]
def ZY (l:List Rte):Nat:=ordS (l.flatMap fun r=>r.visits)
theorem Qv {l:List Rte} {i:Nat} :(ZY l).testBit i=true↔ ∃r∈l,∃v∈r.visits,v.order.toNat=i:=by
 grind [ZY,WE]
def UI (x:Inst) (b:Rte) (S:Nat):Col×Bool:=La x b S (Qq x S) (VB,false)
def Cy (x:Inst) (b:Rte) (S:Nat):List Col:=if (UI x b S).2=true then [(UI x b S).1] else []
def JK (need wout S:Nat):Bool:=decide (S&&&need=need)&&decide (S&&&wout=0)
def JY (x:Inst) (b:Rte) (need wout S:Nat):List Col:=if JK need wout S=true then Cy x b S else []
def At (x:Inst) (b:Rte) (need wout:Nat):List Col:=JO (JY x b need wout) (2^x.orders.length-1)
def Fl (x:Inst) (bs:List Rte):Nat->List Col
 | 0=> []
 | k+1=>Fl x bs k++At x (nth bs k) (ZY [nth bs k]) (ZY (bs.take k++bs.drop (k+1)))
def VY (k now:Int):Rte:=⟨k,now,true,[],true,[]⟩
def GG (x:Inst) (bs:List Rte) (now:Int):Nat->List Col
 | 0=>Fl x bs bs.length
 | k+1=>GG x bs now k++At x (VY (k:Int) now) 0 (ZY bs)
def ID (x:Inst) (bs:List Rte) (now:Int):List Col:=GG x bs now x.types.length
def ND (bs:List Rte) (a:Int) (S:Nat):Bool:=(List.range bs.length).all fun i=>(nth bs i).visits.all fun v=>S.testBit v.order.toNat==decide ((i:Int)=a)
theorem kP {S T:Nat} :S&&&T=T↔ ∀i,T.testBit i=true->S.testBit i=true:=by
 constructor
 ·grind
 ·intro h;refine AG fun i=> ?_
  grind
theorem OM {S T:Nat} :S&&&T=0↔ ∀i,T.testBit i=true->S.testBit i=false:=by
 constructor
 ·intro h i hi;have:=X0 (·.testBit i) h
  grind
 ·intro h;refine AG fun i=> ?_
  grind
theorem Bf {bs:List Rte} {a:Int} {S:Nat} :ND bs a S=true↔ ∀i,i<bs.length-> ∀v∈(nth bs i).visits,S.testBit v.order.toNat=decide ((i:Int)=a):=by
 simp_all [ND]
theorem Py {bs:List Rte} {a:Nat} {r:Rte} :r∈bs.take a++bs.drop (a+1)↔ ∃i,i<bs.length/\i≠a/\r=nth bs i:=by
 rw [Xd]
 constructor
 ·rintro (h | h)
  ·obtain ⟨i,hi,rfl⟩:=List.mem_take_iff_getElem.1 h;exact ⟨i,Za,Za,by grind [Zj]⟩
  ·obtain ⟨i,hi,rfl⟩:=Z4.1 h;rw [Xg] at hi;exact ⟨a+1+i,Za,Za,by grind [Zj]⟩
 ·rintro ⟨i,h1,h2,rfl⟩;rcases W7 i a with h | h
  ·grind [List.mem_take_iff_getElem,Zj]
  ·right
   refine Z4.2 ⟨i-(a+1),by grind,?_⟩
   grind [Zj]
theorem nF {bs:List Rte} {a S:Nat} (ha:a<bs.length):ND bs (a:Int) S=JK (ZY [nth bs a]) (ZY (bs.take a++bs.drop (a+1))) S:=by
 rw [Up,Bf,JK,ZG,Zr,Zr,kP,OM]
 constructor
 ·intro h
  constructor
  ·intro i hi;obtain ⟨r,hr,v,hv,rfl⟩:=Qv.1 hi
   grind
  ·intro i hi;obtain ⟨r,hr,v,hv,rfl⟩:=Qv.1 hi;obtain ⟨q,q1,q2,rfl⟩:=Py.1 hr
   grind
 ·rintro ⟨h1,h2⟩ i hi v hv
  by_cases c:i=a
  ·subst c;rw [h1 _ (Qv.2 ⟨_,Zb,v,hv,rfl⟩)];simp
  ·rw [h2 _ (Qv.2 ⟨_,Py.2 ⟨i,hi,c,rfl⟩,v,hv,rfl⟩),Xn Za]
theorem nH {bs:List Rte} {S:Nat} :ND bs (-1) S=JK 0 (ZY bs) S:=by
 have e:JK 0 (ZY bs) S=true↔S&&&ZY bs=0:=by simp [JK]
 rw [Up,Bf,e,OM]
 constructor
 ·intro h i hi;obtain ⟨r,hr,v,hv,rfl⟩:=Qv.1 hi;obtain ⟨q,hq,rfl⟩:=Z4.1 hr
  grind [Zj]
 ·intro h2 i hi v hv;rw [h2 _ (Qv.2 ⟨_,Zn hi,v,hv,rfl⟩),Xn Za]
def FO (x:Inst) (p:Pln) (j:Nat):Ord:= { nth x.orders j with now:=nth (Dg x p) j }
def qQ (x:Inst) (p:Pln):Inst:= { x with orders_c:=false,orders:=WH (FO x p) x.orders.length }
def kF (x:Inst) (p:Pln):V:= .tup [.p (Zv (if Ys x p=0 then qQ x p else zeroI)),.p (.int .i64 (Ys x p))]
def vM (x:Inst) (p:Pln) (S j:Nat):Ord:=if S.testBit j=true then { FO x p j with penalty:= -1 } else FO x p j
def JT (x:Inst) (p:Pln) (S:Nat):Inst:= { x with orders_c:=false,orders:=WH (vM x p S) x.orders.length }
theorem Nf {x:Inst} {p:Pln} {S j:Nat} : ∃v:Int,vM x p S j= { nth x.orders j with now:=nth (Dg x p) j,penalty:=v } /\(v=(nth x.orders j).penalty\/v= -1):=by
 rw [vM]
 split
 ·exact ⟨_,rfl,.inr rfl⟩
 ·exact ⟨_,rfl,.inl rfl⟩
theorem Nc {x:Inst} {p:Pln} {S:Nat} (hx:InstOk x) (h:Ys x p=0):InstOk (JT x p S):=by
 have hlen:(JT x p S).orders.length=x.orders.length:=Wf;have hn: ∀i,i<x.orders.length->nth (JT x p S).orders i=vM x p S i:=fun i hi=>Km hi;refine ⟨hx.net,hx.types,⟨by rw [hlen];exact hx.orders.1,fun i hi=> ?_⟩,by rw [hlen];exact hx.rules⟩;rw [hlen] at hi;have ho:=hx.orders.2 i hi;obtain ⟨v,e,hv⟩:=Nf (x:=x) (p:=p) (S:=S) (j:=i)
 constructor
 ·rw [hn i hi,e];exact ho.name
 ·intro j hj;obtain ⟨v2,e2,_⟩:=Nf (x:=x) (p:=p) (S:=S) (j:=j);rw [hn i hi,hn j Za,e,e2];exact ho.twin j hj
 ·rw [hn i hi,e];exact ho.load
 ·rw [hn i hi,e];exact ho.pick
 ·rw [hn i hi,e];exact ho.drp
 ·rw [hn i hi,e];exact ho.one
 ·rw [hn i hi,e];exact ho.pstp
 ·rw [hn i hi,e];exact ho.dstp
 ·rw [hn i hi,e];exact ho.skills
 ·rw [hn i hi,e];have ha:=ho.arg;have hk:=LL h hi
  show argOk _ (x.types.length:Int)=true
  simp only [argOk,rng,ZG,Zr] at ha ⊢;obtain ⟨⟨a1,a2⟩,a3,a4,a5,a6,a7⟩:=ha;refine ⟨⟨?_,a2⟩,a3,?_⟩
  ·omega
  omega
theorem As (l:List Ord) (c:Bool) (hl:l.length<=1048576):ACalls Tryz.prog 58 [.p (.list c (l.map eOrd))] [] fun y H'=>y= .sl 0 0 l.length l.length/\H'= [.elems 16 (l.map eOrd)]:=by
 refine Ze [1] Tryz.func58 rfl ZhI ?_;simp (disch:=omega) only [Tryz.f58,go_sem,seval];refine VC (I0 (e:=59) (cl:=c) (xs:=l.map eOrd) Tryz.underlying40 (by rfl) Zb fun b hb=> ?_);refine Zf [] _ _ _ _ (X8 ?_);refine cD ?_ ?_<;>intro h<;>simp (disch:=omega) only [Sh.out h,go_sem,seval]
 ·have:l= []:=by simp_all
  subst this;exact ⟨_,_,Weak.nil 0 16 rfl Zb,rfl,rfl⟩
 ·refine Zf [] _ _ _ _ (X8 ?_);exact we
theorem Tn (l:List Ord) (i:Nat) (k:Int) (hi:i<l.length):ACalls Tryz.prog 94 [.ep 0 i 0 l.length,.p (.int .i64 k)] [.elems 16 (l.map eOrd)] fun y H'=>y= .tup []/\H'= [.elems 16 ((l.set i { nth l i with now:=k }).map eOrd)]:=by
 have hel:U6 (l.map eOrd) i=eOrd (nth l i):=WK hi
 have hset:(l.map eOrd).set i (eOrd { nth l i with now:=k })=(l.set i { nth l i with now:=k }).map eOrd:=Zb
 simp only [Dn] at hset;refine Ze [] Tryz.func94 rfl Zh4 ?_;simp (disch:=omega) only [Tryz.f94,go_sem,seval];exact ⟨.tup [],_,Weak.refl _ _ _,rfl,X0 (fun q=> [AM.Obj.elems 16 q]) hset⟩
def TG (x:Inst) (p:Pln) (k:Nat):List Ord:=WH (fun j=>if j<k then FO x p j else nth x.orders j) x.orders.length
theorem P6 {x:Inst} {p:Pln} {k:Nat} :(TG x p k).length=x.orders.length:=Wf
theorem jJ {x:Inst} {p:Pln} :TG x p 0=x.orders:=(Ab fun j _=>by rfl).trans S0
theorem qR {x:Inst} {p:Pln} :TG x p x.orders.length=WH (FO x p) x.orders.length:=Ab fun j hj=>by grind
theorem qS {x:Inst} {p:Pln} {k:Nat} (h:k<x.orders.length):nth (TG x p k) k=nth x.orders k:=by simp_all [TG,Km]
theorem qT {x:Inst} {p:Pln} {k:Nat} :(TG x p k).set k (FO x p k)=TG x p (k+1):=by
 rw [TG,Mh];refine Ab fun i _=> ?_
 grind
theorem aR (x:Inst) (p:Pln) (ho:x.orders.length<=4) (ht:x.types.length<=1048576) (hr:p.routes.length<=1048576) (hv: ∀r∈p.routes,r.visits.length<=1048576) :
  ACalls Tryz.prog 93 [.p (Zv x),.p (Wk p),.fn (.func 94) [] []] [] fun y H'=>y=kF x p/\H'= []:=by
 have ck:=Si x p ho ht hr hv;have zI:Zv zeroI= .agg [.list true [],.list true [],.list true [],.list true [],.list true [],.list true []]:=rfl;obtain ⟨T,hT⟩: ∃T,T=kF x p:=⟨_,rfl⟩;rw [<- hT];unfold kF at hT;refine Ze [10] Tryz.func93 rfl Zh3 ?_;simp (disch:=omega) only [Tryz.f93,go_sem,seval]
 by_cases h0:Ys x p=0
 ·rw [Bm,if_pos h0] at ck;rw [if_pos h0,h0] at hT;have hkl:=Ep (x:=x) (p:=p);refine Y0 ck (X8 ?_);refine (As x.orders x.orders_c Za).useF (X8 ?_);refine ZI [10] [2,3,6,8,27] (fun k:Nat=> [(28,.p (.int .i64 k))]) (fun k=> [.cells (Df x 3 x.orders.length),Xe p,.cells (List.replicate 6 (.p (.list true []))),.elems 16 ((TG x p k).map eOrd)]) (fun k=>k<=x.orders.length) (fun k=>x.orders.length-k) 0 Zb (Weak.mk ?_) ?_
  ·simp (disch:=omega) only [Df,Xe,List.replicate,jJ,go_sem,seval]
  ·intro k hk;have hrl:=P6 (x:=x) (p:=p) (k:=k);simp (disch:=omega) only [Df,Xe,List.replicate,go_sem,seval];refine cD ?_ ?_<;>intro h<;>simp (disch:=omega) only [Sh.out h,go_sem,seval,↓reduceIte]
   ·have hk2:k<x.orders.length:=Za
    have cw:=Tn (TG x p k) k (nth (Dg x p) k) Za;rw [qS hk2,show ({ nth x.orders k with now:=nth (Dg x p) k } :Ord)=FO x p k from rfl,qT] at cw
    have hxl:((TG x p k).map eOrd).length=x.orders.length:=by grind
    rw [hrl,<- hxl] at cw;have ca:=fun H (hH:H[3]? =some (AM.Obj.elems 16 ((TG x p k).map eOrd)))=>ACalls.atE (o:=3) (ps:= [.int .i64 (nth (Dg x p) k)]) (H:=H) hH cw (by simp [P6]);simp only [hxl] at ca;refine Z3 9 mixed Zd Zd (X8 ?_);refine (ca _ (by rfl)).mono ?_;rintro y H' ⟨rfl,rfl⟩;simp (disch:=omega) only [X7,Z9,go_sem,seval];exact ⟨k+1,Za,Za,wk⟩
   ·have hkl:k=x.orders.length:=Za
    subst hkl;refine Zp (Weak.fz (o:=3) (by rfl)) ?_;refine Zf [] _ _ _ _ ?_;simp (disch:=omega) only [Zu,Zk,X7,Z9,Xp,hrl,eq_self,go_sem,seval];exact ⟨T,[],Weak.mk (by simp (disch:=omega) only [hT,qQ,qR,go_sem,seval]),rfl,rfl⟩
 ·rw [Bm,if_neg h0] at ck;rw [if_neg h0,zI] at hT;refine Y0 ck (X8 ?_);refine cD ?_ ?_<;>intro h2<;>simp (disch:=omega) only [Sh.out h2,go_sem,seval,↓reduceIte]
  ·exact ⟨T,[],Weak.mk (by simp (disch:=omega) only [hT,go_sem,seval]),rfl,rfl⟩
  ·omega
theorem eQ (x:Inst) (p:Pln) (ho:x.orders.length<=4) (ht:x.types.length<=1048576) (hr:p.routes.length<=1048576) (hv: ∀r∈p.routes,r.visits.length<=1048576) :
  ACalls Tryz.prog 57 [.p (Zv x),.p (Wk p)] [] fun y H'=>y=kF x p/\H'= []:=by
 have ck:=aR x p ho ht hr hv;unfold kF at ck ⊢;refine Ze [] Tryz.func57 rfl ZhH ?_;simp (disch:=omega) only [Tryz.f57,go_sem,seval];refine Y0 ck ?_;generalize (if Ys x p=0 then qQ x p else zeroI)=Z;refine X8 ?_;exact we
theorem jN (x:Inst) (p:Pln) (ho:x.orders.length<=1048576) (ht:x.types.length<=1048576) (hr:p.routes.length<=1048576) (hv: ∀r∈p.routes,r.visits.length<=1048576) :
  ACalls Tryz.prog 61 [.p (Zv x),.p (Wk p)] [] fun y H'=>y=kF x p/\H'= []:=by
 have ck:=Oa x p ho ht hr hv;have zI:Zv zeroI= .agg [.list true [],.list true [],.list true [],.list true [],.list true [],.list true []]:=rfl;obtain ⟨T,hT⟩: ∃T,T=kF x p:=⟨_,rfl⟩;rw [<- hT];unfold kF at hT;refine Ze [6,12] Tryz.func61 rfl ZhL ?_;simp (disch:=omega) only [Tryz.f61,go_sem,seval]
 by_cases h0:Ys x p=0
 ·rw [Bm,if_pos h0] at ck;rw [if_pos h0,h0] at hT;have hkl:=Ep (x:=x) (p:=p);refine Y0 ck (X8 ?_);refine Zp (Weak.nilC (o:=3) (j:=3) 16 (by rfl) (by rfl) Zb) ?_;refine Zf [12] _ _ _ _ ?_;simp (disch:=omega) only [X7,Z9,Xu,ZF,Zs,ZH,go_sem,seval];refine ZI [12] [2,4,6,8] (fun q:Nat×List Ord=> [(9,.p (.int .i64 q.1))]) (fun q=> [Zg x,Xe p,.cells (List.replicate 6 (.p (.list true []))),.cells (Df x 4 q.2.length),.elems 16 (q.2.map eOrd)]) (fun q=>q.1<=x.orders.length/\q.2=WH (FO x p) q.1) (fun q=>x.orders.length-q.1) (0,[]) ⟨Zb,by simp [WH]⟩ (Weak.mk ?_) ?_
  ·simp (disch:=omega) only [Zg,Xe,Df,List.replicate,ZH,Zk,go_sem,seval]
  ·rintro ⟨k,m⟩ ⟨hk,hm⟩;simp only at hk hm
   have hml:m.length=k:=by rw [hm];exact Wf
   simp (disch:=omega) only [Zg,Xe,Df,List.replicate,go_sem,seval];refine ZB ?_ ?_<;>intro h
   ·have hk2:k<x.orders.length:=Za
    have hsn:WH (FO x p) (k+1)=m++ [FO x p k]:=by rw [S1,hm]
    exact ⟨(k+1,m++ [FO x p k]),⟨Za,hsn.symm⟩,Za,Weak.mk (by simp (disch:=omega) only [FO,Xm,ZQ,Zu,Zk,Zs,ZH,Dn,go_sem,seval])⟩
   ·have hkl:k=x.orders.length:=Za
    subst hkl;refine Zp (Weak.fz (o:=4) (by rfl)) ?_;refine Zf [] _ _ _ _ ?_;simp (disch:=omega) only [Zu,Zk,X7,Z9,eq_self,go_sem,seval];exact ⟨T,[],Weak.mk (by simp (disch:=omega) only [hT,qQ,hm,go_sem,seval]),rfl,rfl⟩
 ·rw [Bm,if_neg h0] at ck;rw [if_neg h0,zI] at hT;refine Y0 ck (X8 ?_);refine cD ?_ ?_<;>intro h2<;>simp (disch:=omega) only [Sh.out h2,go_sem,seval,↓reduceIte]
  ·exact ⟨T,[],Weak.mk (by simp (disch:=omega) only [hT,go_sem,seval]),rfl,rfl⟩
  ·omega
theorem A5 (l:List Vis) (c:Bool) (hl:l.length<=1048576):ACalls Tryz.prog 251 [.p (.list c (l.map ZS))] [] fun y H'=>y= .sl 0 0 l.length l.length/\H'= [.elems 2 (l.map ZS)]:=by
 refine Ze [1] Tryz.func251 rfl Zav ?_;simp (disch:=omega) only [Tryz.f251,go_sem,seval];refine VC (I0 (e:=126) (cl:=c) (xs:=l.map ZS) Tryz.underlying47 (by rfl) Zb fun b hb=> ?_);refine Zf [] _ _ _ _ (X8 ?_);refine cD ?_ ?_<;>intro h<;>simp (disch:=omega) only [Sh.out h,go_sem,seval]
 ·have:l= []:=by simp_all
  subst this;exact ⟨_,_,Weak.nil 0 2 rfl Zb,rfl,rfl⟩
 ·refine Zf [] _ _ _ _ (X8 ?_);exact we
def WZ (x:Inst) (b:Rte) (S:Nat) (z:Col×Bool):AM.Obj:= .cells [.p (.list x.net.places_c (x.net.places.map eS)),.p (.list x.net.arcs_c (x.net.arcs.map Wj)),.p (.list x.types_c (x.types.map Y5)),.p (.list x.orders_c (x.orders.map eOrd)),.p (.list x.apart_c (x.apart.map eP)),.p (.list x.before_c (x.before.map eP)),.p (.int .i64 b.typ),.p (.int .i64 b.start),.p (.list b.rests_c (b.rests.map eB)),.p (.list b.visits_c (b.visits.map ZS)),.p (.int .i64 S),.p (.bool z.2),.p (.int .i64 z.1.typ),.p (.int .i64 z.1.set),.p (.int .i64 z.1.price),.p (.int .i64 z.1.route.typ),.p (.int .i64 z.1.route.start),.p (.list z.1.route.rests_c (z.1.route.rests.map eB)),.p (.list z.1.route.visits_c (z.1.route.visits.map ZS))]
def ZpM (v:Vis):AM.Obj:= .cells [.p (.int .i64 v.order),.p (.bool v.drp)]
def UG (b:Rte) (l:List Vis):Bool:=b.visits_c&&decide (l.length=b.visits.length)
theorem rZ (x:Inst) (hx:InstOk x) (b:Rte) (S:Nat) (l:List Vis) (z:Col×Bool) (hl:l.length<=1048576) (hr:b.rests.length<=1048576) (hz:z.1.route.visits.length<=1048576) :
  ACalls Tryz.prog 192 [.ptr 0 0,.p (.list (UG b l) (l.map ZS))] [WZ x b S z] fun y H'=>y= .tup []/\H'= [WZ x b S (Yl (Qo x b S) (Wh x b S) UF z l)]:=by
 obtain ⟨R,hR⟩: ∃R,R=WZ x b S (Yl (Qo x b S) (Wh x b S) UF z l):=⟨_,rfl⟩;rw [<- hR]
 have hno:Qo x b S l=false->R=WZ x b S z:=fun h=>by simp_all [Yl]
 have hrt:FE b l=⟨b.typ,b.start,b.rests_c,b.rests,UG b l,l⟩:=rfl;have hpr:=L9 x (FE b l);obtain ⟨⟨zt,zs,zp,zr⟩,zf⟩:=z;refine Ze [] Tryz.func192 rfl zL ?_;simp (disch:=omega) only [Tryz.f192,WZ,go_sem,seval];refine Y0 (U0 ⟨b.typ,b.start,b.rests_c,b.rests,UG b l,l⟩ hl) (X8 ?_);refine gF ?_ ?_<;>intro h1<;>simp (disch:=omega) only [Sh.out h1,go_sem,seval,↓reduceIte]
 ·have e:=hno (by simp_all [Qo]);exact ⟨.tup [],[R],Weak.mk (by simp (disch:=omega) only [e,WZ,go_sem,seval]),rfl,rfl⟩
 ·refine cD ?_ ?_<;>intro h2<;>simp (disch:=omega) only [Sh.out h2,go_sem,seval]
  ·have e:=hno (by simp_all [Qo]);exact ⟨.tup [],[R],Weak.mk (by simp (disch:=omega) only [e,WZ,go_sem,seval]),rfl,rfl⟩
  ·refine Z6 (X8 ?_);refine QC (S5 x (FE b l) hx ⟨hl,hr⟩) (X8 ?_);refine cD ?_ ?_<;>intro h3<;>simp (disch:=omega) only [Sh.out h3,go_sem,seval]
   ·have e:=hno (by simp_all [Qo]);exact ⟨.tup [],[R],Weak.mk (by simp (disch:=omega) only [e,WZ,go_sem,seval]),rfl,rfl⟩
   ·have hok:Qo x b S l=true:=by
     simp_all [Qo]
    have hcol:(⟨b.typ,(S:Int),(Ao x (FE b l)).1,⟨b.typ,b.start,b.rests_c,b.rests,UG b l,l⟩⟩:Col)=Wh x b S l:=rfl;refine Xo [9,10] 11 mixed Zd Zd Zd Zb (X8 ?_);refine ZV 9 _ _ Zd (by refine X8 ?_;exact ⟨rfl,rfl⟩) ?_;refine X8 ?_;refine ZV 10 _ _ Zd (by refine X8 ?_;exact ⟨rfl,rfl⟩) (Yo ?_);refine X8 ?_
    cases zf with
    | false =>
     have e:R=WZ x b S (Wh x b S l,true):=by rw [hR,Yl,if_pos ⟨hok,.inl rfl⟩]
     refine Z6 (C6 ?_);exact ⟨.tup [],[R],Weak.mk (by simp (disch:=omega) only [e,WZ,Wh,FE,UG,go_sem,seval]),rfl,rfl⟩
    | true =>
     refine Z6 (Ks ?_);refine Zq (Nn (Wh x b S l) ⟨zt,zs,zp,zr⟩ hl hz) (X8 ?_)
     cases hb:UF (Wh x b S l) ⟨zt,zs,zp,zr⟩ with
     | true =>
      have e:R=WZ x b S (Wh x b S l,true):=by simp_all [Yl]
      refine X8 ?_;exact ⟨.tup [],[R],Weak.mk (by simp (disch:=omega) only [e,WZ,Wh,FE,UG,go_sem,seval]),rfl,rfl⟩
     | false =>
      have e:R=WZ x b S (⟨zt,zs,zp,zr⟩,true):=by simp_all [Yl]
      refine X8 ?_;exact ⟨.tup [],[R],Weak.mk (by simp (disch:=omega) only [e,WZ,go_sem,seval]),rfl,rfl⟩
theorem NS {x:Inst} {S:Nat} {l:List Vis} {v:Vis} (h:v∈C1 x S l):v∈YG x S l:=by
 obtain ⟨i,h1,h2,h3,h4,h5⟩:=QL.1 h
 grind [DD,QK,Ux]
theorem EW {x:Inst} {S:Nat} {l:List Vis} {v:Vis} (h:v∈YG x S l):(YG x S (l++ [v])).length+1<=(YG x S l).length:=by
 have e:YG x S (l++ [v])=(YG x S l).filter fun w=>decide (w≠v):=by
  simp_all [YG,Bool.and_comm]
 rw [e];exact List.length_filter_lt_length_iff_exists.2 ⟨v,h,Zb⟩
def OE (x:Inst) (b:Rte) (S f:Nat):Prop:= ∀(l:List Vis) (z:Col×Bool),(YG x S l).length<=f->b.visits.length<=l.length->l.length+(YG x S l).length<=1048576->z.1.route.visits.length<=1048576 ->
  ACalls Tryz.prog 193 [.ptr 0 0,.p (.list (UG b l) (l.map ZS))] [WZ x b S z] fun y H'=>y= .tup []/\H'= [WZ x b S ((Qj (C1 x S) f l).foldl (Yl (Qo x b S) (Wh x b S) UF) z)]
theorem MM {x:Inst} {b:Rte} {S N:Nat} : ∀(L:List (List Vis)) (z:Col×Bool),z.1.route.visits.length<=N->(∀m∈L,m.length<=N)->(L.foldl (Yl (Qo x b S) (Wh x b S) UF) z).1.route.visits.length<=N
 | [],z,h,_=>h
 | m::L,z,h,hL=>by
  rw [Qc];refine MM L _ ?_ fun q hq=>hL q (Yv _ hq);unfold Yl
  split
  ·exact hL m Zb
  ·exact h
theorem Eu {x:Inst} {S:Nat} : ∀(f:Nat) (l:List Vis),∀m∈Qj (C1 x S) f l,m.length<=l.length+(YG x S l).length
 | 0,l,m,hm=>by
  simp_all [Qj]
 | f+1,l,m,hm=>by
  rw [Qj] at hm
  split at hm
  ·grind
  ·obtain ⟨v,hv,hm⟩:=Uq.1 hm;have h1:=Eu f _ m hm;have h2:=EW (NS hv)
   grind
theorem Fc (x:Inst) (hx:InstOk x) (b:Rte) (S:Nat) (hS:S<9223372036854775808) (hbl:x.before.length<=1048576) (hr:b.rests.length<=1048576) (l:List Vis) (z:Col×Bool) (hnx:C1 x S l= []) (hl:l.length<=1048576) (hz:z.1.route.visits.length<=1048576) :
  ACalls Tryz.prog 193 [.ptr 0 0,.p (.list (UG b l) (l.map ZS))] [WZ x b S z] fun y H'=>y= .tup []/\H'= [WZ x b S (Yl (Qo x b S) (Wh x b S) UF z l)]:=by
 have hf:=WV hx
 have hn:x.orders.length<=60:=by have:=hf.len;omega
 have hsn:=GU x S l (UG b l) hS hl hn hbl (fun q hq=>by have:=(hf.val q hq);omega);rw [show nextU x S l x.orders.length= [] from hnx] at hsn;have ca:=rZ x hx b S l z hl hr hz;obtain ⟨R,hR⟩: ∃R,R=WZ x b S (Yl (Qo x b S) (Wh x b S) UF z l):=⟨_,rfl⟩;rw [<- hR] at ca ⊢;refine Ze [] Tryz.func193 rfl dM ?_;simp (disch:=omega) only [Tryz.f193,WZ,go_sem,seval];refine Z6 (X8 ?_);refine Zq (hsn) (X8 ?_);refine ca.useH (X8 ?_);exact ⟨.tup [],[R],Weak.refl _ _ _,rfl,rfl⟩
theorem qM (x:Inst) (hx:InstOk x) (b:Rte) (S:Nat) (hS:S<9223372036854775808) (hbl:x.before.length<=1048576) (hr:b.rests.length<=1048576):OE x b S 0:=by
 intro l z h1 h2 h3 h4;simp only [Qj,Qc,Qh];refine Fc x hx b S hS hbl hr l z ?_ Za h4;refine List.eq_nil_iff_forall_not_mem.2 fun v hv=> ?_;have:=List.length_pos_of_mem (NS hv);omega
theorem ZfW {P Q:Prop} (h:Q) (e:Q->P:=by intro h;simp (disch:=omega) only [Xu,ZF,go_sem,seval];exact h):P:=e h
theorem qN (x:Inst) (hx:InstOk x) (b:Rte) (S f:Nat) (hS:S<9223372036854775808) (hbl:x.before.length<=1048576) (hr:b.rests.length<=1048576) (ih:OE x b S f):OE x b S (f+1):=by
 intro l z g1 g2 g3 g4
 by_cases hnx:C1 x S l= []
 ·rw [show Qj (C1 x S) (f+1) l= [l] by rw [Qj,if_pos hnx]]
  grind [Fc]
 ·rw [show Qj (C1 x S) (f+1) l=(C1 x S l).flatMap fun v=>Qj (C1 x S) f (l++ [v]) by rw [Qj,if_neg hnx]];have hf:=WV hx
  have hn:x.orders.length<=60:=by have:=hf.len;omega
  have hsn:=GU x S l (UG b l) hS Za hn hbl (fun q hq=>by have:=(hf.val q hq);omega);have hnl:=Cv x S l x.orders.length;have hnv:nextU x S l x.orders.length=C1 x S l:=rfl;rw [hnv] at hsn hnl;have hrs: ∀v∈C1 x S l,(YG x S (l++ [v])).length+1<=(YG x S l).length:=fun v hv=>EW (NS hv);generalize C1 x S l=nx at hnx hsn hnl hrs ⊢;obtain ⟨B,hB⟩: ∃B:Nat->Col×Bool,B=fun q=>((nx.take q).flatMap fun v=>Qj (C1 x S) f (l++ [v])).foldl (Yl (Qo x b S) (Wh x b S) UF) z:=⟨_,rfl⟩
  have hB0:B 0=z:=by rw [hB];rfl
  have hBn:(nx.flatMap fun v=>Qj (C1 x S) f (l++ [v])).foldl (Yl (Qo x b S) (Wh x b S) UF) z=B nx.length:=by rw [hB];simp
  have hBs: ∀q,q<nx.length->B (q+1)=(Qj (C1 x S) f (l++ [nth nx q])).foldl (Yl (Qo x b S) (Wh x b S) UF) (B q):=fun q hq=>by
   rw [hB];simp only;rw [Zx hq,List.flatMap_append,List.foldl_append,<- Zj hq];simp
  have hBl: ∀q,(B q).1.route.visits.length<=1048576:=fun q=>by
   rw [hB];refine MM _ _ g4 fun m hm=> ?_;obtain ⟨v,hv,hm⟩:=Uq.1 hm;have h1:=Eu _ _ m hm
   grind
  rw [hBn];clear hB hBn;have hne: ¬nx.length=0:=fun h=>hnx (Z1 h);obtain ⟨R,hR⟩: ∃R,R=WZ x b S (B nx.length):=⟨_,rfl⟩;rw [<- hR];refine Ze [] Tryz.func193 rfl dM ?_;simp (disch:=omega) only [Tryz.f193,WZ,go_sem,seval];refine Z6 (X8 ?_);refine Zq (hsn) (X8 ?_);refine cD ?_ ?_<;>intro h1<;>simp (disch:=omega) only [Sh.out h1,go_sem,seval]
  ·omega
  ·refine Zi [0,1,23,24] (fun q:Nat=> [(25,.p (.int .i64 q))]) (fun q=> [WZ x b S (B q)]) (fun q=>q<=nx.length) (fun q=>nx.length-q) 0 Zb (Weak.mk ?_) ?_
   ·simp (disch:=omega) only [WZ,hB0,go_sem,seval,↓reduceIte]
   ·intro q hq;simp (disch:=omega) only [WZ,go_sem,seval];refine cD ?_ ?_<;>intro h2<;>simp (disch:=omega) only [Sh.out h2,go_sem,seval,↓reduceIte]
    ·have hq2:q<nx.length:=Za
     have hBq:=hBs q hq2;have hmem:=ZN hq2;have hr1:=hrs _ hmem;have ihc:=ih (l++ [nth nx q]) (B q) Za (by simp;omega) (by simp;omega) (hBl q);rw [<- hBq,Xm,show UG b (l++ [nth nx q])=false by rw [UG,Xn (by simp;omega),Qe]] at ihc;refine Xo [2,4,5] 6 mixed Zd Zd Zd Zb ?_;refine X8 ?_;refine Gt 2 4 (.sl 2 0 l.length l.length) [.elems 2 (l.map ZS)] (.sl 2 0 1 1) [.elems 2 [ZS (nth nx q)]] Zd (by refine X8 ?_;refine (A5 l _ Za).useF ?_;exact ⟨rfl,rfl⟩) (by simp (disch:=omega) only [go_sem,seval,↓reduceIte]) ?_ ?_
     ·refine ZV 4 (.sl 3 0 1 1) [.elems 2 (l.map ZS),.elems 2 [ZS (nth nx q)]] Zd (by simp (disch:=omega) only [Xu,ZF,go_sem,seval,↓reduceIte]) ?_;refine ZV 5 (.sl 2 0 (l.length+1) (l.length+1)) [.elems 2 (l.map ZS++ [ZS (nth nx q)]),.elems 2 [ZS (nth nx q)]] Zd (by simp (disch:=omega) only [Xu,ZF,go_sem,seval,↓reduceIte]) (Yo (ZfW ?_));refine ACalls.weakA (Weak.fz (o:=2) (by rfl)) ?_;simp (disch:=omega) only [Zu,Zk,X7,Z9,eq_self,go_sem,seval]
      refine ihc.useP (L:= [_,_,_]) (by rfl) ?_ (by rfl) (by rfl);simp (disch:=omega) only [WZ,Xu,ZF,go_sem,seval];exact ⟨q+1,Za,Za,wk⟩
     ·refine ZV 2 (.sl 3 0 l.length l.length) [.elems 2 [ZS (nth nx q)],.elems 2 (l.map ZS)] Zd (by refine ZfW ?_;refine (A5 l _ Za).useF ?_;exact ⟨rfl,rfl⟩) ?_;refine ZV 5 (.sl 3 0 (l.length+1) (l.length+1)) [.elems 2 [ZS (nth nx q)],.elems 2 (l.map ZS++ [ZS (nth nx q)])] Zd (by simp (disch:=omega) only [Xu,ZF,go_sem,seval,↓reduceIte]) (Yo ?_);refine ZfW ?_;refine ACalls.weakA (Weak.fz (o:=3) (by rfl)) ?_;simp (disch:=omega) only [Zu,Zk,X7,Z9,eq_self,go_sem,seval]
      refine ihc.useP (L:= [_,_,_]) (by rfl) ?_ (by rfl) (by rfl);simp (disch:=omega) only [WZ,Xu,ZF,go_sem,seval];exact ⟨q+1,Za,Za,wk⟩
    ·have hql:q=nx.length:=Za
     subst hql;exact ⟨.tup [],[R],Weak.mk (by simp (disch:=omega) only [hR,WZ,go_sem,seval]),rfl,rfl⟩
theorem P5 (x:Inst) (hx:InstOk x) (b:Rte) (S:Nat) (hS:S<9223372036854775808) (hbl:x.before.length<=1048576) (hr:b.rests.length<=1048576): ∀f,OE x b S f
 | 0=>qM x hx b S hS hbl hr
 | f+1=>qN x hx b S f hS hbl hr (P5 x hx b S hS hbl hr f)
theorem Nw (x:Inst) (S:Nat) (hn:x.orders.length<=60) (h0:0<S) (hS:S<9223372036854775808):PC 190 [.p (Zv x),.p (.int .i64 S)] (.bool (decide (S / pw x.orders.length=0))):=by
 refine Zc Tryz.func190 rfl zJ ?_;simp (disch:=omega) only [Tryz.f190,go_sem,seval];refine gT ?_ ?_<;>intro h1<;>simp (disch:=omega) only [Sh.out h1,go_sem,seval,↓reduceIte]
 ·refine X0 (fun q=>V.p (PV.bool q)) ?_
  grind
 ·omega
theorem NB (b:Rte) (hv:b.visits.length<=1048576) (hr:b.rests.length<=1048576):PC 191 [.p (Z0 b)] (.bool (RU b)):=by
 refine Zc Tryz.func191 rfl zK ?_;simp (disch:=omega) only [Tryz.f191,go_sem,seval];refine X0 (fun q=>V.p (PV.bool q)) ?_
 simp_all [RU]
def Jb (x:Inst) (b:Rte) (S:Nat):Col×Int:=if (UI x b S).2=true then ((UI x b S).1,0) else (VB,24)
theorem Oh {x:Inst} {S:Nat} {l:List Vis} :(YG x S l).length<=Qq x S:=by
 have:=List.length_filter_le (fun v=>decide (v ∉ l)) (Qs x S x.orders.length);rw [VI] at this;exact this
theorem Ry (x:Inst) (hx:InstOk x) (b:Rte) (S:Nat) (hk:0<=b.typ/\b.typ<x.types.length) (hv:b.visits.length<=1000000) (hr:b.rests.length<=1000000) (hbl:x.before.length<=1048576) (hS0:0<S) (hS1:S<2^x.orders.length) :
  PT 147 [.p (Zv x),.p (Z0 b),.p (.int .i64 S)] [.p (Xz (Jb x b S).1),.p (.int .i64 (Jb x b S).2)]:=by
 have hf:=WV hx;have hn:=Ke hx;have ht:=FN hx;have hp2:2^x.orders.length<=2^10:=XZ Za hn;have hdiv:S / pw x.orders.length=0:=Bu hS1
 have htot:Qq x S<=20:=by grind [JE,Qq]
 have hrl:=Oh (x:=x) (S:=S) (l:=b.visits);have cw:=P5 x hx b S Za hbl Za (Qq x S) b.visits (VB,false) hrl (ZM _) Za (by simp [VB]);have ca:=rZ x hx b S b.visits (VB,false) Za Za (by simp [VB]);rw [show UG b b.visits=b.visits_c by simp [UG]] at cw ca;obtain ⟨Z,hZ⟩: ∃Z,Z=Jb x b S:=⟨_,rfl⟩
 have hZ2: ∀B,UI x b S=B->Z=if B.2=true then (B.1,0) else (VB,24):=fun B h=>by rw [hZ,Jb,h]
 rw [<- hZ];refine Ze [] Tryz.func147 rfl yF ?_;simp (disch:=omega) only [Tryz.f147,go_sem,seval];refine gF ?_ ?_<;>intro h1<;>simp (disch:=omega) only [Sh.out h1,go_sem,seval,↓reduceIte]
 ·omega
 ·refine gF ?_ ?_<;>intro h2<;>simp (disch:=omega) only [Sh.out h2,go_sem,seval,↓reduceIte]
  ·omega
  ·refine (Nw x S Za hS0 Za).use (X8 ?_);simp (disch:=omega) only [hdiv,eq_self,W8,go_sem,seval];refine Y0 (U0 b Za) (X8 ?_)
   have none:UI x b S=(VB,false)->Z=(VB,24):=fun h=>by grind
   refine gF ?_ ?_<;>intro h3<;>simp (disch:=omega) only [Sh.out h3,go_sem,seval,↓reduceIte]
   ·have e:=none (OZ (.inl h3) hf);exact ⟨.tup [.p (Xz Z.1),.p (.int .i64 Z.2)],[],Weak.mk (by simp (disch:=omega) only [e,VB,Zk,go_sem,seval]),rfl,rfl⟩
   ·have h3':(ordR b.visits).2=0:=Xl.1 h3
    have YB:b.visits.all CX=true:=by
     grind [ordR]
    have ho:(ordR b.visits).1=((ordS b.visits:Nat):Int):=by rw [ordR,if_pos YB]
    have hlt:=UW b.visits.length (l:=b.visits) (ZM _) (fun v hv=>Zw.1 YB v (by grind));rw [Yu] at hlt;simp (disch:=omega) only [ho,go_sem,seval];refine cD ?_ ?_<;>intro h4<;>simp (disch:=omega) only [go_sem,seval,↓reduceIte]
    ·have h4':((bK (ordS b.visits) S:Nat):Int)≠0:=by
      rw [<- O6 hlt (show S<9223372036854775808 by omega)];exact h4
     have e:=none (OZ (.inr (bL Za)) hf);exact ⟨.tup [.p (Xz Z.1),.p (.int .i64 Z.2)],[],Weak.mk (by simp (disch:=omega) only [e,VB,Zk,go_sem,seval]),rfl,rfl⟩
    ·refine (NB b Za Za).use (X8 ?_)
     cases hfin:RU b with
     | true =>
      have hk:UI x b S=Yl (Qo x b S) (Wh x b S) UF (VB,false) b.visits:=by simp_all [UI,La]
      have hZ3:=hZ2 _ hk;generalize Yl (Qo x b S) (Wh x b S) UF (VB,false) b.visits=B at ca hZ3;refine X8 ?_;refine ACalls.mono (ca.back [Zg x,ZK b,HA] (by rfl)) ?_;rintro y H' ⟨y1,H1,⟨rfl,rfl⟩,rfl,rfl⟩;simp (disch:=omega) only [AM.shV,AM.shVs,AM.shO,Zg,ZK,HA,RF,VB,WZ,Zu,Zk,Xu,ZF,go_sem,seval];obtain ⟨C,f⟩:=B
      cases f with
      | false =>
       rw [if_neg Zb] at hZ3;refine C6 ?_;exact ⟨.tup [.p (Xz Z.1),.p (.int .i64 Z.2)],[],Weak.mk (by simp (disch:=omega) only [hZ3,VB,Zk,go_sem,seval]),rfl,rfl⟩
      | true =>
       rw [if_pos rfl] at hZ3;refine Ks ?_;exact ⟨.tup [.p (Xz Z.1),.p (.int .i64 Z.2)],[],Weak.mk (by simp (disch:=omega) only [hZ3,go_sem,seval]),rfl,rfl⟩
     | false =>
      have hk:UI x b S=(Qj (C1 x S) (Qq x S) b.visits).foldl (Yl (Qo x b S) (Wh x b S) UF) (VB,false):=by simp_all [UI,La]
      have hZ3:=hZ2 _ hk;generalize (Qj (C1 x S) (Qq x S) b.visits).foldl (Yl (Qo x b S) (Wh x b S) UF) (VB,false)=B at cw hZ3;refine X8 ?_;refine ACalls.mono (cw.back [Zg x,ZK b,HA] (by rfl)) ?_;rintro y H' ⟨y1,H1,⟨rfl,rfl⟩,rfl,rfl⟩;simp (disch:=omega) only [AM.shV,AM.shVs,AM.shO,Zg,ZK,HA,RF,VB,WZ,Zu,Zk,Xu,ZF,go_sem,seval];obtain ⟨C,f⟩:=B
      cases f with
      | false =>
       rw [if_neg Zb] at hZ3;refine C6 ?_;exact ⟨.tup [.p (Xz Z.1),.p (.int .i64 Z.2)],[],Weak.mk (by simp (disch:=omega) only [hZ3,VB,Zk,go_sem,seval]),rfl,rfl⟩
      | true =>
       rw [if_pos rfl] at hZ3;refine Ks ?_;exact ⟨.tup [.p (Xz Z.1),.p (.int .i64 Z.2)],[],Weak.mk (by simp (disch:=omega) only [hZ3,go_sem,seval]),rfl,rfl⟩
theorem fP {x:Inst} {b:Rte} {S:Nat} :(Cy x b S).length<=1:=by grind [Cy]
theorem Be {x:Inst} {b:Rte} {need wout:Nat} (S:Nat):(JY x b need wout S).length<=1:=by
 grind [JY,fP]
theorem OI (x:Inst) (hx:InstOk x) (b:Rte) (need wout:Nat) (hk:0<=b.typ/\b.typ<x.types.length) (hv:b.visits.length<=1000000) (hr:b.rests.length<=1000000) (hbl:x.before.length<=1048576) (h1:need<9223372036854775808) (h2:wout<9223372036854775808) :
  PC 98 [.p (Zv x),.p (Z0 b),.p (.int .i64 need),.p (.int .i64 wout)] (.list false ((At x b need wout).map Xz)):=by
 have hn:=Ke hx;have ht:=FN hx;have hp:pw x.orders.length=2^x.orders.length:=rfl;have hp1:1<=2^x.orders.length:=Nat.one_le_two_pow;have hp2:2^x.orders.length<=2^10:=XZ Za hn;obtain ⟨N,hN⟩: ∃N,N=2^x.orders.length-1:=⟨_,rfl⟩
 have hcf:At x b need wout=JO (JY x b need wout) N:=by rw [hN];rfl
 rw [hcf];obtain ⟨W,hW⟩: ∃W:Nat->List Col,W=fun q=>JO (JY x b need wout) (q-1):=⟨_,rfl⟩
 have hW1:W 1= []:=by rw [hW];rfl
 have hWn:JO (JY x b need wout) N=W (N+1):=by rw [hW];rfl
 have hWl: ∀q,(W q).length<=q:=fun q=>by
  grind [Kl,Be]
 have hWs: ∀q,1<=q->W (q+1)=W q++JY x b need wout q:=fun q h=>by
  obtain ⟨p,rfl⟩: ∃p,q=p+1:=⟨q-1,Za⟩;rw [hW];rfl
 rw [hWn];clear hW hcf hWn;refine Ze [9] Tryz.func98 rfl Zh8 ?_;simp (disch:=omega) only [Tryz.f98,go_sem,seval];refine ZI [9] [2,3,4,5] (fun q:Nat=> [(9,.sl 2 0 (W q).length (W q).length),(10,.p (.int .i64 q))]) (fun q=> [Zg x,ZK b,.elems 7 ((W q).map Xz)]) (fun q=>1<=q/\q<=N+1) (fun q=>N+1-q) 1 Za (Weak.ofNil 9 7 (by simp (disch:=omega) only [go_sem,seval]) Zb (Weak.mk ?_)) ?_
 ·have e0:((1:Nat):Int)=1:=rfl;simp (disch:=omega) only [Zg,ZK,hW1,e0,Zk,ZH,go_sem,seval]
 ·rintro q ⟨hq0,hq⟩;have hql:=hWl q;have hqs:=hWs q hq0;refine E9 ?_;refine cD ?_ ?_<;>intro g1<;>simp (disch:=omega) only [Sh.out g1,go_sem,seval,↓reduceIte]
  ·have hq2:q<2^x.orders.length:=Za
   have hfc:JY x b need wout q=if JK need wout q=true then Cy x b q else []:=rfl;rw [hfc] at hqs;refine Go.AM.A6 ?_ ?_<;>intro g2
   ·have:JK need wout q=false:=by rw [JK,Xn Za,Vs]
    rw [this,if_neg Zb,Wc] at hqs;exact ⟨q+1,Za,Za,Weak.mk (by simp (disch:=omega) only [hqs,go_sem,seval])⟩
   ·refine ZB ?_ ?_<;>intro g3
    ·have:JK need wout q=false:=by simp_all [JK]
     rw [this,if_neg Zb,Wc] at hqs;exact ⟨q+1,Za,Za,Weak.mk (by simp (disch:=omega) only [hqs,go_sem,seval])⟩
    ·have:JK need wout q=true:=by rw [JK,XQ (p:=q&&&need=need) Za,XQ (p:=q&&&wout=0) Za];rfl
     rw [this,if_pos rfl] at hqs;refine Y0 (Ry x hx b q hk hv hr hbl Za hq2) ?_
     have ho:Cy x b q=if (Jb x b q).2=0 then [(Jb x b q).1] else []:=by
      unfold Cy Jb
      split
      ·simp
      ·simp
     rw [ho] at hqs;generalize Jb x b q=Z at hqs ⊢;refine X8 ?_;refine ZB ?_ ?_<;>intro g4
     ·rw [if_pos g4] at hqs;exact ⟨q+1,Za,Za,Weak.mk (by simp (disch:=omega) only [hqs,Xm,Zu,Zk,ZQ,Zs,ZH,XV,go_sem,seval])⟩
     ·rw [if_neg g4,Wc] at hqs;exact ⟨q+1,Za,Za,Weak.mk (by simp (disch:=omega) only [hqs,go_sem,seval])⟩
  ·have hqn:q=N+1:=Za
   subst hqn;refine Zp (Weak.fz (o:=2) (by rfl)) ?_;refine Zf [] _ _ _ _ ?_;simp (disch:=omega) only [Zu,Zk,X7,Z9,eq_self,go_sem,seval];exact ⟨.p (.list false ((W (N+1)).map Xz)),[],wk,rfl,rfl⟩
theorem fY (a b:List Vis):ordS (a++b)=ordS a|||ordS b:=AG fun i=>by
 rw [KZ,Up,Ur,WE,WE,WE]
 grind
theorem Ia {l:List Vis} (h: ∀v∈l,0<=v.order/\v.order<62):ordS l<4611686018427387904:=by
 refine Dt (n:=62) _ fun i hi=> ?_
 grind [WE]
theorem Cg {l:List Rte} {k:Nat} (hk:k<l.length):ZY (l.take (k+1))=ZY (l.take k)|||ordS (nth l k).visits:=by
 grind [ZY,Zx,fY,Zj]
theorem Nl (l:List Rte) (c:Bool) (hl:l.length<=1048576) (hv: ∀r∈l,r.visits.length<=1048576/\ ∀v∈r.visits,0<=v.order/\v.order<62) :
  PC 96 [.p (.list c (l.map Z0))] (.int .i64 (ZY l:Nat)):=by
 refine Zc Tryz.func96 rfl Zh6 ?_;simp (disch:=omega) only [Tryz.f96,go_sem,seval];refine Zi [8,9] (fun k:Nat=> [(3,.p (.int .i64 (ZY (l.take k):Nat))),(10,.p (.int .i64 k))]) (fun _=> []) (fun k=>k<=l.length) (fun k=>l.length-k) 0 Zb (Weak.mk ?_) ?_
 ·simp (disch:=omega) only [Wx,ZY,List.flatMap_nil,ordS,Qh,go_sem,seval]
 ·intro k hk
  have hbk:ZY (l.take k)<4611686018427387904:=Ia fun v h=>by
   grind
  refine X8 ?_;refine cD ?_ ?_<;>intro h<;>simp (disch:=omega) only [Sh.out h,go_sem,seval,↓reduceIte]
  ·have hk2:k<l.length:=Za
   obtain ⟨v1,v2⟩:=hv _ (Zn hk2);have hs:=Cg hk2;refine Zi [8,9,10,15,16] (fun q:Nat=> [(3,.p (.int .i64 (ZY (l.take k)|||ordS ((nth l k).visits.take q):Nat))),(17,.p (.int .i64 q))]) (fun _=> [ZK (nth l k)]) (fun q=>q<=(nth l k).visits.length) (fun q=>(nth l k).visits.length-q) 0 Zb (Weak.mk ?_) ?_
   ·have e0:ZY (l.take k)|||ordS []=ZY (l.take k):=by rw [show ordS []=0 from rfl,Nat.or_zero]
    simp (disch:=omega) only [e0,ZK,go_sem,seval]
   ·intro q hq;have hq1:ordS ((nth l k).visits.take q)<4611686018427387904:=Ia fun v h=>v2 v (J4 h);have hq3:ZY (l.take k)|||ordS ((nth l k).visits.take q)<4611686018427387904:=J5 (n:=62) hbk hq1;refine Zip ?_;refine ZB ?_ ?_<;>intro h2
    ·have hq2:q<(nth l k).visits.length:=Za
     have hvq:=v2 _ (Zn hq2);have ht:=K8 hq2;have hpo:pw (nth (nth l k).visits q).order.toNat<=pw 61:=QN Za;have h61:pw 61=2305843009213693952:=rfl;refine Jd ?_ ?_<;>intro h3
     ·refine ZB ?_ ?_<;>intro h4
      ·exact ⟨q+1,Za,Za,Weak.mk (by simp (disch:=omega) only [ht,Nat.or_assoc,go_sem,seval])⟩
      ·omega
     ·omega
    ·have hql:q=(nth l k).visits.length:=Za
     subst hql;rw [Yu,<- hs];exact ⟨k+1,Za,Za,wk⟩
  grind
theorem Ow (l:List Ord) (c:Bool) (i:Nat) (hi:i<l.length) (hl:l.length<=1048576):PC 257 [.p (.list c (l.map eOrd)),.p (.int .i64 (i:Nat))] (.list false ((ZZ l i).map ZS)):=by
 suffices hh:ACalls Tryz.prog 257 [.p (.list c (l.map eOrd)),.p (.int .i64 (i:Nat))] [] fun y H'=> ∃m:List Vis,m=ZZ l i/\y= .sl 0 0 m.length m.length/\H'= [.elems 2 (m.map ZS)] by
  refine ACalls.frozen (S:=2) (n:=(ZZ l i).length) Zb (hh.mono ?_);simp
 refine Z2 [4] Tryz.func257 rfl Zaw ?_;simp (disch:=omega) only [Tryz.f257,go_sem,seval];refine (Cp (i:Int) 0 ((l.length:Int)-1)).use (X8 ?_)
 have hr:rng (i:Int) 0 ((l.length:Int)-1)=true:=by simp only [rng,Zr];omega
 simp (disch:=omega) only [hr,X1,go_sem,seval];refine Zp (Weak.ofNil 5 2 (by simp (disch:=omega) only [go_sem,seval]) Zb (Weak.refl _ _ _)) ?_;refine ZD [0,1] (fun m:List Vis=> [(5,.sl 0 0 m.length m.length)]) (fun m=> [.elems 2 (m.map ZS)]) (fun m=>m=(if 0<=(nth l i).pick.place then [⟨i,false⟩] else [])) ?_ ?_
 ·refine X8 ?_;refine cD ?_ ?_<;>intro h<;>simp (disch:=omega) only [Sh.out h,go_sem,seval,↓reduceIte]
  ·exact ⟨[⟨i,false⟩],rfl,wk⟩
  ·exact ⟨[],rfl,wk⟩
 ·intro m hm
  have hml:m.length<=1:=by grind
  refine Zf [] _ _ _ _ (X8 ?_);refine cD ?_ ?_<;>intro h<;>simp (disch:=omega) only [Sh.out h,go_sem,seval,↓reduceIte]
  ·exact ⟨m++ [⟨i,true⟩],by simp_all [ZZ],0,by simp (disch:=omega) only [go_sem,seval]⟩
  ·exact ⟨m,by simp_all [ZZ],0,by simp (disch:=omega) only [go_sem,seval]⟩
theorem Pe (S i:Nat) (hS:S<9223372036854775808) (hi:i<=62):PC 160 [.p (.int .i64 S),.p (.int .i64 i)] (.bool (S.testBit i)):=by
 refine Zc Tryz.func160 rfl yQ ?_;simp (disch:=omega) only [Tryz.f160,go_sem,seval];refine Zi [1] (fun k:Nat=> [(0,.p (.int .i64 (hv S k:Nat))),(5,.p (.int .i64 k))]) (fun _=> []) (fun k=>k<=i) (fun k=>i-k) 0 Zb (Weak.mk ?_) ?_
 ·simp (disch:=omega) only [Pi,go_sem,seval]
 ·intro k hk;have h1:=sY S k;have e1:=Ph S k;refine X8 ?_;refine ZB ?_ ?_<;>intro h2
  ·have e2:((hv S (k+1):Nat):Int)=((hv S k:Nat):Int) / 2:=Za
   exact ⟨k+1,Za,Za,Weak.mk (by simp (disch:=omega) only [e2,go_sem,seval])⟩
  ·have hkn:k=i:=Za
   subst hkn;rw [NH];refine X0 (fun q=>V.p (PV.bool q)) ?_
   grind
theorem fL (l:List Vis) (c:Bool) (v:Vis) (hl:l.length<=1048576):PC 213 [.p (.list c (l.map ZS)),.p (ZS v)] (.bool (decide (v∈l))):=by
 refine Zc Tryz.func213 rfl zT ?_;simp (disch:=omega) only [Tryz.f213,go_sem,seval];refine Zi [0,3] (fun k:Nat=> [(5,.p (.int .i64 k))]) (fun _=> [.cells [.p (.int .i64 v.order),.p (.bool v.drp)]]) (fun k=>k<=l.length/\ ∀j,j<k->nth l j≠v) (fun k=>l.length-k) 0 Zb (Weak.mk ?_) ?_
 ·simp (disch:=omega) only [go_sem,seval,↓reduceIte]
 ·rintro k ⟨hk,hno⟩;refine X8 ?_;refine cD ?_ ?_<;>intro h<;>simp (disch:=omega) only [Sh.out h,go_sem,seval,↓reduceIte]
  ·have hk2:k<l.length:=Za
   refine Z6 (X8 ?_);refine cD ?_ ?_<;>intro h2<;>simp (disch:=omega) only [Sh.out h2,go_sem,seval,↓reduceIte]
   ·grind [AR,ZN]
   ·exact ⟨k+1,⟨Za,Zm.2 ⟨hno,fun e=>by grind⟩⟩,Za,wk⟩
  grind [Z4,Zj]
theorem Rj {x:Inst} {S i:Nat} {l:List Vis} :(Qs x S (i+1)).filter (fun v=>decide (v ∉ l))=(Qs x S i).filter (fun v=>decide (v ∉ l))++if S.testBit i=true then (ZZ x.orders i).filter (fun v=>decide (v ∉ l)) else []:=by
 grind [Cd]
theorem Me (x:Inst) (S:Nat) (l:List Vis) (c:Bool) (hS:S<9223372036854775808) (hl:l.length<=1048576) (ho:x.orders.length<=60) :
  PC 211 [.p (Zv x),.p (.int .i64 S),.p (.list c (l.map ZS))] (.list false ((YG x S l).map ZS)):=by
 suffices hh:ACalls Tryz.prog 211 [.p (Zv x),.p (.int .i64 S),.p (.list c (l.map ZS))] [] fun y H'=> ∃m:List Vis,m=YG x S l/\y= .sl 0 0 m.length m.length/\H'= [.elems 2 (m.map ZS)] by
  refine ACalls.frozen (S:=2) (n:=(YG x S l).length) Zb (hh.mono ?_);simp
 refine Z2 [2] Tryz.func211 rfl zR ?_;simp (disch:=omega) only [Tryz.f211,go_sem,seval];refine Zp (Weak.ofNil 7 2 (by simp (disch:=omega) only [go_sem,seval]) Zb (Weak.refl _ _ _)) ?_;refine Zf [] _ _ _ _ (X8 ?_);refine Zi [1,2,3] (fun q:Nat×List Vis=> [(7,.sl 1 0 q.2.length q.2.length),(8,.p (.int .i64 q.1))]) (fun q=> [Zg x,.elems 2 (q.2.map ZS)]) (fun q=>q.1<=x.orders.length/\q.2=(Qs x S q.1).filter (fun v=>decide (v ∉ l))) (fun q=>x.orders.length-q.1) (0,[]) ⟨Zb,by simp [Qs]⟩ (Weak.mk ?_) ?_
 ·simp (disch:=omega) only [Zg,go_sem,seval]
 ·rintro ⟨i,m⟩ ⟨hi,hm⟩;simp only at hi hm
  have hml:m.length<=2*i:=by
   grind [JE,VI]
  have hsc:=Rj (x:=x) (S:=S) (i:=i) (l:=l);rw [<- hm] at hsc;refine Yi ?_;refine cD ?_ ?_<;>intro h<;>simp (disch:=omega) only [Sh.out h,go_sem,seval,↓reduceIte]
  ·have hi2:i<x.orders.length:=Za
   refine (Pe S i hS Za).use (X8 ?_)
   cases hb:S.testBit i with
   | false =>
    rw [hb,if_neg Zb,Wc] at hsc;refine C6 ?_;exact ⟨(i+1,m),⟨Za,hsc.symm⟩,Za,wk⟩
   | true =>
    rw [hb,if_pos rfl] at hsc;refine Ks ?_;refine (Ow x.orders x.orders_c i hi2 Za).use (X8 ?_);have hvl:=VQ x.orders i;generalize ZZ x.orders i=own at hsc hvl ⊢;refine Zi [1,2,3,8,9] (fun q:Nat×List Vis=> [(7,.sl 1 0 q.2.length q.2.length),(10,.p (.int .i64 q.1))]) (fun q=> [Zg x,.elems 2 (q.2.map ZS)]) (fun q=>q.1<=own.length/\q.2=m++(own.take q.1).filter (fun v=>decide (v ∉ l))) (fun q=>own.length-q.1) (0,m) ⟨Zb,Zb⟩ (Weak.mk ?_) ?_
    ·simp (disch:=omega) only [Zg,go_sem,seval]
    ·rintro ⟨j,m2⟩ ⟨hj,hm2⟩;simp only at hj hm2
     have hm2l:m2.length<=2*i+2:=by
      grind
     refine Yi ?_;refine ZB ?_ ?_<;>intro h6
     ·have hj2:j<own.length:=Za
      have htk:own.take (j+1)=own.take j++ [nth own j]:=by rw [Zx hj2,Zj hj2]
      refine (fL l c (nth own j) hl).use (X8 ?_);refine ZB ?_ ?_<;>intro h7
      rotate_left
      ·have h7:=Xl.1 h7;exact ⟨(j+1,m2),⟨Za,by grind⟩,Za,wk⟩
      ·exact ⟨(j+1,m2++ [nth own j]),⟨Za,by grind⟩,Za,wk⟩
     ·have hjl:j=own.length:=Za
      subst hjl;rw [Yu] at hm2;exact ⟨(i+1,m2),⟨Za,by rw [hm2,hsc]⟩,Za,wk⟩
  ·have hkn:i=x.orders.length:=Za
   subst hkn;exact ⟨m,hm,1,by simp (disch:=omega) only [go_sem,seval]⟩
def QZ (x:Inst) (p:Pln) (P:Nat->Bool):List Ord:=WH (fun j=>if P j=true then { FO x p j with penalty:= -1 } else FO x p j) x.orders.length
section
variable {x : Inst} {p : Pln} {P Q : Nat -> Bool} {v : Nat}
theorem Dm : (QZ x p P).length=x.orders.length:=Wf
theorem aN : QZ x p (fun _=>false)=WH (FO x p) x.orders.length:=Ab fun j _=>Zb
theorem Ja (h: ∀j,j<x.orders.length->P j=Q j):QZ x p P=QZ x p Q:=Ab fun j hj=>by rw [h j hj]
theorem OY (hv:v<x.orders.length):(QZ x p P).set v { nth (QZ x p P) v with penalty:= -1 } =QZ x p (fun j=>P j||decide (j=v)):=by
 have e:({ nth (QZ x p P) v with penalty:= -1 } :Ord)= { FO x p v with penalty:= -1 } :=by
  grind [QZ,Km]
 rw [e,QZ,Mh];refine Ab fun j _=> ?_
 grind
end
def lR (x:Inst) (p:Pln) (S:Nat):V:= .tup [.p (Zv (if Ys x p=0 then JT x p S else zeroI)),.p (.int .i64 (Ys x p))]
theorem FY (x:Inst) (p:Pln) (l:List Rte) (c:Bool) (ho:x.orders.length<=4) (ht:x.types.length<=1048576) (hr:p.routes.length<=1048576) (hv: ∀r∈p.routes,r.visits.length<=1048576)
  (hl:l.length<=1048576) (hb: ∀r∈l,r.visits.length<=1048576/\ordR r.visits=(((ordS r.visits:Nat):Int),0)/\ ∀v∈r.visits,0<=v.order/\v.order<62) :
  ACalls Tryz.prog 22 [.p (Zv x),.p (Wk p),.p (.list c (l.map Z0))] [] fun y H'=>y=lR x p (ZY l)/\H'= []:=by
 have ck:=eQ x p ho ht hr hv;have zI:Zv zeroI= .agg [.list true [],.list true [],.list true [],.list true [],.list true [],.list true []]:=rfl;obtain ⟨T,hT⟩: ∃T,T=lR x p (ZY l):=⟨_,rfl⟩;rw [<- hT];unfold lR at hT;unfold kF at ck;refine Ze [18] Tryz.func22 rfl Zhn ?_;simp (disch:=omega) only [Tryz.f22,go_sem,seval]
 by_cases h0:Ys x p=0
 ·rw [if_pos h0,h0] at ck;rw [if_pos h0,h0] at hT;have hwl:(WH (FO x p) x.orders.length).length=x.orders.length:=Wf;refine Y0 ck ?_;simp (disch:=omega) only [qQ,go_sem,seval];refine (As (WH (FO x p) x.orders.length) false Za).useF (X8 ?_);refine ZI [18] [6,8,30,31] (fun k:Nat=> [(32,.p (.int .i64 k))]) (fun k=> [Zg x,Xe p,.cells (List.replicate 6 (.p (.list true []))),.cells (Df x 4 x.orders.length),.elems 16 ((QZ x p (fun j=>(ZY (l.take k)).testBit j)).map eOrd)]) (fun k=>k<=l.length) (fun k=>l.length-k) 0 Zb (Weak.mk ?_) ?_
  ·have e0:QZ x p (fun j=>(ZY ([]:List Rte)).testBit j)=WH (FO x p) x.orders.length:=(Ja fun j _=>by simp [ZY,ordS]).trans aN;simp (disch:=omega) only [Df,Zg,Xe,List.replicate,hwl,Wx,e0,go_sem,seval]
  ·intro k hk;have hrl:(QZ x p (fun j=>(ZY (l.take k)).testBit j)).length=x.orders.length:=Dm;simp (disch:=omega) only [Df,Zg,Xe,List.replicate,go_sem,seval];refine cD ?_ ?_<;>intro h<;>simp (disch:=omega) only [Sh.out h,go_sem,seval,↓reduceIte]
   ·have hk2:k<l.length:=Za
    obtain ⟨v1,v2,v3⟩:=hb _ (Zn hk2);have hs:=Cg hk2;have co:=U0 (nth l k) v1;rw [v2] at co;refine Y0 co (X8 ?_);refine ((Gz ((ordS (nth l k).visits:Nat):Int)).frozen Zb).use (X8 ?_)
    generalize hS:ordS (nth l k).visits=S at *
    generalize hB:ZY (l.take k)=B at *
    refine Zi [6,8,30,31,32,46,47] (fun m:Nat=> [(48,.p (.int .i64 m))]) (fun m=> [Zg x,Xe p,.cells (List.replicate 6 (.p (.list true []))),.cells (Df x 4 x.orders.length),.elems 16 ((QZ x p (fun j=>B.testBit j||decide ((j:Int)∈(XO (S:Int) 63).take m))).map eOrd),ZK (nth l k)]) (fun m=>m<=(XO (S:Int) 63).length) (fun m=>(XO (S:Int) 63).length-m) 0 Zb (Weak.mk ?_) ?_
    ·simp (disch:=omega) only [Df,Zg,Xe,List.replicate,ZK,Wx,Jp,UQ,Bool.or_false,go_sem,seval]
    ·intro m hm;have hrl2:(QZ x p (fun j=>B.testBit j||decide ((j:Int)∈(XO (S:Int) 63).take m))).length=x.orders.length:=Dm;have hml:=Ex (S:Int) 63;simp (disch:=omega) only [Df,Zg,Xe,List.replicate,ZK,go_sem,seval];refine ZB ?_ ?_<;>intro h2
     ·have hm2:m<(XO (S:Int) 63).length:=Za
      obtain ⟨i,hvi,hi63,hbit⟩:=LU.1 (ZN hm2)
      have htk:(XO (S:Int) 63).take (m+1)=(XO (S:Int) 63).take m++ [(i:Int)]:=by grind [Zx,Zj]
      have hse: ∀j:Nat,j<x.orders.length->(B.testBit j||decide ((j:Int)∈(XO (S:Int) 63).take (m+1)))=((B.testBit j||decide ((j:Int)∈(XO (S:Int) 63).take m))||decide (j=i)):=fun j _=>by
       grind
      simp (disch:=omega) only [hrl2,eq_self,hvi,go_sem,seval]
      by_cases h3:i<x.orders.length
      ·have hset:=OY (x:=x) (p:=p) (P:=fun j=>B.testBit j||decide ((j:Int)∈(XO (S:Int) 63).take m)) h3;rw [<- Ja hse] at hset;have hel:U6 ((QZ x p (fun j=>B.testBit j||decide ((j:Int)∈(XO (S:Int) 63).take m))).map eOrd) i=eOrd (nth (QZ x p (fun j=>B.testBit j||decide ((j:Int)∈(XO (S:Int) 63).take m))) i):=WK Za
       have hxl:((QZ x p (fun j=>B.testBit j||decide ((j:Int)∈(XO (S:Int) 63).take m))).map eOrd).length=x.orders.length:=by simp_all
       have hstp:=X0 (List.map eOrd) hset;rw [W6] at hstp;simp only [Dn] at hstp;refine ZB ?_ ?_<;>intro h4
       ·simp (disch:=omega) only [hrl2,eq_self,W8,go_sem,seval];exact ⟨m+1,Za,Za,Weak.mk (by simp (disch:=omega) only [hstp,go_sem,seval])⟩
       ·omega
      ·have hset:QZ x p (fun j=>B.testBit j||decide ((j:Int)∈(XO (S:Int) 63).take (m+1)))=QZ x p (fun j=>B.testBit j||decide ((j:Int)∈(XO (S:Int) 63).take m)):=Ja fun j hj=>by
        rw [hse j hj,Xn (show ¬j=i by omega),Bool.or_false]
       refine ZB ?_ ?_<;>intro h4
       ·omega
       ·exact ⟨m+1,Za,Za,Weak.mk (by simp (disch:=omega) only [hset,go_sem,seval])⟩
     ·have hkl:m=(XO (S:Int) 63).length:=Za
      subst hkl
      have hend:QZ x p (fun j=>B.testBit j||decide ((j:Int)∈XO (S:Int) 63))=QZ x p (fun j=>(ZY (l.take (k+1))).testBit j):=Ja fun j hj=>by
       rw [hs,KZ];refine X0 _ ?_;rw [Up,Zr,LU];exact ⟨fun ⟨i,e,_,hi⟩=>by rw [show j=i by omega];exact hi,fun hi=>⟨j,rfl,Za,hi⟩⟩
      exact ⟨k+1,Za,Za,Weak.mk (by simp (disch:=omega) only [Yu,hend,go_sem,seval])⟩
   ·have hkl:k=l.length:=Za
    subst hkl;rw [Yu] at hrl ⊢;refine Zp (Weak.fz (o:=4) (by rfl)) ?_;refine Zf [] _ _ _ _ ?_;simp (disch:=omega) only [Zu,Zk,X7,Z9,Xp,hrl,eq_self,go_sem,seval];have hb2:WH (vM x p (ZY l)) x.orders.length=QZ x p (fun j=>(ZY l).testBit j):=rfl;exact ⟨T,[],Weak.mk (by simp (disch:=omega) only [hT,JT,hb2,go_sem,seval]),rfl,rfl⟩
 ·rw [if_neg h0,zI] at ck;rw [if_neg h0,zI] at hT;refine Y0 ck (X8 ?_);refine cD ?_ ?_<;>intro h2<;>simp (disch:=omega) only [Sh.out h2,go_sem,seval,↓reduceIte]
  ·exact ⟨T,[],Weak.mk (by simp (disch:=omega) only [hT,go_sem,seval]),rfl,rfl⟩
  ·omega
theorem aJ (S i:Nat):IntKind.i64.wrap ((BitVec.ofInt 64 ((S / pw i:Nat):Int)&&&1#64).toNat:Int)=if S.testBit i=true then 1 else 0:=by
 have h1:=ON ((S / pw i:Nat):Int);rw [show BitVec.ofInt 64 1=1#64 from rfl] at h1;rw [h1,Et];unfold pw
 grind
theorem FZ (x:Inst) (p:Pln) (l:List Rte) (c:Bool) (ho:x.orders.length<=4) (ht:x.types.length<=1048576) (hr:p.routes.length<=1048576) (hv: ∀r∈p.routes,r.visits.length<=1048576)
  (hl:l.length<=1048576) (hb: ∀r∈l,r.visits.length<=1048576/\ordR r.visits=(((ordS r.visits:Nat):Int),0)/\ ∀v∈r.visits,0<=v.order/\v.order<62) :
  ACalls Tryz.prog 23 [.p (Zv x),.p (Wk p),.p (.list c (l.map Z0))] [] fun y H'=>y=lR x p (ZY l)/\H'= []:=by
 have ck:=jN x p Za ht hr hv;have zI:Zv zeroI= .agg [.list true [],.list true [],.list true [],.list true [],.list true [],.list true []]:=rfl;obtain ⟨T,hT⟩: ∃T,T=lR x p (ZY l):=⟨_,rfl⟩;rw [<- hT];unfold lR at hT;unfold kF at ck;refine Ze [5,17] Tryz.func23 rfl Zho ?_;simp (disch:=omega) only [Tryz.f23,go_sem,seval]
 by_cases h0:Ys x p=0
 ·rw [if_pos h0,h0] at ck;rw [if_pos h0,h0] at hT;have hwl:(WH (FO x p) x.orders.length).length=x.orders.length:=Wf;refine Y0 ck ?_;simp (disch:=omega) only [qQ,go_sem,seval];refine Zp (Weak.ofNil 10 16 (by simp (disch:=omega) only [go_sem,seval]) Zb (Weak.refl _ _ _)) ?_;refine Zf [17] _ _ _ _ ?_;simp (disch:=omega) only [hwl,go_sem,seval];refine ZI [17] [2,6,8,10] (fun k:Nat=> [(11,.p (.int .i64 k))]) (fun k=> [Zg x,Xe p,.cells (List.replicate 6 (.p (.list true []))),.cells ([.p (.list x.net.places_c (x.net.places.map eS)),.p (.list x.net.arcs_c (x.net.arcs.map Wj)),.p (.list x.types_c (x.types.map Y5)),.p (.list false ((qQ x p).orders.map eOrd)),.p (.list x.apart_c (x.apart.map eP)),.p (.list x.before_c (x.before.map eP))]),.elems 16 ((QZ x p (fun j=>(ZY (l.take k)).testBit j)).map eOrd)]) (fun k=>k<=l.length) (fun k=>l.length-k) 0 Zb (Weak.mk ?_) ?_
  ·have e0:QZ x p (fun j=>(ZY ([]:List Rte)).testBit j)=WH (FO x p) x.orders.length:=(Ja fun j _=>by simp [ZY,ordS]).trans aN;simp (disch:=omega) only [Zg,Xe,qQ,List.replicate,Wx,e0,go_sem,seval]
  ·intro k hk;have hrl:(QZ x p (fun j=>(ZY (l.take k)).testBit j)).length=x.orders.length:=Dm;simp (disch:=omega) only [Zg,Xe,List.replicate,go_sem,seval];refine cD ?_ ?_<;>intro h<;>simp (disch:=omega) only [Sh.out h,go_sem,seval,↓reduceIte]
   ·have hk2:k<l.length:=Za
    obtain ⟨v1,v2,v3⟩:=hb _ (Zn hk2);have hs:=Cg hk2;have co:=Aa (nth l k) v1;rw [v2] at co;refine Y0 co (X8 ?_)
    generalize hS:ordS (nth l k).visits=S at *
    generalize hB:ZY (l.take k)=B at *
    refine Zi [2,6,8,10,11,12] (fun m:Nat=> [(14,.p (.int .i64 m))]) (fun m=> [Zg x,Xe p,.cells (List.replicate 6 (.p (.list true []))),.cells ([.p (.list x.net.places_c (x.net.places.map eS)),.p (.list x.net.arcs_c (x.net.arcs.map Wj)),.p (.list x.types_c (x.types.map Y5)),.p (.list false ((qQ x p).orders.map eOrd)),.p (.list x.apart_c (x.apart.map eP)),.p (.list x.before_c (x.before.map eP))]),.elems 16 ((QZ x p (fun j=>B.testBit j||(S.testBit j&&decide (j<m)))).map eOrd)]) (fun m=>m<=x.orders.length) (fun m=>x.orders.length-m) 0 Zb (Weak.mk ?_) ?_
    ·have e0:QZ x p (fun j=>B.testBit j||(S.testBit j&&decide (j<0)))=QZ x p (fun j=>B.testBit j):=Ja fun j _=>Zb
     simp (disch:=omega) only [Zg,Xe,List.replicate,e0,go_sem,seval]
    ·intro m hm;have hrl2:(QZ x p (fun j=>B.testBit j||(S.testBit j&&decide (j<m)))).length=x.orders.length:=Dm
     have hxl:((QZ x p (fun j=>B.testBit j||(S.testBit j&&decide (j<m)))).map eOrd).length=x.orders.length:=by grind
     simp (disch:=omega) only [Zg,Xe,List.replicate,go_sem,seval];simp (disch:=omega) only [hrl2,eq_self,go_sem,seval];refine ZB ?_ ?_<;>intro h2
     ·have hm2:m<x.orders.length:=Za
      have hbt:=aJ S m
      have hse: ∀j:Nat,j<x.orders.length->(B.testBit j||(S.testBit j&&decide (j<m+1)))=((B.testBit j||(S.testBit j&&decide (j<m)))||(S.testBit m&&decide (j=m))):=fun j _=>by
       rw [Bool.or_assoc];refine X0 _ ?_
       by_cases c:j=m
       ·subst c;simp
       ·rw [Xn (p:=j=m) c,Qe,Bool.or_false]
        grind
      erw [hbt]
      cases hbm:S.testBit m with
      | true =>
       rw [if_pos rfl];have hset:=OY (x:=x) (p:=p) (P:=fun j=>B.testBit j||(S.testBit j&&decide (j<m))) hm2
       have hq:QZ x p (fun j=>(B.testBit j||(S.testBit j&&decide (j<m)))||decide (j=m))=QZ x p (fun j=>B.testBit j||(S.testBit j&&decide (j<m+1))):=Ja fun j hj=>by simp_all
       rw [hq] at hset;have hel:U6 ((QZ x p (fun j=>B.testBit j||(S.testBit j&&decide (j<m)))).map eOrd) m=eOrd (nth (QZ x p (fun j=>B.testBit j||(S.testBit j&&decide (j<m)))) m):=WK Za;have hstp:=X0 (List.map eOrd) hset;rw [W6] at hstp;simp only [Dn] at hstp;refine ZB ?_ ?_<;>intro h4
       ·simp (disch:=omega) only [hrl2,eq_self,W8,go_sem,seval];exact ⟨m+1,Za,Za,Weak.mk (by simp (disch:=omega) only [hstp,go_sem,seval])⟩
       grind
      | false =>
       rw [if_neg Zb]
       have hset:QZ x p (fun j=>B.testBit j||(S.testBit j&&decide (j<m+1)))=QZ x p (fun j=>B.testBit j||(S.testBit j&&decide (j<m))):=Ja fun j hj=>by
        simp_all
       refine ZB ?_ ?_<;>intro h4
       ·omega
       ·exact ⟨m+1,Za,Za,Weak.mk (by simp (disch:=omega) only [hset,go_sem,seval])⟩
     ·have hkl:m=x.orders.length:=Za
      subst hkl
      have hend:QZ x p (fun j=>B.testBit j||(S.testBit j&&decide (j<x.orders.length)))=QZ x p (fun j=>(ZY (l.take (k+1))).testBit j):=Ja fun j hj=>by
       grind
      exact ⟨k+1,Za,Za,Weak.mk (by simp (disch:=omega) only [hend,go_sem,seval])⟩
   ·have hkl:k=l.length:=Za
    subst hkl;rw [Yu] at hrl ⊢;have hb2:WH (vM x p (ZY l)) x.orders.length=QZ x p (fun j=>(ZY l).testBit j):=rfl;refine Zp (Weak.fz (o:=4) (by rfl)) ?_;refine Zf [] _ _ _ _ ?_;simp (disch:=omega) only [Zu,Zk,X7,Z9,Xp,hrl,eq_self,go_sem,seval];exact ⟨T,[],Weak.mk (by simp (disch:=omega) only [hT,JT,hb2,go_sem,seval]),rfl,rfl⟩
 ·rw [if_neg h0,zI] at ck;rw [if_neg h0,zI] at hT;refine Y0 ck (X8 ?_);refine cD ?_ ?_<;>intro h2<;>simp (disch:=omega) only [Sh.out h2,go_sem,seval,↓reduceIte]
  ·exact ⟨T,[],Weak.mk (by simp (disch:=omega) only [hT,go_sem,seval]),rfl,rfl⟩
  ·omega
def Vf (x:Inst) (S:Nat) (z:Col×Bool):AM.Obj:= .cells [.p (.list x.net.places_c (x.net.places.map eS)),.p (.list x.net.arcs_c (x.net.arcs.map Wj)),.p (.list x.types_c (x.types.map Y5)),.p (.list x.orders_c (x.orders.map eOrd)),.p (.list x.apart_c (x.apart.map eP)),.p (.list x.before_c (x.before.map eP)),.p (.int .i64 S),.p (.bool z.2),.p (.int .i64 z.1.route.typ),.p (.int .i64 z.1.route.start),.p (.list z.1.route.rests_c (z.1.route.rests.map eB)),.p (.list z.1.route.visits_c (z.1.route.visits.map ZS)),.p (.int .i64 z.1.price)]
theorem oJ {x:Inst} (hf:IFacts x) {b:Rte} {S:Nat} {l:List Vis} (h:Qo x b S l=true):YG x S l= []:=by
 obtain ⟨hr,rfl⟩:=Cx hf h;exact DF.1 (GN hf hr).1
theorem Eb (x:Inst) (hx:InstOk x) (b:Rte) (S:Nat) (hS:S<9223372036854775808) (hr:b.rests.length<=1000000) (l:List Vis) (z:Col×Bool) (hl:l.length<=1000000) (hfin:YG x S l= []\/l.length<b.rests.length) :
  ACalls Tryz.prog 161 [.ptr 0 0,.p (Z0 (FE b l))] [Vf x S z] fun y H'=>y= .tup []/\H'= [Vf x S (Yl (Qo x b S) (Wh x b S) D5 z l)]:=by
 have hf:=WV hx
 have hn:x.orders.length<=60:=by have:=hf.len;omega
 obtain ⟨R,hR⟩: ∃R,R=Vf x S (Yl (Qo x b S) (Wh x b S) D5 z l):=⟨_,rfl⟩;rw [<- hR]
 have hno:Qo x b S l=false->R=Vf x S z:=fun h=>by simp_all [Yl]
 have hrt:FE b l=⟨b.typ,b.start,b.rests_c,b.rests,UG b l,l⟩:=rfl;have cr:=Me x S l (UG b l) hS Za hn;have hlf:Qo x b S l=true->YG x S l= []:=oJ hf;have cpr:=Mj x (FE b l) hx ⟨show l.length<=1048576 by omega,show b.rests.length<=1048576 by omega⟩;have hpr:=L9 x (FE b l)
 have hll:(YG x S l).length<=200:=by
  grind [JE,VI,YG]
 obtain ⟨⟨zt,zs,zp,zr⟩,zf⟩:=z;refine Ze [] Tryz.func161 rfl dK ?_;rw [hrt];simp (disch:=omega) only [Tryz.f161,Vf,go_sem,seval];refine Z6 (X8 ?_);refine Zq (cr) (X8 ?_);refine gF ?_ ?_<;>intro h0<;>simp (disch:=omega) only [Sh.out h0,go_sem,seval,↓reduceIte]
 rotate_left
 refine cD ?_ ?_<;>intro h9<;>simp (disch:=omega) only [Sh.out h9,go_sem,seval,↓reduceIte]
 rotate_left
 ·grind
 all_goals
  refine Y0 (Aa ⟨b.typ,b.start,b.rests_c,b.rests,UG b l,l⟩ (by simp only;omega)) ?_;simp (disch:=omega) only [go_sem,seval];refine gF ?_ ?_<;>intro h1<;>simp (disch:=omega) only [Sh.out h1,go_sem,seval,↓reduceIte]
  ·have e:=hno (by rw [Qo,Xn h1,Vs]);exact ⟨.tup [],[R],Weak.mk (by simp (disch:=omega) only [e,Vf,go_sem,seval]),rfl,rfl⟩
  ·refine gF ?_ ?_<;>intro h2<;>simp (disch:=omega) only [Sh.out h2,go_sem,seval,↓reduceIte]
   ·have e:=hno (by rw [Qo,Xn h2,Vs,Qe]);exact ⟨.tup [],[R],Weak.mk (by simp (disch:=omega) only [e,Vf,go_sem,seval]),rfl,rfl⟩
   ·refine cD ?_ ?_<;>intro h3<;>simp (disch:=omega) only [Sh.out h3,go_sem,seval]
    ·have e:=hno (by
      cases hk:Qo x b S l with
      | false=>rfl
      | true=>rw [hlf hk] at h3;simp at h3)
     exact ⟨.tup [],[R],Weak.mk (by simp (disch:=omega) only [e,Vf,go_sem,seval]),rfl,rfl⟩
    ·refine Z6 ?_;simp (disch:=omega) only [go_sem,seval,↓reduceIte];refine QC cpr ?_;simp (disch:=omega) only [go_sem,seval];refine gT ?_ ?_<;>intro h4<;>simp (disch:=omega) only [Sh.out h4,go_sem,seval,↓reduceIte]
     ·have hok:Qo x b S l=true:=by
       rw [Qo,XQ (Xl.1 h1),XQ (Xl.1 h2),XQ h4];rfl
      cases zf with
      | false =>
       have e:R=Vf x S (Wh x b S l,true):=by rw [hR,Yl,if_pos ⟨hok,.inl rfl⟩]
       simp (disch:=omega) only [Jt,go_sem,seval,↓reduceIte];exact ⟨.tup [],[R],Weak.mk (by simp (disch:=omega) only [e,Vf,Wh,FE,UG,go_sem,seval]),rfl,rfl⟩
      | true =>
       simp (disch:=omega) only [X1,go_sem,seval,↓reduceIte];refine cD ?_ ?_<;>intro h5<;>simp (disch:=omega) only [Sh.out h5,go_sem,seval,↓reduceIte]
       ·have e:R=Vf x S (Wh x b S l,true):=by rw [hR,Yl,if_pos ⟨hok,.inr (XQ h5)⟩]
        exact ⟨.tup [],[R],Weak.mk (by simp (disch:=omega) only [e,Vf,Wh,FE,UG,go_sem,seval]),rfl,rfl⟩
       ·have e:R=Vf x S (⟨zt,zs,zp,zr⟩,true):=by rw [hR,Yl,if_neg (fun h=>h.2.elim (fun g=>by cases g) fun g=>h5 (Jo g))]
        exact ⟨.tup [],[R],Weak.mk (by simp (disch:=omega) only [e,Vf,go_sem,seval]),rfl,rfl⟩
     ·have e:=hno (by rw [Qo,Xn h4,Qe,Qe]);exact ⟨.tup [],[R],Weak.mk (by simp (disch:=omega) only [e,Vf,go_sem,seval]),rfl,rfl⟩
def CU (L:List Vis) (v:Vis):Bool:= !(v.drp&&decide ((⟨v.order,false⟩:Vis)∈L))
theorem fH {x:Inst} {S:Nat} {l:List Vis} :Fz x S l=(YG x S l).filter (CU (YG x S l)):=rfl
def kI (x:Inst) (b:Rte) (S f:Nat):Prop:= ∀(l:List Vis) (z:Col×Bool),(YG x S l).length<=f->b.visits.length<=l.length->b.rests.length<=l.length->l.length+(YG x S l).length<=1000000 ->
  ACalls Tryz.prog 161 [.ptr 0 0,.p (Z0 (FE b l))] [Vf x S z] fun y H'=>y= .tup []/\H'= [Vf x S ((Qj (Fz x S) f l).foldl (Yl (Qo x b S) (Wh x b S) D5) z)]
theorem Zg2 (x:Inst) (hx:InstOk x) (b:Rte) (S:Nat) (hS:S<9223372036854775808) (hr:b.rests.length<=1000000):kI x b S 0:=by
 intro l z h1 h2 h3 h4
 grind [Qj,Eb]
theorem Zg3 (x:Inst) (hx:InstOk x) (b:Rte) (S f:Nat) (hS:S<9223372036854775808) (hr:b.rests.length<=1000000) (ih:kI x b S f):kI x b S (f+1):=by
 intro l z g1 g2 g3 g4
 by_cases hnx:Fz x S l= []
 ·rw [show Qj (Fz x S) (f+1) l= [l] by rw [Qj,if_pos hnx]]
  grind [Eb,DF]
 ·rw [show Qj (Fz x S) (f+1) l=(Fz x S l).flatMap fun v=>Qj (Fz x S) f (l++ [v]) by rw [Qj,if_neg hnx]];have hf:=WV hx
  have hn:x.orders.length<=60:=by have:=hf.len;omega
  have cr:=Me x S l (UG b l) hS Za hn
  have hll:(YG x S l).length<=200:=by
   grind [JE,VI,YG]
  have hne: ¬(YG x S l).length=0:=fun h=>hnx (DF.2 (Z1 h));have hrs: ∀v∈YG x S l,(YG x S (l++ [v])).length+1<=(YG x S l).length:=fun v hv=>EW hv;have hrt:FE b l=⟨b.typ,b.start,b.rests_c,b.rests,UG b l,l⟩:=rfl;rw [fH];generalize YG x S l=L at cr hll hne hrs g1 g4 ⊢;obtain ⟨B,hB⟩: ∃B:Nat->Col×Bool,B=fun q=>(((L.take q).filter (CU L)).flatMap fun v=>Qj (Fz x S) f (l++ [v])).foldl (Yl (Qo x b S) (Wh x b S) D5) z:=⟨_,rfl⟩
  have hB0:B 0=z:=by rw [hB];rfl
  have hBn:((L.filter (CU L)).flatMap fun v=>Qj (Fz x S) f (l++ [v])).foldl (Yl (Qo x b S) (Wh x b S) D5) z=B L.length:=by rw [hB];simp
  have hBs: ∀q,q<L.length->B (q+1)=if CU L (nth L q)=true then (Qj (Fz x S) f (l++ [nth L q])).foldl (Yl (Qo x b S) (Wh x b S) D5) (B q) else B q:=fun q hq=>by
   rw [hB];simp only;rw [Zx hq,List.filter_append,List.flatMap_append,List.foldl_append,<- Zj hq]
   by_cases hc:CU L (nth L q)=true
   ·simp_all
   grind
  rw [hBn];clear hB hBn;obtain ⟨R,hR⟩: ∃R,R=Vf x S (B L.length):=⟨_,rfl⟩;rw [<- hR];refine Ze [] Tryz.func161 rfl dK ?_;rw [hrt];simp (disch:=omega) only [Tryz.f161,Vf,go_sem,seval];refine Z6 (X8 ?_);refine Zq (cr) (X8 ?_);refine gF ?_ ?_<;>intro h0<;>simp (disch:=omega) only [Sh.out h0,go_sem,seval,↓reduceIte]
  ·omega
  ·refine cD ?_ ?_<;>intro h9<;>simp (disch:=omega) only [Sh.out h9,go_sem,seval,↓reduceIte]
   ·omega
   ·refine ZI [17] [0,3,4] (fun q:Nat=> [(8,.p (.int .i64 q))]) (fun q=> [Vf x S (B q),ZK ⟨b.typ,b.start,b.rests_c,b.rests,UG b l,l⟩]) (fun q=>q<=L.length) (fun q=>L.length-q) 0 Zb (Weak.mk ?_) ?_
    ·simp (disch:=omega) only [Vf,ZK,hB0,go_sem,seval,↓reduceIte]
    ·intro q hq;simp (disch:=omega) only [Vf,ZK,go_sem,seval];refine cD ?_ ?_<;>intro h2<;>simp (disch:=omega) only [Sh.out h2,go_sem,seval,↓reduceIte]
     ·have hq2:q<L.length:=Za
      have hBq:=hBs q hq2;have hmem:=ZN hq2;have hr1:=hrs _ hmem;have ihc:=ih (l++ [nth L q]) (B q) Za (by simp;omega) (by simp;omega) (by simp;omega);rw [show FE b (l++ [nth L q])=⟨b.typ,b.start,b.rests_c,b.rests,false,l++ [nth L q]⟩ by rw [FE,Xn (by simp;omega),Qe]] at ihc;rw [if_pos ⟨Za,Za⟩];refine X8 ?_;refine Xo [6] 7 mixed Zd Zd Zd Zb ?_;refine X8 ?_;refine ZV 6 _ _ Zd (by refine X8 ?_;exact ⟨rfl,rfl⟩) (Yo ?_);simp (disch:=omega) only [Xp,go_sem,seval]
      refine Zp (Weak.fz (o:=3) (by rfl)) ?_;refine Zf [] _ _ _ _ ?_;simp (disch:=omega) only [Zu,Zk,X7,Z9,ZQ,Xp,Zs,ZH,XV,eq_self,go_sem,seval];simp (disch:=omega) only [go_sem,seval] at ihc
      cases hd:(nth L q).drp with
      | false =>
       rw [if_pos (by rw [CU,hd];rfl)] at hBq;rw [<- hBq,hd] at ihc;refine X8 ?_;refine ihc.useP (L:= [_,_,_,_]) (by rfl) ?_ (by rfl) (by rfl);refine ZfW ?_;exact ⟨q+1,Za,Za,Weak.mk (by simp (disch:=omega) only [Vf,go_sem,seval])⟩
      | true =>
       refine X8 ?_;refine (fL L false ⟨(nth L q).order,false⟩ Za).use (X8 ?_);refine cD ?_ ?_<;>intro h5<;>simp (disch:=omega) only [Sh.out h5,go_sem,seval,↓reduceIte]
       ·rw [if_neg (by grind [CU])] at hBq;exact ⟨q+1,Za,Za,Weak.mk (by simp (disch:=omega) only [hBq,go_sem,seval])⟩
       ·rw [if_pos (by grind [CU])] at hBq;rw [<- hBq,hd] at ihc;refine ihc.useP (L:= [_,_,_,_]) (by rfl) ?_ (by rfl) (by rfl);refine ZfW ?_;exact ⟨q+1,Za,Za,Weak.mk (by simp (disch:=omega) only [Vf,go_sem,seval])⟩
     ·have hql:q=L.length:=Za
      subst hql;exact ⟨.tup [],[R],Weak.mk (by simp (disch:=omega) only [hR,Vf,go_sem,seval]),rfl,rfl⟩
theorem sS (x:Inst) (hx:InstOk x) (b:Rte) (S:Nat) (hS:S<9223372036854775808) (hr:b.rests.length<=1000000): ∀f,kI x b S f
 | 0=>Zg2 x hx b S hS hr
 | f+1=>Zg3 x hx b S f hS hr (sS x hx b S hS hr f)
abbrev Cm := { c:Col // ∃S:Nat,c.set=S/\0<S/\S<16 }
instance : Inhabited Cm := ⟨⟨⟨0, 1, 0, default⟩, 1, rfl, by decide, by decide⟩⟩
def lo (c:Col):Int:=Ag c.set.toNat
def mB (a b:Col):Int:=oO [Vn a.typ b.typ,Vn (lo a) (lo b)]
theorem Jc {a b:Col} :mB a b<0↔a.typ<b.typ\/(a.typ=b.typ/\lo a<lo b):=by
 grind [mB,H8,bC,bB]
def vZ (a b:Cm):Int:=mB a.val b.val
theorem mD : Go.Sort.SWO (ltOf vZ) where
 irrefl x:=by grind [ltOf,vZ,Jc]
 trans x y z h1 h2:=by simp only [ltOf,vZ,Zr,Jc] at *;omega
 ntrans x y z h1 h2:=by grind [ltOf,vZ,Jc]
theorem Zik (c:Cm):PC 107 [.p (.int .i64 c.val.set)] (.int .i64 (lo c.val)):=by
 obtain ⟨c,S,h1,h2,h3⟩:=c
 grind [lo,Ms]
theorem RJ (a b:Cm):PC 104 [.p (Xz a.val),.p (Xz b.val)] (.int .i64 (vZ a b)):=by
 refine Zc Tryz.func104 rfl xC ?_;simp (disch:=omega) only [Tryz.f104,go_sem,seval];refine Z6 (X8 ?_);refine Zq (F5 a.val.typ b.val.typ) (X8 ?_);refine Zq (Zik a) (X8 ?_);refine Zq (Zik b) (X8 ?_);refine Zq (F5 (lo a.val) (lo b.val)) (X8 ?_);refine Zq (ZbR [Vn a.val.typ b.val.typ,Vn (lo a.val) (lo b.val)] false Zb) (X8 ?_)
 rfl
theorem pW (xs:List Cm) (hl:xs.length<=1048576) {H:List AM.Obj} {o:Nat} (hH:H[o]? =some (.elems 7 (xs.map fun c=>Xz c.val))) :
  ACalls Tryz.prog 103 [.sl o 0 xs.length xs.length,.fn (.func 104) [] []] H fun y H'=>y= .tup []/\ ∃ys:List Cm,ys.Perm xs/\ys.Pairwise (fun a b=> ¬vZ b a<0)/\H'=H.set o (.elems 7 (ys.map fun c=>Xz c.val)) :=
 ACalls.sortFunc MB dI 7 Tryz.isAgg158 Tryz.sizeOf158 (fun c:Cm=>Xz c.val) (fun x=>⟨_,rfl,rfl,rfl⟩) vZ mD 104 RJ xs Za hH
theorem CC {n:Nat} {m:Int} {x:Inst} {fst:List (List Col)} {sk:List Int} : ∀(d:Nat) (s:St),∀c∈(Yf n m x fst sk d s).1,∃i,i<fst.length/\c∈nth fst i
 | 0,s,c,h=>by simp [Yf] at h
 | d+1,s,c,h=>by
  rw [Yf] at h
  split at h
  ·simp at h
  ·split at h
   ·rename_i c' hf;simp only [Yj] at h;rcases h with rfl | h
    ·refine ⟨s.ix.toNat,?_,YN hf⟩;rcases W7 s.ix.toNat fst.length with h | h
     ·exact h
     ·rw [show nth fst s.ix.toNat= [] from by simp [nth,Wy,List.getElem?_eq_none h];rfl] at hf;simp at hf
    ·exact CC d _ c h
   ·exact CC d _ c h
def zPlC : Pln:=⟨true,[],true,[]⟩
def kG (x:Inst) (l:List Col) (p:Pln) (c e:Int):Prop:=(8192<l.length/\p=zPlC/\c=0/\e=4)\/(l.length<=8192/\(∃c∈l,rightB x c=false)/\p=zPlC/\c=0/\e=2) \/
 (l.length<=8192/\(∀c∈l,rightB x c=true)/\ ∃ys,Cheap l ys/\ys.length<=l.length/\((HU x ys<0/\p=zPlC/\c=0/\e=24)\/(0<=HU x ys/\c=HU x ys/\e=0 /\
  ∃zs:List Col,zs.Perm (Yf x.orders.length ((Yh x x.orders.length:Nat):Int) x (fstF x.orders.length ys) (skF x x.orders.length) 20 (W0 x.orders.length ((Yh x x.orders.length:Nat):Int) zSt)).1/\zs.Pairwise (fun a b=> ¬mB b a<0) /\
   p=⟨false,zs.map (·.route),false,(Yf x.orders.length ((Yh x x.orders.length:Nat):Int) x (fstF x.orders.length ys) (skF x x.orders.length) 20 (W0 x.orders.length ((Yh x x.orders.length:Nat):Int) zSt)).2⟩)))
theorem CB {n:Nat} {m:Int} {x:Inst} {fst:List (List Col)} {sk:List Int} : ∀(d:Nat) (s:St),(Yf n m x fst sk d s).1.length<=d/\(Yf n m x fst sk d s).2.length<=d
 | 0,s=>by simp [Yf]
 | d+1,s=>by
  rw [Yf]
  split
  ·simp
  ·split
   ·rename_i c' hf;have:=CB (n:=n) (m:=m) (x:=x) (fst:=fst) (sk:=sk) d (Vb n m s c');simp;omega
   ·have:=CB (n:=n) (m:=m) (x:=x) (fst:=fst) (sk:=sk) d (Cw n m s);simp;omega
theorem SD (x:Inst) (l:List Col) (lc:Bool) (hx:InstOk x) (hn:x.orders.length<=4) (ht:x.types.length<=1048576) (hs: ∀c∈l,c.set<9223372036854775808) (hl:l.length<=1048576) :
  ACalls Tryz.prog 64 [.p (Zv x),.p (.list lc (l.map Xz))] [] fun y H'=> ∃p c e,kG x l p c e/\y= .tup [.p (Wk p),.p (.int .i64 c),.p (.int .i64 e)]/\H'= []:=by
 refine Ze [16] Tryz.func64 rfl ZhO ?_;simp (disch:=omega) only [Tryz.f64,go_sem,seval];refine ((RH x l lc hn ht (fun i=>Ae Za (ML hx _)) hs hl).behind (by rfl) _).mono ?_;rintro y H' ⟨y1,H1,hq,rfl,rfl⟩;rcases hq with ⟨h1,rfl,rfl⟩ | ⟨h1,h2,rfl,rfl⟩ | ⟨h1,h2,ys,⟨hC,hyl⟩,rfl,rfl⟩
 ·simp (disch:=omega) only [shV,shVs,Zk,go_sem,seval];exact ⟨.tup [.p (Wk zPlC),.p (.int .i64 0),.p (.int .i64 4)],[],Weak.mk (by simp (disch:=omega) only [zPlC,Zk,go_sem,seval]),_,_,_,Or.inl ⟨h1,rfl,rfl,rfl⟩,rfl,rfl⟩
 ·simp (disch:=omega) only [shV,shVs,Zk,go_sem,seval];exact ⟨.tup [.p (Wk zPlC),.p (.int .i64 0),.p (.int .i64 2)],[],Weak.mk (by simp (disch:=omega) only [zPlC,Zk,go_sem,seval]),_,_,_,Or.inr (Or.inl ⟨h1,h2,rfl,rfl,rfl⟩),rfl,rfl⟩
 ·have hok:=O1 hx hn hC h2 hs
  have hcl: ∀r∈fstF x.orders.length ys,r.length<=1048576:=fun r hr=>by
   obtain ⟨p,_,rfl⟩:=Ww.1 hr
   grind [Yb]
  obtain ⟨m,hm⟩: ∃m:Int,m=((Yh x x.orders.length:Nat):Int):=⟨_,rfl⟩;obtain ⟨B,hB⟩: ∃B,B=HU x ys:=⟨_,rfl⟩;simp (disch:=omega) only [shV,shVs,shO,X4,YT,Zu,Zk,List.replicate,Xu,ZF,go_sem,seval];rw [<- hm];refine ACalls.mono ((E4 x (.list false ((fstF x.orders.length ys).map Y2)) (.list false ((skF x x.orders.length).map eI)) m [] zSt rfl (by decide) Za (by decide)).back [Zg x,.cells [.p (.list true []),.p (.list true [])],.cells (List.replicate 6 .junk)] (by rfl)) ?_;rintro y H' ⟨y1,H1,⟨rfl,rfl⟩,rfl,rfl⟩;obtain ⟨v1,_⟩:=Io (m:=m) (tT x.orders.length)
  have hrg:=VK (m:=m) hok 20 _ v1
  have hbb:B=YV x.orders.length m x (fstF x.orders.length ys) (skF x x.orders.length) 20 (W0 x.orders.length m zSt):=by rw [hB,HU,hm]
  rw [<- hbb] at hrg;obtain ⟨R,hR⟩: ∃R,R=Yf x.orders.length m x (fstF x.orders.length ys) (skF x x.orders.length) 20 (W0 x.orders.length m zSt):=⟨_,rfl⟩;obtain ⟨i,w,b0,b1,b2,b3,b4,b5,hw⟩:=YD v1.len;have hRr:=hR;rw [hw] at hbb v1 hR ⊢;simp (disch:=omega) only [shV,shVs,shO,X4,YT,Zu,Zk,List.replicate,Xu,ZF,go_sem,seval];have c3:=((Do x (fstF x.orders.length ys) (skF x x.orders.length) false false m Za (by simp [fstF]) (by simp [skF]) hok hcl 20 ⟨i,w,[b0,b1,b2,b3,b4,b5]⟩ [] Za v1 (by have:=v1.ix;omega) (fun p hp=>by simp at hp)).mono (fun y H' hq=>(⟨hq,by obtain ⟨l',_,_,rfl⟩:=hq;rfl⟩:_/\H'.length=(X4 x (.list false ((fstF x.orders.length ys).map Y2)) (.list false ((skF x x.orders.length).map eI)) m []).length))).front (by rfl) (by rfl) [Kr ⟨i,w,[b0,b1,b2,b3,b4,b5]⟩]
  refine ACalls.mono (c3.back [Zg x,.cells [.p (.list true []),.p (.list true [])],.cells (List.replicate 6 .junk)] (by rfl)) ?_;rintro y H' ⟨y1,H1,⟨H2,⟨l',hl',rfl,rfl⟩,rfl⟩,rfl,rfl⟩;rw [<- hbb];simp (disch:=omega) only [shV,shVs,shO,X4,YT,Kr,Zu,Zk,List.replicate,Xu,ZF,go_sem,seval];refine cD ?_ ?_<;>intro h3<;>simp (disch:=omega) only [Sh.out h3,go_sem,seval,↓reduceIte]
  ·exact ⟨.tup [.p (Wk zPlC),.p (.int .i64 0),.p (.int .i64 24)],[],Weak.mk (by simp (disch:=omega) only [zPlC,Zk,go_sem,seval]),_,_,_,Or.inr (Or.inr ⟨h1,h2,ys,hC,hyl,Or.inl ⟨Za,rfl,rfl,rfl⟩⟩),rfl,rfl⟩
  ·refine ACalls.mono ((ZbW (Kr ⟨i,w,[b0,b1,b2,b3,b4,b5]⟩) (by intro H n;simp (disch:=omega) only [Kr,Zu,Zk,go_sem,seval]) (by intro o xs;rfl) x (fstF x.orders.length ys) (skF x x.orders.length) false false m Za (by simp [fstF]) (by simp [skF]) hok hcl ⟨i,w,[b0,b1,b2,b3,b4,b5]⟩ l' v1 hl').back [Zg x,.cells [.p (.list true []),.p (.list true [])],.cells (List.replicate 6 .junk)] (by rfl)) ?_;rintro y H' ⟨y1,H1,⟨l2,A,U,hl2,hAU,rfl,rfl⟩,rfl,rfl⟩;rw [<- hR] at hAU;have hlen:=CB (n:=x.orders.length) (m:=m) (x:=x) (fst:=fstF x.orders.length ys) (sk:=skF x x.orders.length) 20 (W0 x.orders.length m zSt)
   rw [<- hRr,<- hAU] at hlen
   have hA: ∀c∈A,∃S:Nat,c.set=S/\0<S/\S<16:=fun c hc=>by
    have hc':c∈(Yf x.orders.length m x (fstF x.orders.length ys) (skF x x.orders.length) 20 (W0 x.orders.length m zSt)).1:=by grind
    obtain ⟨j,hj,hm2⟩:=CC _ _ _ hc'
    have e:nth (fstF x.orders.length ys) j=Yb ys j:=by
     grind [fstF,Zj]
    rw [e,Yb,Qf] at hm2;obtain ⟨q,hq,hql,_⟩:=hC.bst c hm2.1
    have hmem:c∈l:=by grind [ZN]
    obtain ⟨S,q1,q2,q3,_⟩:=Uy (h2 c hmem) (hs c hmem);exact ⟨S,q1,q2,Jv q3 (XZ (n:=2) Za hn)⟩
   obtain ⟨L,hL⟩: ∃L:List Cm,L.map Subtype.val=A:=⟨A.pmap (fun c h=>⟨c,h⟩) hA,by simp [List.map_pmap]⟩;subst hL
   have hLl:(L.map Subtype.val).length=L.length:=Zb
   have hLe:(L.map Subtype.val).map Xz=L.map fun c=>Xz c.val:=Zb
   simp only at hlen;rw [hLl] at hlen;simp (disch:=omega) only [shV,shVs,shO,X4,YT,Kr,Zu,Zk,List.replicate,Xu,ZF,hLl,hLe,go_sem,seval];refine ((pW L Za (H:=_) (o:=7) rfl)).mono ?_;rintro y H' ⟨rfl,zs,hp,hsr,rfl⟩;have hzl:zs.length=L.length:=hp.length_eq;rw [<- hzl] at hlen ⊢;simp (disch:=omega) only [X7,Z9,go_sem,seval];obtain ⟨Z,hZ⟩: ∃Z,Z=zs.map Subtype.val:=⟨_,rfl⟩
   have hZl:Z.length=zs.length:=by rw [hZ];simp
   have hZe:Z.map Xz=zs.map fun c=>Xz c.val:=by rw [hZ];simp
   rw [<- hZl] at hlen ⊢
   have htl: ∀k,k<=Z.length->(Z.take k).length=k:=fun k hk=>by simp;omega
   refine Zi [4,10,13,45,46] (fun k:Nat=> [(47,.p (.int .i64 k))]) (fun k=> [Zg x,.cells [.p (.list true []),.p (.list true [])],.cells (List.replicate 6 .junk),.map (l2.map (Ln Am)),shO 3 (YT x (.list false ((fstF x.orders.length ys).map Y2)) (.list false ((skF x x.orders.length).map eI)) m),Kr ⟨i,w,[b0,b1,b2,b3,b4,b5]⟩,.cells (List.replicate 8 .junk),.elems 7 (Z.map Xz),.cells [.sl 9 0 k k,.p (.list false (U.map eI))],.elems 4 ((Z.take k).map fun c=>Z0 c.route)]) (fun k=>k<=Z.length) (fun k=>Z.length-k) 0 Za ((Weak.nilC (o:=8) (j:=0) 4 (by rfl) (by rfl) Zb).trans (Weak.mk ?_)) ?_
   ·simp (disch:=omega) only [hZe,Wx,X7,Z9,Zs,ZH,XV,Nat.reduceAdd,shV,shVs,shO,YT,Kr,Zu,Zk,List.replicate,Xu,ZF,Zg,go_sem,seval]
   ·intro k hk;simp (disch:=omega) only [shV,shVs,shO,YT,Kr,Zu,Zk,List.replicate,Zg,go_sem,seval];refine cD ?_ ?_<;>intro h4<;>simp (disch:=omega) only [Sh.out h4,go_sem,seval,↓reduceIte]
    ·have hk2:k<Z.length:=Za
     simp (disch:=first | omega | (simp only [Zs,ZH,ZQ,Xp,ZA,Xg]<;>omega)) only [WK hk2,hk2,go_sem,seval,↓reduceIte]
     have hsc:Z.take (k+1)=Z.take k++ [nth Z k]:=by rw [Zx hk2,Zj hk2]
     rw [if_pos ⟨htl k hk,Za,Za⟩];simp (disch:=omega) only [htl k hk,Xp,ZQ,Zs,ZH,XV,eq_self,W8,go_sem,seval];exact ⟨k+1,Za,Za,Weak.mk (by simp (disch:=omega) only [hsc,Xm,Zu,Zk,go_sem,seval])⟩
    ·have hkl:k=Z.length:=Za
     subst hkl;refine Zp (Weak.fz (o:=9) (by rfl)) ?_;refine Zf [] _ _ _ _ ?_;simp (disch:=omega) only [Zu,Zk,X7,Z9,Yu,go_sem,seval];exact ⟨.tup [.p (Wk ⟨false,Z.map (·.route),false,U⟩),.p (.int .i64 B),.p (.int .i64 0)],[],Weak.mk (by simp (disch:=omega) only [List.map_map,Function.comp_def,go_sem,seval]),_,_,_,Or.inr (Or.inr ⟨h1,h2,ys,hC,hyl,Or.inr ⟨Za,hB,rfl,Z,by grind,by rw [hZ];exact List.pairwise_map.2 hsr,by grind⟩⟩),rfl,rfl⟩
def Zmj (x:Inst) (l:List Col) (a e:Int):Prop:=(8192<l.length/\a=0/\e=4)\/(l.length<=8192/\(∃c∈l,rightB x c=false)/\a=0/\e=2) \/
 (l.length<=8192/\(∀c∈l,rightB x c=true)/\ ∃ys,Cheap l ys/\a=(if HU x ys<0 then 0 else HU x ys)/\e=(if HU x ys<0 then 24 else 0))
def ky (l:List Col) (a:Int):Int×Int×Int:=if a<0 then (1,0,0) else (0,(nth l a.toNat).typ,(nth l a.toNat).set)
def dZ (a b:Int×Int×Int):Prop:=a.1<b.1\/(a.1=b.1/\(a.2.1<b.2.1\/(a.2.1=b.2.1/\a.2.2<b.2.2)))
def KE (n:Nat) (l:List Col) (a b:List Int):Prop:= ∀t,t<n->ky l (nth a t)=ky l (nth b t)/\nth a t<=nth b t
def KL (n:Nat) (l:List Col) (a b:List Int):Prop:=(∃i,i<n/\(∀t,t<i->ky l (nth a t)=ky l (nth b t))/\dZ (ky l (nth a i)) (ky l (nth b i)))\/KE n l a b
def mI (x:Inst):Int:=((Yh x x.orders.length:Nat):Int)
theorem Ev {x:Inst} (hn:x.orders.length<=4) {k:Nat} (hk:k<x.orders.length):sHas (mI x) k= !(nth x.orders k).off:=by
 grind [mI,QQ,Uc]
theorem A7 {n:Nat} {s:St} (h:StV n s) {k:Nat} (hk:k<=62):sHas s.cov k=s.cov.toNat.testBit k:=by
 obtain ⟨C,hC,_⟩:=h.cov
 grind [QQ]
structure Ctx (x:Inst) (l ys:List Col):Prop where
 n4:x.orders.length<=4
 t6:x.types.length<=6
 ch:Cheap l ys
 rt: ∀c∈l,rightB x c=true
 st: ∀c∈l,c.set<9223372036854775808
 ok:ChOk x.orders.length x (fstF x.orders.length ys) (skF x x.orders.length)
 sk: ∀k,k<x.orders.length->(nth x.orders k).off=false->(0<=(nth x.orders k).penalty↔0<=skpF x k)/\(0<=skpF x k->skpF x k=skR x k)
theorem ZbH : ∀S:Fin 16,0<S.val-> ∀k:Fin 4,(Ag S.val=(k.val:Int)↔(S.val.testBit k.val=true/\ ∀i:Fin 4,i.val<k.val->S.val.testBit i.val=false)):=by decide+kernel
theorem Ou {S n k:Nat} (hS:0<S) (h:S<2^n) (hn:n<=4) (hk:k<n):Ag S=(k:Int)↔(S.testBit k=true/\ ∀i,i<n->S.testBit i=true->k<=i):=by
 have h16:S<16:=Jv h (XZ (n:=2) Za hn);rw [show Ag S=(k:Int)↔_ from ZbH ⟨S,h16⟩ hS ⟨k,Za⟩];refine and_congr_right fun _=>⟨fun g i hi hb=> ?_,fun g i hi=> ?_⟩
 ·rcases W7 i k with h1 | h1
  ·have:=g ⟨i,Za⟩ h1
   grind
  ·exact h1
 grind
theorem Ctx.set {x:Inst} {l ys:List Col} (h:Ctx x l ys) {c:Col} (hc:c∈l):c.set=(c.set.toNat:Int)/\0<c.set.toNat/\c.set.toNat<2^x.orders.length/\ ∀i,c.set.toNat.testBit i=true->i<x.orders.length/\(nth x.orders i).off=false:=by
 obtain ⟨S,h1,h2,h3,h4⟩:=Uy (h.rt c hc) (h.st c hc)
 grind
theorem Ctx.typ {x:Inst} {l ys:List Col} (h:Ctx x l ys) {c:Col} (hc:c∈l):(0<=c.typ/\c.typ<x.types.length)/\0<=c.price:=by
 have:=h.rt c hc;simp only [rightB,ZG,Zr] at this;omega
structure Nd (x:Inst) (l:List Col) (a:List Int) (s:St) (k:Nat):Prop where
 len:a.length=x.orders.length
 ix:s.ix=k
 v:StV x.orders.length s
 cov: ∀i,i<x.orders.length->s.cov.toNat.testBit i=decide (0<=nth a i)
 rng: ∀i,i<x.orders.length-> -1<=nth a i/\nth a i<l.length
 used: ∀T:Nat,T<6->nth s.used T=usdI l a T x.orders.length
 grp: ∀i,i<x.orders.length->0<=nth a i-> ∀t,t<x.orders.length->(nth l (nth a i).toNat).set.toNat.testBit t=true->nth a t=nth a i
 old: ∀i,i<x.orders.length->k<=i->0<=nth a i-> ∃t,t<k/\(nth l (nth a i).toNat).set.toNat.testBit t=true
 own: ∀i,i<x.orders.length->0<=nth a i->(nth l (nth a i).toNat).set.toNat.testBit i=true
def Fm (s:St):St:= { s with ix:=s.ix+1 }
def K5 (s:St) (c:Col):St:=⟨s.ix+1,((s.cov.toNat|||c.set.toNat:Nat):Int),s.used.set c.typ.toNat (nth s.used c.typ.toNat+1)⟩
theorem Nd.skip {x:Inst} {l:List Col} {a:List Int} {s:St} {k:Nat} (h:Nd x l a s k) (hk:k<x.orders.length) (ho:0<=nth a k-> ∃t,t<k/\(nth l (nth a k).toNat).set.toNat.testBit t=true):Nd x l a (Fm s) (k+1) :=
 ⟨h.len,by simp only [Fm,h.ix];omega,⟨h.v.len,by have:=h.ix;simp only [Fm];omega,h.v.cov,h.v.used⟩,h.cov,h.rng,h.used,h.grp,fun i hi hki h0=>by
  obtain ⟨t,h1,h2⟩:=h.old i hi Za h0
  grind,h.own⟩
theorem Nd.skip' {x:Inst} {l:List Col} {a:List Int} {s:St} {k:Nat} (h:Nd x l a s k) (hk:k<x.orders.length):Nd x l a (Fm s) (k+1):=h.skip hk fun h0=>h.old k hk (ZM _) h0
theorem O0 {x:Inst} {l ys:List Col} (hc:Ctx x l ys) {a:List Int} {s:St} {k j:Nat} (h:Nd x l a s k) (hk:k<x.orders.length) (hj:j<l.length):Db x l a j k=true↔(Yp x s (nth l j)=true/\Ag (nth l j).set.toNat=(k:Int)):=by
 obtain ⟨hS,hS0,hS1,hS2⟩:=hc.set (ZN hj);obtain ⟨⟨ht0,ht1⟩,_⟩:=hc.typ (ZN hj);have ht6:=hc.t6;have hu:=h.used (nth l j).typ.toNat Za;rw [show (((nth l j).typ.toNat:Nat):Int)=(nth l j).typ by omega] at hu;rw [Ou hS0 hS1 hc.n4 hk];simp only [Db,Yp,Dh,ZG,Zr,K6,h.len,hu]
 constructor
 ·rintro ⟨h1,h2,h3⟩;refine ⟨⟨AG fun i=> ?_,h2⟩,h1,fun i hi hb=>(h3 i hi hb).2⟩;rw [Nat.testBit_and,Nat.zero_testBit]
  cases hb:(nth l j).set.toNat.testBit i with
  | false=>simp
  | true =>
   have hi:=(hS2 i hb).1;rw [h.cov i hi,UP,Yd]
   grind
 ·rintro ⟨⟨h1,h2⟩,h3,h4⟩;refine ⟨h3,h2,fun i hi hb=>⟨?_,h4 i hi hb⟩⟩;have:=X0 (fun z=>z.testBit i) h1;simp only [Nat.testBit_and,Nat.zero_testBit,hb,UP] at this;rw [h.cov i hi,Yd] at this;omega
theorem G1 {x:Inst} {l:List Col} {a:List Int} {k:Nat} {S:Nat} {j:Nat} (hl:a.length=x.orders.length) (hk:k<x.orders.length) (hb:S.testBit k=true) (hneg: ∀i,i<x.orders.length->S.testBit i=true->nth a i<0/\k<=i) (hfr: ∀i,i<x.orders.length->S.testBit i=false->nth a i≠(j:Int)) (T:Int) :
  ∀m,m<=x.orders.length->usdI l (UB S a j) T m=usdI l a T m+(if k<m/\(nth l j).typ=T then 1 else 0)
 | 0,_=>by simp [usdI]
 | i+1,hm=>by
  have hi:i<a.length:=Za
  rw [usdI,usdI,G1 hl hk hb hneg hfr T i Za];have hset: ∀t,t<i->nth (UB S a j) t=if S.testBit t=true then (j:Int) else nth a t:=fun t ht=>XL Za
  cases hs:S.testBit i with
  | false =>
   have e:B1 l (UB S a j) T i=B1 l a T i:=by
    rw [B1,B1,XL hi,hs,if_neg Zb]
    by_cases h0:0<=nth a i
    ·have ef:R0 (UB S a j) i=R0 a i:=by
      rw [Up,Ej,Ej,XL hi,hs,if_neg Zb]
      grind
     rw [ef]
    ·simp [h0]
   grind
  | true =>
   obtain ⟨hn,hki⟩:=hneg i Za hs
   have e2:B1 l a T i=false:=by
    simp_all [B1,Xn]
   have e1:B1 l (UB S a j) T i=(decide ((nth l j).typ=T)&&decide (k=i)):=by
    rw [B1,XL hi,hs,if_pos rfl,XQ Za,Wz,XU]
    congr 1
    rw [Up,Ej,XL hi,hs,if_pos rfl,Zr]
    grind
   grind
theorem Nd.child {x:Inst} {l ys:List Col} (hc:Ctx x l ys) {a:List Int} {s:St} {k j:Nat} (h:Nd x l a s k) (hk:k<x.orders.length) (hj:j<l.length) (hcan:Db x l a j k=true):Nd x l (UB (nth l j).set.toNat a j) (K5 s (nth l j)) (k+1):=by
 obtain ⟨hS,hS0,hS1,hS2⟩:=hc.set (ZN hj);obtain ⟨⟨ht0,ht1⟩,_⟩:=hc.typ (ZN hj);have ht6:=hc.t6;have hl6:s.used.length=6:=h.v.len;have hu:=h.used (nth l j).typ.toNat Za;rw [show (((nth l j).typ.toNat:Nat):Int)=(nth l j).typ by omega] at hu;have hcan':=hcan;simp only [Db,ZG,Zr,K6,h.len] at hcan';obtain ⟨hb,hcnt,hneg⟩:=hcan';rw [<- hu] at hcnt;have hcount:=hc.ok.typ.2 (nth l j).typ.toNat Za;have hak:=(hneg k hk hb).1
 have hfr: ∀i,i<x.orders.length->(nth l j).set.toNat.testBit i=false->nth a i≠(j:Int):=fun i hi _ e=>by
  have:=h.grp i hi Za k hk (by grind [XU]);omega
 obtain ⟨C,hC,hC2⟩:=h.v.cov;have hS10:(nth l j).set.toNat<1024:=Jv hS1 (XZ (n:=2) Za (show x.orders.length<=10 by have:=hc.n4;omega));refine ⟨by rw [QR];exact h.len,by simp only [K5,h.ix];omega,⟨by simp only [StR,K5,KY];exact hl6,by have:=h.ix;simp only [K5];omega,⟨_,rfl,?_⟩,fun t ht=> ?_⟩,fun i hi=> ?_,fun i hi=> ?_,fun T hT=> ?_,fun i hi h0 t ht hbt=> ?_,fun i hi hki h0=> ?_,fun i hi h0=> ?_⟩
 ·rw [hC,XU];exact J5 (n:=10) hC2 hS10
 ·simp only [K5];rw [BA Za]
  split
  ·omega
  ·exact h.v.used t ht
 ·simp only [K5,XU];rw [KZ,h.cov i hi,XL (by rw [h.len];exact hi)]
  grind
 ·rw [XL (by rw [h.len];exact hi)]
  split
  ·omega
  ·exact h.rng i hi
 ·simp only [K5];rw [BA Za,G1 h.len hk hb hneg hfr T _ (ZM _),h.used T hT]
  grind
 ·rw [XL (i:=i) (by rw [h.len];exact hi)] at h0 hbt ⊢;rw [XL (i:=t) (by rw [h.len];exact ht)]
  cases hbi:(nth l j).set.toNat.testBit i with
  | true =>
   rw [hbi,if_pos rfl,XU] at hbt
   grind
  | false =>
   rw [hbi,if_neg Zb] at h0 hbt;have e:=h.grp i hi h0 t ht hbt
   grind
 ·rw [XL (by rw [h.len];exact hi)] at h0 ⊢
  cases hbi:(nth l j).set.toNat.testBit i with
  | true =>
   rw [if_pos rfl,XU]
   grind
  | false =>
   rw [hbi,if_neg Zb] at h0;rw [if_neg Zb];obtain ⟨t,h1,h2⟩:=h.old i hi Za h0
   grind
 ·rw [XL (by rw [h.len];exact hi)] at h0 ⊢
  cases hbi:(nth l j).set.toNat.testBit i with
  | true=>rw [if_pos rfl,XU];exact hbi
  | false =>
   rw [hbi,if_neg Zb] at h0;rw [if_neg Zb];exact h.own i hi h0
def Lx (x:Inst) (ys:List Col) (D:Nat) (s:St):Int:=YV x.orders.length (mI x) x (fstF x.orders.length ys) (skF x x.orders.length) D (W0 x.orders.length (mI x) s)
theorem TI {x:Inst} {ys:List Col} {D:Nat} {s:St} (h:s.ix=x.orders.length):Lx x ys D s=0:=by
 unfold Lx
 cases D with
 | zero=>rfl
 | succ D =>
  simp_all [YV,W0,BV]
theorem CI {n:Nat} {m:Int} {s:St} {k:Nat} (hk:s.ix=k) (hkn:k<n) (hc:sHas m k=false\/sHas s.cov k=true):W0 n m s=W0 n m (Fm s):=by
 simp_all [W0,Fm,DJ]
theorem CJ {n:Nat} {m:Int} {s:St} {k:Nat} (hk:s.ix=k) (h1:sHas m k=true) (h2:sHas s.cov k=false):W0 n m s=s:=by
 obtain ⟨i,v,u⟩:=s
 simp_all [W0,CK]
theorem Fe {n:Nat} {m:Int} {s:St} {c:Col} {k:Nat} (hk:s.ix=k) (hkn:k<n) (hn:n<=4) (hb:c.set.toNat.testBit k=true):Vb n m s c=W0 n m (K5 s c):=by
 have e:=CI (n:=n) (m:=m) (s:=⟨s.ix,((s.cov.toNat|||c.set.toNat:Nat):Int),s.used.set c.typ.toNat (nth s.used c.typ.toNat+1)⟩) (k:=k) hk hkn (.inr (by
  simp only
  rw [QQ _ _ Za,KZ,hb,Bool.or_true]))
 exact e
theorem Kh {x:Inst} {l ys:List Col} (hc:Ctx x l ys) {k:Nat} (hk:k<x.orders.length) {c:Col} (hm:c∈Yb ys k):c∈ys/\c∈l/\Ag c.set.toNat=(k:Int)/\c.set.toNat.testBit k=true:=by
 rw [Yb,Qf,Zr] at hm;have hl:=aS hc.ch hm.1;obtain ⟨_,h0,h1,_⟩:=hc.set hl;exact ⟨hm.1,hl,hm.2,((Ou h0 h1 hc.n4 hk).1 hm.2).1⟩
theorem MW {x:Inst} {l ys:List Col} (hc:Ctx x l ys) {D:Nat} (hD:10<D) {s:St} {k:Nat} (hv:StV x.orders.length s) (hk:s.ix=k) (hkn:k<x.orders.length) (ho:(nth x.orders k).off=false) (hcv:s.cov.toNat.testBit k=false) :
  Lx x ys D s=if 0<=skpF x k then YK ((Yb ys k).foldl (fun o c=>if Yp x s c=true then YK o c.price (Lx x ys D (K5 s c)) else o) (-1)) (skpF x k) (Lx x ys D (Fm s)) else (Yb ys k).foldl (fun o c=>if Yp x s c=true then YK o c.price (Lx x ys D (K5 s c)) else o) (-1):=by
 have hn:=hc.n4
 have e1:Lx x ys D s=YV x.orders.length (mI x) x (fstF x.orders.length ys) (skF x x.orders.length) (D+1) s:=by
  rw [Lx,CJ hk (by grind [Ev]) (by grind [A7])];exact QJ hc.ok _ _ s hv Za Za
 rw [e1,YV,if_neg Za]
 have e2:nth (fstF x.orders.length ys) s.ix.toNat=Yb ys k:=by simp_all [LX]
 have e3:nth (skF x x.orders.length) s.ix.toNat=skpF x k:=by grind [skF,Zj]
 have e4:(Yb ys k).foldl (fun o c=>if Yp x s c=true then YK o c.price (YV x.orders.length (mI x) x (fstF x.orders.length ys) (skF x x.orders.length) D (Vb x.orders.length (mI x) s c)) else o) (-1)=(Yb ys k).foldl (fun o c=>if Yp x s c=true then YK o c.price (Lx x ys D (K5 s c)) else o) (-1) :=
  Jh fun c hm o=>by rw [Fe hk hkn hn (Kh hc hkn hm).2.2.2];rfl
 simp only [e2,e3,e4]
 rfl
def Kn (x:Inst) (ys:List Col) (D:Nat) (s:St) (c:Col):Bool:=Yp x s c&&(decide (0<=Lx x ys D (K5 s c))&&decide (c.price+Lx x ys D (K5 s c)=Lx x ys D s))
noncomputable def AI (l:List Col) (d:Col):Nat:=open Classical in if h:Bst l l.length d then h.choose else 0
theorem PL {l:List Col} {d:Col} (h:Bst l l.length d):AI l d<l.length/\nth l (AI l d)=d/\ ∀i,i<l.length->kd (nth l i)=kd d->d.price<(nth l i).price\/(d.price=(nth l i).price/\AI l d<=i):=by
 have e:AI l d=h.choose:=by rw [AI,dif_pos h]
 grind
noncomputable def gr (x:Inst) (l ys:List Col) (D:Nat):Nat->Nat->St->List Int->List Int
 | 0,_,_,a=>a
 | d+1,k,s,a=>if (nth x.orders k).off=true\/0<=nth a k then gr x l ys D d (k+1) (Fm s) a else
  match (Yb ys k).find? (Kn x ys D s) with
  | some c=>gr x l ys D d (k+1) (K5 s c) (UB c.set.toNat a (AI l c))
  | none=>gr x l ys D d (k+1) (Fm s) a
theorem Jz {x:Inst} {l ys:List Col} (hc:Ctx x l ys) {a:List Int} {s:St} {k:Nat} (h:Nd x l a s k) (hk:k<x.orders.length) {c:Col} (hm:c∈Yb ys k) (hy:Yp x s c=true):AI l c<l.length/\nth l (AI l c)=c/\Db x l a (AI l c) k=true:=by
 obtain ⟨h1,h2,h3,h4⟩:=Kh hc hk hm;obtain ⟨p1,p2,_⟩:=PL (hc.ch.bst c h1)
 grind [O0]
theorem A3 {x:Inst} {l:List Col} {a:List Int} {k j:Nat} (hl:a.length=x.orders.length) (hcan:Db x l a j k=true):(nth l j).set.toNat.testBit k=true/\ ∀t,t<x.orders.length->(t<k\/0<=nth a t)->nth (UB (nth l j).set.toNat a j) t=nth a t:=by
 simp only [Db,ZG,K6,hl] at hcan
 grind [XL]
theorem Cl {x:Inst} {l ys:List Col} (hc:Ctx x l ys) {D:Nat} : ∀(d k:Nat) (s:St) (a:List Int),k+d=x.orders.length->Nd x l a s k->(gr x l ys D d k s a).length=x.orders.length/\ ∀t,t<x.orders.length->(t<k\/0<=nth a t)->nth (gr x l ys D d k s a) t=nth a t
 | 0,k,s,a,_,h=>⟨h.len,fun _ _ _=>rfl⟩
 | d+1,k,s,a,hd,h=>by
  have hk:k<x.orders.length:=Za
  rw [gr];have skip:=Cl hc (D:=D) d (k+1) (Fm s) a Za (h.skip' hk)
  split
  ·grind
  ·split
   ·rename_i c hf;have hsel:=Jy hf;simp only [Kn,ZG] at hsel;obtain ⟨p1,p2,p3⟩:=Jz hc h hk (YN hf) hsel.1;have hch:=h.child hc hk p1 p3;rw [p2] at hch;have ho:=(A3 h.len p3).2;rw [p2] at ho;obtain ⟨g1,g2⟩:=Cl hc (D:=D) d (k+1) (K5 s c) _ Za hch;refine ⟨g1,fun t ht hh=> ?_⟩
    rw [g2 t ht (by
     rcases hh with h1 | h1
     ·left;omega
     ·right;rw [ho t ht (.inr h1)];exact h1),ho t ht hh]
   grind
theorem Bx {x:Inst} {l:List Col} : ∀(d:Nat) (a:List Int) (p:Int),d<=x.orders.length->a.length=x.orders.length-> ∀q∈B8 x l d a p,q.1.length=x.orders.length/\ ∀t,t<x.orders.length->(t<x.orders.length-d\/0<=nth a t)->nth q.1 t=nth a t
 | 0,a,p,_,h,q,hq=>by
  simp only [B8,Yj,Jp,or_false] at hq
  grind
 | d+1,a,p,hd,h,q,hq=>by
  rw [B8] at hq
  split at hq
  ·obtain ⟨g1,g2⟩:=Bx d a p Za h q hq;exact ⟨g1,fun t ht hh=>g2 t ht (hh.imp Za id)⟩
  ·rw [Xd,Uq] at hq;rcases hq with ⟨j,hj,hq⟩ | hq
   ·split at hq
    ·rename_i hcan;have ho:=(A3 h hcan).2;obtain ⟨g1,g2⟩:=Bx d _ _ Za (by rw [QR];exact h) q hq;refine ⟨g1,fun t ht hh=> ?_⟩
     rw [g2 t ht (by
      rcases hh with h1 | h1
      ·left;omega
      ·right;rw [ho t ht (.inr h1)];exact h1),ho t ht hh]
    ·simp at hq
   ·split at hq
    ·obtain ⟨g1,g2⟩:=Bx d a _ Za h q hq;exact ⟨g1,fun t ht hh=>g2 t ht (hh.imp Za id)⟩
    ·simp at hq
theorem KE.refl {n:Nat} {l:List Col} {a:List Int} :KE n l a a:=fun _ _=>⟨rfl,Int.le_refl _⟩
theorem ZbE {l:List Col} {a:Int} (h:a<0):ky l a=(1,0,0):=if_pos h
theorem HR {l:List Col} {a:Int} (h:0<=a):ky l a=(0,(nth l a.toNat).typ,(nth l a.toNat).set):=if_neg Za
theorem Zia {l:List Col} {i j:Nat} :ky l (i:Int)=ky l (j:Int)↔kd (nth l i)=kd (nth l j):=by
 grind [HR,kd]
theorem cT {x:Inst} {s:St} {r:Col->Int} {ls:List Col} (hp: ∀c∈ls,0<=c.price) (hr: ∀c∈ls,Yp x s c=true-> -1<=r c) {c:Col} (hc:c∈ls) (hy:Yp x s c=true) (h0:0<=r c) :
  TB (ls.foldl (fun o c=>if Yp x s c=true then YK o c.price (r c) else o) (-1)) (c.price+r c):=by
 have e:=Jh (f:=fun o c=>if Yp x s c=true then YK o c.price (r c) else o) (g:=fun o c=>if Yp x s c=true then YK o c.price (max (-1) (r c)) else o) (l:=ls) (b:=(-1:Int)) fun c hc o=>by
  grind
 rw [e];have:=(Pb (x:=x) (s:=s) (r:=fun c=>max (-1) (r c)) (fun c=>Za) (l:=ls) (a:= -1) hp).2 c hc hy Za
 grind
theorem MX {x:Inst} {l ys:List Col} (hc:Ctx x l ys) {D:Nat} {s:St} (hv:StV x.orders.length s): -1<=Lx x ys D s:=(VK (m:=mI x) hc.ok D _ (Io hv).1).1
theorem OW {o p r:Int} (hr: -1<=r) (hp:0<=p):TB (YK o p r) o/\(0<=r->TB (YK o p r) (p+r)):=by
 grind [TB,YK]
theorem tW {x:Inst} {l ys:List Col} (hc:Ctx x l ys) {D:Nat} (hD:10<D) {a:List Int} {s:St} {k:Nat} (h:Nd x l a s k) (hk:k<x.orders.length) (ho:(nth x.orders k).off=false) (hak:nth a k<0) {c:Col} (hm:c∈Yb ys k) (hy:Yp x s c=true) (h0:0<=Lx x ys D (K5 s c)) :
  TB (Lx x ys D s) (c.price+Lx x ys D (K5 s c)):=by
 have hcv:s.cov.toNat.testBit k=false:=by rw [h.cov k hk];grind
 rw [MW hc hD h.v h.ix hk ho hcv]
 have nd: ∀e∈Yb ys k,Yp x s e=true->StV x.orders.length (K5 s e):=fun e he hye=>by
  obtain ⟨p1,p2,p3⟩:=Jz hc h hk he hye;have:=(h.child hc hk p1 p3).v
  grind
 have low:=cT (x:=x) (s:=s) (r:=fun c=>Lx x ys D (K5 s c)) (ls:=Yb ys k) (fun e he=>(hc.typ (Kh hc hk he).2.1).2) (fun e he hye=>MX hc (nd e he hye)) hm hy h0
 split
 ·rename_i hs;have b:=(OW (o:=(Yb ys k).foldl (fun o c=>if Yp x s c=true then YK o c.price (Lx x ys D (K5 s c)) else o) (-1)) (MX hc (D:=D) (h.skip' hk).v) hs).1
  grind [TB]
 ·exact low
theorem kJ {x:Inst} {l ys:List Col} (hc:Ctx x l ys) {D:Nat} (hD:10<D) {a:List Int} {s:St} {k:Nat} (h:Nd x l a s k) (hk:k<x.orders.length) (ho:(nth x.orders k).off=false) (hak:nth a k<0) (hs:0<=skpF x k) (h0:0<=Lx x ys D (Fm s)) :
  TB (Lx x ys D s) (skpF x k+Lx x ys D (Fm s)):=by
 have hcv:s.cov.toNat.testBit k=false:=by rw [h.cov k hk];grind
 rw [MW hc hD h.v h.ix hk ho hcv,if_pos hs]
 grind [OW]
theorem OC {x:Inst} {l ys:List Col} (hc:Ctx x l ys) {D:Nat} {a:List Int} {s:St} {k:Nat} (h:Nd x l a s k) (hk:k<x.orders.length) (ho:(nth x.orders k).off=true\/0<=nth a k):Lx x ys D s=Lx x ys D (Fm s):=by
 unfold Lx;rw [CI h.ix hk (ho.imp (fun e=>by rw [Ev hc.n4 hk,e];rfl) fun e=>by rw [A7 h.v (by have:=hc.n4;omega),h.cov k hk];grind)]
theorem Bh {x:Inst} {l ys:List Col} (hc:Ctx x l ys) {D:Nat} (hD:10<D): ∀(d k:Nat) (s:St) (a b:List Int) (p:Int),k+d=x.orders.length->Nd x l a s k->Nd x l b s k->KE x.orders.length l a b-> ∀q∈B8 x l d b p,
  0<=Lx x ys D s/\p+Lx x ys D s<=q.2/\(q.2=p+Lx x ys D s->KL x.orders.length l (gr x l ys D d k s a) q.1)
 | 0,k,s,a,b,p,hd,ha,hb,he,q,hq=>by
  simp only [B8,Yj,Jp,or_false] at hq;subst hq;rw [TI (by rw [ha.ix];omega)];exact ⟨Za,Zb,fun _=> .inr he⟩
 | d+1,k,s,a,b,p,hd,ha,hb,he,q,hq=>by
  have hk:k<x.orders.length:=Za
  have hkd:x.orders.length-(d+1)=k:=Za
  have hneg: ∀t,t<x.orders.length->(0<=nth a t↔0<=nth b t):=fun t ht=>by
   have h1:=ha.cov t ht;rw [hb.cov t ht,decide_eq_decide] at h1;exact h1.symm
  rw [B8,hkd] at hq;rw [gr]
  split at hq
  ·rename_i ho;have ho':(nth x.orders k).off=true\/0<=nth a k:=ho.imp id (hneg k hk).2;rw [if_pos ho',OC hc ha hk ho'];exact Bh hc hD d (k+1) (Fm s) a b p Za (ha.skip' hk) (hb.skip' hk) he q hq
  ·rename_i ho;have ho': ¬((nth x.orders k).off=true\/0<=nth a k):=fun g=>ho (g.imp id (hneg k hk).1);rw [if_neg ho']
   have hoff:(nth x.orders k).off=false:=by
    grind
   have hbk:nth b k<0:=Int.not_le.1 fun g=>ho (.inr g);have hak:nth a k<0:=Int.not_le.1 fun g=>ho' (.inr g)
   -- what was picked stands at k
   have hpick: ∀c,(Yb ys k).find? (Kn x ys D s)=some c->Yp x s c=true/\c∈ys/\(∀t,t<k->nth (gr x l ys D d (k+1) (K5 s c) (UB c.set.toNat a (AI l c))) t=nth a t)/\nth (gr x l ys D d (k+1) (K5 s c) (UB c.set.toNat a (AI l c))) k=AI l c/\nth l (AI l c)=c:=fun c hf=>by
    have hsel:=Jy hf;simp only [Kn,ZG] at hsel;obtain ⟨p1,p2,p3⟩:=Jz hc ha hk (YN hf) hsel.1;have hch:=ha.child hc hk p1 p3;obtain ⟨c1,c2⟩:=A3 ha.len p3;rw [p2] at hch c1 c2;have g2:=(Cl hc (D:=D) d (k+1) (K5 s c) _ Za hch).2;refine ⟨hsel.1,(Kh hc hk (YN hf)).1,fun t ht=> ?_,?_,p2⟩
    ·grind
    ·rw [g2 k hk (.inl Za),XL (by rw [ha.len];exact hk),if_pos c1]
   rw [Xd,Uq] at hq;rcases hq with ⟨j,hj,hq⟩ | hq
   ·have hj:=Xc.1 hj
    split at hq
    ·rename_i hcan;obtain ⟨hy,htz⟩:=(O0 hc hb hk hj).1 hcan;have hjl:=ZN hj;obtain ⟨d',hd',hkd',hpr⟩:=aT hc.ch hjl
     have hst:d'.set=(nth l j).set/\d'.typ=(nth l j).typ:=by
      grind [kd]
     have hm:d'∈Yb ys k:=by
      simp_all [Yb]
     have hy':Yp x s d'=true:=by grind [Yp]
     have hnx:K5 s d'=K5 s (nth l j):=by grind [K5]
     have hcb:=hb.child hc hk hj hcan;obtain ⟨cb1,cb2⟩:=A3 hb.len hcan;have hqo:=(Bx d _ _ Za (by rw [QR];exact hb.len) q hq).2
     have hqt: ∀t,t<k->nth q.1 t=nth b t:=fun t ht=>by rw [hqo t Za (.inl Za),cb2 t Za (.inl ht)]
     have hqk:nth q.1 k=j:=by rw [hqo k hk (.inl Za),XL (by rw [hb.len];exact hk),if_pos cb1]
     obtain ⟨i1,i2,_⟩:=Bh hc hD d (k+1) _ _ _ _ Za hcb hcb KE.refl q hq;rw [<- hnx] at i1 i2;have hle:=tW hc hD ha hk hoff hak hm hy' i1;have hp0:=(hc.typ (Kh hc hk hm).2.1).2
     have hL0:0<=Lx x ys D s/\Lx x ys D s<=d'.price+Lx x ys D (K5 s d'):=by
      rcases hle with h | h
      ·-- the least price would be lacking: not so, azs the column leads on
       omega
      ·exact h
     refine ⟨hL0.1,Za,fun hqc=> ?_⟩
     have hpe:d'.price=(nth l j).price:=Za
     have hLe:d'.price+Lx x ys D (K5 s d')=Lx x ys D s:=Za
     have hsel:Kn x ys D s d'=true:=by simp_all [Kn]
     have hpos:=PL (hc.ch.bst d' hd')
     have hpj:AI l d'<=j:=by
      rcases hpos.2.2 j hj hkd'.symm with h | h
      ·omega
      ·exact h.2
     cases hf:(Yb ys k).find? (Kn x ys D s) with
     | none=>rw [KT] at hf;simp_all
     | some c =>
      obtain ⟨k1,k2,k3,k4,k5⟩:=hpick c hf;simp only
      by_cases hcd:c=d'
      ·subst hcd;obtain ⟨p1,p2,p3⟩:=Jz hc ha hk hm hy';have hca:=ha.child hc hk p1 p3;rw [p2] at hca;rw [<- hnx] at hcb;refine (Bh hc hD d (k+1) _ _ _ _ Za hca hcb (fun t ht=> ?_) q hq).2.2 Za;rw [hst.1,XL (by rw [ha.len];exact ht),XL (by rw [hb.len];exact ht)]
       cases hbt:(nth l j).set.toNat.testBit t with
       | true =>
        rw [if_pos rfl,if_pos rfl,Zia,p2]
        grind
       | false =>
        rw [if_neg Zb,if_neg Zb];exact he t ht
      ·-- an earlier kind
       have hlt:cfK c d'<0:=by
        have hpw:(Yb ys k).Pairwise fun a b=>cfK a b<0:=hc.ch.asc.filter _;obtain ⟨_,u,w,hab,hno⟩:=List.find?_eq_some_iff_append.1 hf;rw [hab] at hpw hm;rw [DB,List.pairwise_cons] at hpw;rcases Xd.1 hm with h | h
        ·have:=hno d' h
         grind
        ·rcases Yj.1 h with h | h
         ·grind
         ·exact hpw.2.1.1 d' h
       rw [D7] at hlt;refine .inl ⟨k,hk,fun t ht=> ?_,?_⟩
       ·rw [k3 t ht,hqt t ht];exact (he t Za).1
       ·rw [k4,hqk,HR Za,HR Za,XU,XU,k5]
        right
        grind
    ·simp at hq
   ·split at hq
    ·rename_i hpen;obtain ⟨s1,s2⟩:=hc.sk k hk hoff;have hs0:=s1.1 hpen;have hse:=s2 hs0;rw [<- hse] at hq;have hqo:=(Bx d _ _ Za hb.len q hq).2;obtain ⟨i1,i2,i3⟩:=Bh hc hD d (k+1) (Fm s) a b _ Za (ha.skip' hk) (hb.skip' hk) he q hq;have hle:=kJ hc hD ha hk hoff hak hs0 i1;have hrg:=MX hc (D:=D) ha.v
     have hL0:0<=Lx x ys D s/\Lx x ys D s<=skpF x k+Lx x ys D (Fm s):=by
      rcases hle with h | h
      ·omega
      ·exact h
     refine ⟨hL0.1,Za,fun hqc=> ?_⟩
     cases hf:(Yb ys k).find? (Kn x ys D s) with
     | none=>grind
     | some c =>
      obtain ⟨k1,k2,k3,k4,k5⟩:=hpick c hf;simp only;refine .inl ⟨k,hk,fun t ht=> ?_,?_⟩
      ·rw [k3 t ht,hqo t Za (.inl Za)];exact (he t Za).1
      ·rw [k4,hqo k hk (.inl Za),HR Za,ZbE hbk]
       left;omega
    ·simp at hq
theorem jL {x:Inst} {S:Nat} (hn:x.orders.length<=4) (hS:S<9223372036854775808):jK S (Yh x x.orders.length)=(decide (S<2^x.orders.length)&&(List.range x.orders.length).all fun i=> !(S.testBit i&&(nth x.orders i).off)):=by
 rw [Up,ZG,Zr,jK,Zw,Zw]
 constructor
 ·intro h
  have key: ∀i,S.testBit i=true->i<x.orders.length/\(nth x.orders i).off=false:=fun i hi=>by
   have h63:i<63:=by
    rcases W7 i 63 with h | h
    ·exact h
    ·have:2^63<=2^i:=XZ Za h
     grind [KR]
   grind [Uc]
  refine ⟨Dt _ fun i hi=> ?_,fun i _=> ?_⟩
  ·grind
  grind
 ·rintro ⟨h1,h2⟩ i _
  cases hb:S.testBit i with
  | false=>rfl
  | true =>
   have hi:i<x.orders.length:=by
    rcases W7 i x.orders.length with h | h
    ·exact h
    ·have:2^x.orders.length<=2^i:=XZ Za h
     grind [KR]
   have:=h2 i (Xc.2 hi)
   simp_all [Uc]
theorem SV (x:Inst) (c:Col) (hn:x.orders.length<=4) (ht:x.types.length<=1048576) (hs:c.set<9223372036854775808):PC 162 [.p (Zv x),.p (Xz c)] (.bool (rightB x c)):=by
 obtain ⟨B,hB⟩: ∃B,B=rightB x c:=⟨_,rfl⟩;rw [<- hB]
 have h54:((pw 54:Nat):Int)=18014398509481984:=by decide
 refine Zc Tryz.func162 rfl yR ?_;simp (disch:=omega) only [Tryz.f162,go_sem,seval];refine Z6 (X8 ?_);refine gF ?_ ?_<;>intro h1<;>simp (disch:=omega) only [Sh.out h1,go_sem,seval,↓reduceIte]
 ·grind [rightB]
 ·refine gF ?_ ?_<;>intro h2<;>simp (disch:=omega) only [Sh.out h2,go_sem,seval,↓reduceIte]
  ·grind [rightB]
  ·refine gF ?_ ?_<;>intro h3<;>simp (disch:=omega) only [Sh.out h3,go_sem,seval,↓reduceIte]
   ·grind [rightB]
   ·obtain ⟨S,hS⟩: ∃S:Nat,c.set=S:=⟨c.set.toNat,Za⟩
    have e0:B=(decide (S<2^x.orders.length)&&((List.range x.orders.length).all fun i=> !(S.testBit i&&(nth x.orders i).off))&&(decide (0<=c.price)&&decide (c.price<=18014398509481984))):=by
     grind [rightB,jL]
    rw [hS];refine Zq (Hq x.orders.length Za) (X8 ?_);have hpw:pw x.orders.length=2^x.orders.length:=rfl;refine gF ?_ ?_<;>intro h4<;>simp (disch:=omega) only [Sh.out h4,go_sem,seval,↓reduceIte]
    ·grind [Xn]
    ·refine gF ?_ ?_<;>intro h5<;>simp (disch:=omega) only [Sh.out h5,go_sem,seval,↓reduceIte]
     ·grind
     ·refine Zq (Hq 54 Za) (X8 ?_);rw [h54];refine cD ?_ ?_<;>intro h6<;>simp (disch:=omega) only [Sh.out h6,go_sem,seval]
      ·grind
      ·have e1:B=((List.range x.orders.length).all fun i=> !(S.testBit i&&(nth x.orders i).off)):=by grind
       refine Zi [2,3] (fun k:Nat=> [(5,.p (.int .i64 k))]) (fun _=> [Zg x,Hz c]) (fun k=>k<=x.orders.length/\ ∀j,j<k->(!(S.testBit j&&(nth x.orders j).off))=true) (fun k=>x.orders.length-k) 0 ⟨Zb,fun j hj=>Za⟩ (Weak.mk ?_) ?_
       ·simp (disch:=omega) only [Zg,Hz,hS,go_sem,seval]
       ·rintro k ⟨hk,hno⟩;simp (disch:=omega) only [Zg,Hz,hS,go_sem,seval];refine cD ?_ ?_<;>intro h7<;>simp (disch:=omega) only [Sh.out h7,go_sem,seval,↓reduceIte]
        ·have hk2:k<x.orders.length:=Za
         refine (HP S k Za Za).use (X8 ?_);refine Jd ?_ ?_<;>intro h8
         ·refine ZB ?_ ?_<;>intro h9
          ·grind
          ·exact ⟨k+1,⟨Za,CO hno (by grind)⟩,Za,Weak.mk (by simp (disch:=omega) only [hS,go_sem,seval])⟩
         ·exact ⟨k+1,⟨Za,CO hno (by rw [h8];rfl)⟩,Za,Weak.mk (by simp (disch:=omega) only [hS,go_sem,seval])⟩
        grind
def DO : Chc:=⟨false,[],0⟩
def RQ (b:Chc):PV:= .agg [.bool b.found,.list (!b.found) (b.places.map eI),.int .i64 b.price]
@[go_sem] theorem Zkv (b:Chc):RQ b= .agg [.bool b.found,.list (!b.found) (b.places.map eI),.int .i64 b.price]:=ZP rfl rfl
def IC (b:Chc):AM.Obj:= .cells [.p (.bool b.found),.p (.list (!b.found) (b.places.map eI)),.p (.int .i64 b.price)]
def Hc (x:Inst) (l:List Col):Chc:=(B8 x l x.orders.length (List.replicate x.orders.length (-1)) 0).foldl (Vz l) DO
def tU (x:Inst) (l:List Col) (b:Chc) (e:Int):Prop:=(8192<l.length/\b=DO/\e=4)\/(l.length<=8192/\(∃c∈l,rightB x c=false)/\b=DO/\e=2) \/
 (l.length<=8192/\(∀c∈l,rightB x c=true)/\(((Hc x l).found=false/\b=DO/\e=24)\/((Hc x l).found=true/\b=Hc x l/\e=0)))
theorem HZ {n i:Nat} (h:i<n):nth (List.replicate n (-1:Int)) i= -1:=by
 grind [Zj]
theorem PM {x:Inst} {l:List Col} :RngA x l (List.replicate x.orders.length (-1)):=⟨Zb,fun i hi=>by rw [HZ hi];omega⟩
theorem Li {x:Inst} {l:List Col} (h4:x.orders.length<=4) (h6:x.types.length<=6) (hl:l.length<=1048576) (hs: ∀c∈l,c.set<9223372036854775808) (hr: ∀c∈l,rightB x c=true)
  (hsk: ∀k,k<x.orders.length->(nth x.orders k).off=false->0<=(nth x.orders k).penalty->0<=skR x k/\skR x k<=18014398509481984) (hus: ∀i,scoR 1152921504606846976 (unsF x i).1):ColsR x l :=
 ⟨h4,h6,hl,fun c hc=>by
  obtain ⟨S,q1,q2,q3,_⟩:=Uy (hr c hc) (hs c hc);have h:=hr c hc;simp only [rightB,ZG,Zr] at h
  exact ⟨⟨h.1,h.2.1⟩,h.2.2.2.2,S,q1,Jv q3 (XZ (n:=2) Za h4)⟩,hsk,hus⟩
theorem Nq (x:Inst) (l:List Col) (lc:Bool) (h4:x.orders.length<=4) (h6:x.types.length<=6) (hl:l.length<=1048576) (hs: ∀c∈l,c.set<9223372036854775808)
  (hsk: ∀k,k<x.orders.length->(nth x.orders k).off=false->0<=(nth x.orders k).penalty->0<=skR x k/\skR x k<=18014398509481984) (hus: ∀i,scoR 1152921504606846976 (unsF x i).1) :
  ACalls Tryz.prog 110 [.p (Zv x),.p (.list lc (l.map Xz))] [] fun y H'=> ∃b e,tU x l b e/\y= .tup [.p (RQ b),.p (.int .i64 e)]/\H'= []:=by
 refine Ze [14] Tryz.func110 rfl xI ?_;simp (disch:=omega) only [Tryz.f110,go_sem,seval];refine cD ?_ ?_<;>intro h1<;>simp (disch:=omega) only [Sh.out h1,go_sem,seval,↓reduceIte]
 ·exact ⟨.tup [.p (RQ DO),.p (.int .i64 4)],[],Weak.mk (by simp (disch:=omega) only [DO,Jt,Zk,go_sem,seval]),_,_,.inl ⟨Za,rfl,rfl⟩,rfl,rfl⟩
 ·refine Zi [1,2,4] (fun k:Nat=> [(6,.p (.int .i64 k))]) (fun _=> [Zg x,IC DO]) (fun k=>k<=l.length/\ ∀j,j<k->rightB x (nth l j)=true) (fun k=>l.length-k) 0 ⟨Zb,fun j hj=>Za⟩ (Weak.mk ?_) ?_
  ·simp (disch:=omega) only [Zg,IC,DO,Jt,Zk,go_sem,seval]
  ·rintro k ⟨hk,hno⟩;simp (disch:=omega) only [Zg,IC,DO,Jt,Zk,go_sem,seval];refine cD ?_ ?_<;>intro h2<;>simp (disch:=omega) only [Sh.out h2,go_sem,seval,↓reduceIte]
   ·have hk2:k<l.length:=Za
    refine Z6 (X8 ?_);refine Zq (SV x (nth l k) h4 Za (hs _ (ZN hk2))) (X8 ?_)
    cases hr:rightB x (nth l k) with
    | false =>
     refine C6 ?_;exact ⟨.tup [.p (RQ DO),.p (.int .i64 2)],[],Weak.mk (by simp (disch:=omega) only [DO,Jt,Zk,go_sem,seval]),_,_,.inr (.inl ⟨Za,⟨_,ZN hk2,hr⟩,rfl,rfl⟩),rfl,rfl⟩
    | true =>
     refine Ks ?_;exact ⟨k+1,⟨Za,CO hno hr⟩,Za,wk⟩
   ·have hr: ∀c∈l,rightB x c=true:=fun c hc=>by
     obtain ⟨j,hj,rfl⟩:=Z4.1 hc
     grind [Zj]
    have hC:=Li h4 h6 hl hs hr hsk hus;clear hno hk h2;refine ZI [14] [2,4,7] (fun k:Nat=> [(8,.sl 3 0 k k),(9,.p (.int .i64 k))]) (fun k=> [Zg x,IC DO,Vd x lc l DO,.elems 1 ((List.replicate k (-1:Int)).map eI)]) (fun k=>k<=x.orders.length) (fun k=>x.orders.length-k) 0 Zb (Weak.ofNil 8 1 (by simp (disch:=omega) only [go_sem,seval]) Zb (Weak.mk ?_)) ?_
    ·simp (disch:=omega) only [Zg,IC,Vd,DO,Jt,Zk,List.replicate_zero,ZH,go_sem,seval]
    ·intro k hk;simp (disch:=omega) only [Zg,IC,Vd,DO,Jt,Zk,go_sem,seval];refine cD ?_ ?_<;>intro h2<;>simp (disch:=omega) only [Sh.out h2,go_sem,seval,↓reduceIte]
     ·have hk2:k<x.orders.length:=Za
      have hrp:(List.replicate k (-1:Int))++ [-1]=List.replicate (k+1) (-1):=by rw [List.replicate_succ']
      simp (disch:=omega) only [List.length_replicate,go_sem,seval];rw [if_pos ⟨Za,Za⟩];refine X8 ?_;exact ⟨k+1,Za,Za,Weak.mk (by simp (disch:=omega) only [<- hrp,Xm,Zu,Zk,go_sem,seval])⟩
     ·have hkn:k=x.orders.length:=Za
      subst hkn;refine Zp (Weak.fz (o:=3) (by rfl)) ?_;refine Zf [] _ _ _ _ ?_;simp (disch:=omega) only [Zu,Zk,X7,Z9,List.length_replicate,eq_self,go_sem,seval];have ht:=P0 x lc l hC x.orders.length (List.replicate x.orders.length (-1)) 0 DO (ZM _) PM Za Za (fun h=>by cases h);rw [Nat.sub_self] at ht;obtain ⟨B,hB⟩: ∃B,B=Hc x l:=⟨_,rfl⟩;rw [show (B8 x l x.orders.length (List.replicate x.orders.length (-1)) 0).foldl (Vz l) DO=B from hB.symm] at ht;refine ACalls.mono (((ht.mono fun y H' hq=>(⟨hq,by grind⟩:_/\H'.length= [Vd x lc l DO].length)).front (by rfl) (by rfl) [.dead]).back [Zg x,IC DO] (by rfl)) ?_
      rintro y H' ⟨y1,H1,⟨H2,⟨rfl,rfl⟩,rfl⟩,rfl,rfl⟩;obtain ⟨f,bp,bc⟩:=B
      cases f with
      | false =>
       simp (disch:=omega) only [shV,shVs,shO,Vd,Zg,IC,DO,Zu,Zk,Xu,ZF,Jt,go_sem,seval];exact ⟨.tup [.p (RQ DO),.p (.int .i64 24)],[],Weak.mk (by simp (disch:=omega) only [DO,Jt,Zk,go_sem,seval]),_,_,.inr (.inr ⟨Za,hr,.inl ⟨by rw [<- hB],rfl,rfl⟩⟩),rfl,rfl⟩
      | true =>
       simp (disch:=omega) only [shV,shVs,shO,Vd,Zg,IC,DO,Zu,Zk,Xu,ZF,X1,go_sem,seval];exact ⟨.tup [.p (RQ ⟨true,bp,bc⟩),.p (.int .i64 0)],[],Weak.mk (by simp (disch:=omega) only [X1,go_sem,seval]),_,_,.inr (.inr ⟨Za,hr,.inr ⟨by rw [<- hB],hB,rfl⟩⟩),rfl,rfl⟩
theorem eA {l:List Col} {x y:Int} (hx: -1<=x) (hy: -1<=y) (h:ky l x=ky l y):(x<0->x=y)/\(y<0->x=y)/\(0<=x->0<=y/\(nth l x.toNat).typ=(nth l y.toNat).typ/\(nth l x.toNat).set=(nth l y.toNat).set):=by
 unfold ky at h
 grind
theorem Cf {l:List Col} : ∀ {a b:List Int},a.length=b.length->(∀t,t<a.length-> -1<=nth a t/\ -1<=nth b t/\ky l (nth a t)=ky l (nth b t))->JJ l a b=none
 | [],[],_,_=>I3
 | [],_::_,h,_=>by simp at h
 | _::_,[],h,_=>by simp at h
 | x::a,y::b,hl,h=>by
  have ih:=Cf (l:=l) (a:=a) (b:=b) (by grind) fun t ht=>h (t+1) (by grind);obtain ⟨h1,h2,h3⟩:=h 0 Zb;obtain ⟨k1,k2,k3⟩:=eA (show-1<=x from h1) (show-1<=y from h2) h3;rw [JJ]
  grind
theorem OU {l:List Col} : ∀ {a b:List Int} {i:Nat},a.length=b.length->i<a.length->(∀t,t<a.length-> -1<=nth a t/\ -1<=nth b t)->(∀t,t<i->ky l (nth a t)=ky l (nth b t))->dZ (ky l (nth a i)) (ky l (nth b i))->JJ l a b=some true/\JJ l b a=some false
 | [],_,_,_,h,_,_,_=>by simp at h
 | _::_,[],_,h,_,_,_,_=>by simp at h
 | x::a,y::b,0,_,_,hr,_,h=>by
  obtain ⟨h1,h2⟩:=hr 0 Zb;have h':dZ (ky l x) (ky l y):=h
  have hne:x≠y:=fun e=>by grind [dZ]
  rw [JJ,JJ,if_neg hne,if_neg (Ne.symm hne)];unfold ky dZ at h'
  grind
 | x::a,y::b,i+1,hl,hi,hr,he,h=>by
  have ih:=OU (l:=l) (a:=a) (b:=b) (i:=i) (by grind) (by grind) (fun t ht=>hr (t+1) (by grind)) (fun t ht=>he (t+1) Za) h;obtain ⟨h1,h2⟩:=hr 0 Zb;have h3:ky l x=ky l y:=he 0 Za;obtain ⟨k1,k2,k3⟩:=eA (show-1<=x from h1) (show-1<=y from h2) h3;rw [JJ,JJ]
  grind
theorem OV : ∀ {a b:List Int},a.length=b.length->(∀t,t<a.length->nth a t<=nth b t)->a=b\/(Da a b=true/\Da b a=false)
 | [],[],_,_=> .inl rfl
 | [],_::_,h,_=>by simp at h
 | _::_,[],h,_=>by simp at h
 | x::a,y::b,hl,h=>by
  have h0:x<=y:=h 0 Zb;rw [Da,Da]
  by_cases hxy:x=y
  ·subst hxy;rw [if_pos rfl,if_pos rfl];rcases OV (a:=a) (b:=b) (by grind) (fun t ht=>h (t+1) (by grind)) with e | e
   ·grind
   grind
  grind
theorem tV {x:Inst} {l:List Col} {a b:List Int} (ha:RngA x l a) (hb:RngA x l b) (h:KL x.orders.length l a b):a=b\/(D1 l a b=true/\D1 l b a=false):=by
 have hl:a.length=b.length:=by rw [ha.1,hb.1]
 have hr: ∀t,t<a.length-> -1<=nth a t/\ -1<=nth b t:=fun t ht=>⟨(ha.2 t (by rw [<- ha.1];exact ht)).1,(hb.2 t (by rw [<- ha.1];exact ht)).1⟩;rcases h with ⟨i,hi,he,hlt⟩ | h
 ·obtain ⟨h1,h2⟩:=OU hl (by rw [ha.1];exact hi) hr he hlt
  grind [Qu]
 ·have h1:=Cf (l:=l) hl fun t ht=>⟨(hr t ht).1,(hr t ht).2,(h t (by rw [<- ha.1];exact ht)).1⟩;have h2:=Cf (l:=l) hl.symm fun t ht=>⟨(hr t Za).2,(hr t Za).1,((h t (by rw [<- hb.1];exact ht)).1).symm⟩;rcases OV hl fun t ht=>(h t (by rw [<- ha.1];exact ht)).2 with e | ⟨e1,e2⟩
  ·exact .inl e
  grind [F0]
def Prf (l:List Col) (P:List Int) (W:Int) (q:List Int×Int):Prop:=W<=q.2/\(q.2=W->P=q.1\/(D1 l P q.1=true/\D1 l q.1 P=false))
theorem MN {l:List Col} {P:List Int} {W:Int} : ∀ {L:List (List Int×Int)},(∀q∈L,Prf l P W q)->L.foldl (Vz l) ⟨true,P,W⟩=⟨true,P,W⟩
 | [],_=>rfl
 | q::L,h=>by
  have e:Vz l ⟨true,P,W⟩ q=⟨true,P,W⟩:=by
   obtain ⟨h1,h2⟩:=h q Zb;unfold Vz
   split
   ·rename_i hc;rcases hc with hc | hc | ⟨hc,hd⟩
    ·cases hc
    ·simp only at hc;omega
    ·simp only at hc hd;rcases h2 hc with e | ⟨_,e⟩
     ·rw [<- e,hc]
     ·rw [e] at hd;cases hd
   ·rfl
  rw [Qc,e];exact MN fun q hq=>h q (Yv _ hq)
theorem G0 {l:List Col} {P:List Int} {W:Int} : ∀ {L:List (List Int×Int)} {b:Chc},(b.found=false\/Prf l P W (b.places,b.price))->(∀q∈L,Prf l P W q)->(P,W)∈L->L.foldl (Vz l) b=⟨true,P,W⟩
 | [],_,_,_,hm=>by simp at hm
 | q::L,b,hb,h,hm=>by
  rw [Qc];have hq:=h q Zb;have hL: ∀q∈L,Prf l P W q:=fun q hq=>h q (Yv _ hq)
  by_cases e:q=(P,W)
  ·have:Vz l b q=⟨true,P,W⟩:=by
    subst e;unfold Vz
    split
    ·rfl
    ·rename_i hc;rcases hb with hb | ⟨h1,h2⟩
     ·grind
     ·simp only at h1 h2 hc
      have h3:b.price=W:=by
       omega
      rcases h2 h3 with e | ⟨e,_⟩
      ·obtain ⟨f,bp,bc⟩:=b
       grind
      grind
   grind [MN]
  ·refine G0 ?_ hL (by
    rcases Yj.1 hm with h | h
    ·exact absurd h.symm e
    ·exact h)
   unfold Vz
   split
   ·exact .inr hq
   ·exact hb
theorem Pd {x:Inst} {l ys:List Col} (hc:Ctx x l ys) {D:Nat} (hD:10<D): ∀(d k:Nat) (s:St) (a:List Int) (p:Int),k+d=x.orders.length->Nd x l a s k->0<=Lx x ys D s->(gr x l ys D d k s a,p+Lx x ys D s)∈B8 x l d a p
 | 0,k,s,a,p,hd,ha,h0=>by
  rw [TI (by rw [ha.ix];omega),VX,gr,B8];simp
 | d+1,k,s,a,p,hd,ha,h0=>by
  have hk:k<x.orders.length:=Za
  have hkd:x.orders.length-(d+1)=k:=Za
  rw [B8,hkd,gr]
  split
  ·rename_i ho;rw [OC hc ha hk ho] at h0 ⊢;exact Pd hc hD d (k+1) _ a p Za (ha.skip' hk) h0
  ·rename_i ho
   have hoff:(nth x.orders k).off=false:=by
    cases e:(nth x.orders k).off with
    | false=>rfl
    | true=>exact absurd (.inl e) ho
   have hak:nth a k<0:=Int.not_le.1 fun g=>ho (.inr g)
   have hcv:s.cov.toNat.testBit k=false:=by rw [ha.cov k hk];exact Xn Za
   rw [Xd,Uq]
   cases hf:(Yb ys k).find? (Kn x ys D s) with
   | some c =>
    left
    have hsel:=Jy hf;simp only [Kn,ZG,Zr] at hsel;obtain ⟨p1,p2,p3⟩:=Jz hc ha hk (YN hf) hsel.1;have hch:=ha.child hc hk p1 p3;rw [p2] at hch;refine ⟨AI l c,Xc.2 p1,?_⟩;rw [if_pos p3,p2];have:=Pd hc hD d (k+1) _ _ (p+c.price) Za hch hsel.2.1;rw [show p+c.price+Lx x ys D (K5 s c)=p+Lx x ys D s by omega] at this;exact this
   | none =>
    right
    rw [KT] at hf;have hdec:=MW hc hD ha.v ha.ix hk hoff hcv;have hno: ∀c∈Yb ys k,Yp x s c=true->0<=Lx x ys D (K5 s c)->c.price+Lx x ys D (K5 s c)≠Lx x ys D s:=fun c hm hy hL e=>hf c hm (by simp only [Kn,hy,XQ hL,XQ e,Bool.and_self]);obtain ⟨s1,s2⟩:=hc.sk k hk hoff;have hfold:=Gg (x:=x) (s:=s) (r:=fun c=>Lx x ys D (K5 s c)) (l:=Yb ys k) (a:= -1)
    by_cases hs:0<=skpF x k
    ·rw [if_pos (s1.2 hs),<- s2 hs];rw [if_pos hs] at hdec;unfold YK at hdec
     split at hdec
     ·rename_i hb;have:=Pd hc hD d (k+1) _ a (p+skpF x k) Za (ha.skip' hk) hb.1;rw [show p+skpF x k+Lx x ys D (Fm s)=p+Lx x ys D s by omega] at this;exact this
     ·exfalso;rcases hfold with e | ⟨c,h1,h2,h3,h4⟩
      ·unfold YK at e;omega
      ·exact hno c h1 h2 h3 (by rw [hdec];exact h4.symm)
    ·exfalso;rw [if_neg hs] at hdec;rcases hfold with e | ⟨c,h1,h2,h3,h4⟩
     ·omega
     ·exact hno c h1 h2 h3 (by rw [hdec];exact h4.symm)
def PN (l:List Col) (g:List Int) (T:Nat):Nat->List Col
 | 0=> []
 | i+1=>PN l g T i++(if 0<=nth g i/\(nth l (nth g i).toNat).typ=T/\(nth l (nth g i).toNat).set%(pw i:Nat)=0 then [nth l (nth g i).toNat] else [])
def IE (l:List Col) (g:List Int) (n:Nat):Nat->List Col
 | 0=> []
 | T+1=>IE l g n T++PN l g T n
def TF (x:Inst) (g:List Int):Nat->List Int
 | 0=> []
 | i+1=>TF x g i++(if nth g i<0/\(nth x.orders i).off=false then [(i:Int)] else [])
theorem Ii {l:List Col} {g:List Int} {T:Nat} : ∀k,(PN l g T k).length<=k
 | 0=>ZM _
 | k+1=>by
  have:=Ii (l:=l) (g:=g) (T:=T) k;rw [PN,ZQ];split<;>simp<;>omega
theorem Ij {l:List Col} {g:List Int} {n:Nat} : ∀T,(IE l g n T).length<=T*n
 | 0=>by simp [IE]
 | T+1=>by
  have:=Ij (l:=l) (g:=g) (n:=n) T;have:=Ii (l:=l) (g:=g) (T:=T) n;rw [IE,ZQ,YI];omega
theorem Iv {x:Inst} {g:List Int} : ∀k,(TF x g k).length<=k
 | 0=>ZM _
 | k+1=>by
  have:=Iv (x:=x) (g:=g) k;rw [TF,ZQ];split<;>simp<;>omega
def kH (x:Inst) (l:List Col) (p:Pln) (c e:Int):Prop:= ∃b,tU x l b e/\(e≠0->p=zPlC/\c=0)/\(e=0->c=b.price/\p=⟨false,(IE l b.places b.places.length x.types.length).map (·.route),false,TF x b.places b.places.length⟩)
def TD (v w:V):AM.Obj:= .cells [v,w]
theorem Ld (x:Inst) (l:List Col) (lc:Bool) (h4:x.orders.length<=4) (h6:x.types.length<=6) (hl:l.length<=1048576) (hs: ∀c∈l,c.set<9223372036854775808)
  (hsk: ∀k,k<x.orders.length->(nth x.orders k).off=false->0<=(nth x.orders k).penalty->0<=skR x k/\skR x k<=18014398509481984) (hus: ∀i,scoR 1152921504606846976 (unsF x i).1) :
  ACalls Tryz.prog 66 [.p (Zv x),.p (.list lc (l.map Xz))] [] fun y H'=> ∃p c e,kH x l p c e/\y= .tup [.p (Wk p),.p (.int .i64 c),.p (.int .i64 e)]/\H'= []:=by
 refine Ze [18] Tryz.func66 rfl ZhQ ?_;simp (disch:=omega) only [Tryz.f66,go_sem,seval];refine ((Nq x l lc h4 h6 hl hs hsk hus).behind (by rfl) _).mono ?_;rintro y H' ⟨y1,H1,⟨b,e,hb,rfl,rfl⟩,rfl,rfl⟩;simp (disch:=omega) only [shV,shVs,Zk,go_sem,seval];refine cD ?_ ?_<;>intro h1<;>simp (disch:=omega) only [Sh.out h1,go_sem,seval,↓reduceIte]
 ·exact ⟨.tup [.p (Wk zPlC),.p (.int .i64 0),.p (.int .i64 e)],[],Weak.mk (by simp (disch:=omega) only [zPlC,Zk,go_sem,seval]),_,_,_,⟨b,hb,fun _=>⟨rfl,rfl⟩,fun h=>absurd h h1⟩,rfl,rfl⟩
 ·have he:e=0:=Za
  subst he;have hcv:=hb;rcases hb with ⟨_,_,h⟩ | ⟨_,_,_,h⟩ | ⟨hl2,hr,⟨_,_,h⟩ | ⟨hf,rfl,_⟩⟩
  ·cases h
  ·cases h
  ·cases h
  ·have hC:=Li h4 h6 hl hs hr hsk hus;have hrg:RngA x l (Hc x l).places:=(Ix (x:=x) (l:=l) (b:=DO) (fun h=>by cases h) (K3 x.orders.length PM)) hf;obtain ⟨⟨f,g,c⟩,hB⟩: ∃B,B=Hc x l:=⟨_,rfl⟩;rw [<- hB] at hcv hf hrg ⊢;simp only at hf hrg;subst hf;have hgl:g.length=x.orders.length:=hrg.1;refine Zi [1,2,4,7,9] (fun T:Nat=> [(10,.p (.int .i64 T))]) (fun T=> [Zg x,TD (.p (.list true [])) (.p (.list true [])),IC ⟨true,g,c⟩,TD (.sl 4 0 (IE l g g.length T).length (IE l g g.length T).length) (.p (.list true [])),.elems 4 ((IE l g g.length T).map fun c=>Z0 c.route)]) (fun T=>T<=x.types.length) (fun T=>x.types.length-T) 0 Zb ((Weak.nilC (o:=3) (j:=0) 4 (by rfl) (by rfl) Zb).trans (Weak.mk ?_)) ?_
   ·simp (disch:=omega) only [Zg,TD,IC,X1,IE,Zk,ZH,X7,Z9,go_sem,seval]
   ·intro T hT;obtain ⟨R,hR⟩: ∃R,R=IE l g g.length T:=⟨_,rfl⟩;have hRl:=Ij (l:=l) (g:=g) (n:=g.length) T;rw [<- hR] at hRl ⊢
    have hRs:IE l g g.length (T+1)=R++PN l g T g.length:=by rw [hR];rfl
    have hTn:T*g.length<=6*4:=Jr Za Za;simp (disch:=omega) only [Zg,TD,IC,X1,go_sem,seval];refine cD ?_ ?_<;>intro h2<;>simp (disch:=omega) only [Sh.out h2,go_sem,seval,↓reduceIte]
    ·obtain ⟨W,hW⟩: ∃W:Nat->List Col,W=fun i=>R++PN l g T i:=⟨_,rfl⟩
     have hW0:W 0=R:=by grind [PN]
     have hWn:IE l g g.length (T+1)=W g.length:=by rw [hRs,hW]
     have hWl: ∀i,(W i).length<=R.length+i:=fun i=>by
      grind [Ii]
     have hWs: ∀i,W (i+1)=W i++(if 0<=nth g i/\(nth l (nth g i).toNat).typ=T/\(nth l (nth g i).toNat).set%(pw i:Nat)=0 then [nth l (nth g i).toNat] else []):=fun i=>by grind [PN]
     clear hW hRs;refine Zi [1,2,4,7,9,10] (fun i:Nat=> [(11,.p (.int .i64 i))]) (fun i=> [Zg x,TD (.p (.list true [])) (.p (.list true [])),IC ⟨true,g,c⟩,TD (.sl 4 0 (W i).length (W i).length) (.p (.list true [])),.elems 4 ((W i).map fun c=>Z0 c.route)]) (fun i=>i<=g.length) (fun i=>g.length-i) 0 Zb (Weak.mk ?_) ?_
     ·simp (disch:=omega) only [Zg,TD,IC,X1,hW0,go_sem,seval]
     ·intro i hi
      have hQl:(W i).length<=28:=by grind
      have hQs:=hWs i;simp (disch:=omega) only [Zg,TD,IC,X1,go_sem,seval];refine ZB ?_ ?_<;>intro h3
      ·have hi2:i<g.length:=Za
       have hri:=hrg.2 i Za;refine Z6 (X8 ?_);refine Jd ?_ ?_<;>intro h5
       ·have hj:(nth g i).toNat<l.length:=Za
        obtain ⟨⟨t0,t1⟩,⟨c0,c1⟩,S,hS,hS2⟩:=hC.col _ (ZN hj);refine Jd ?_ ?_<;>intro h7
        ·have hpp:0<pw i/\pw i<=pw 4:=⟨N9 i,QN Za⟩;refine Zq (Hq i Za) (X8 ?_);rw [hS];refine ZB ?_ ?_<;>intro h8
         ·rw [if_pos ⟨h5,h7,by grind⟩] at hQs;refine Z3 12 mixed Zd Zd ?_;refine X8 ?_;exact ⟨i+1,Za,Za,Weak.mk (by simp (disch:=omega) only [hQs,Xm,Zu,Zk,ZQ,Zs,ZH,XV,go_sem,seval])⟩
         ·rw [if_neg (fun h=>h8 (by grind)),Wc] at hQs;exact ⟨i+1,Za,Za,Weak.mk (by simp (disch:=omega) only [hQs,go_sem,seval])⟩
        ·rw [if_neg (fun h=>h7 h.2.1),Wc] at hQs;exact ⟨i+1,Za,Za,Weak.mk (by simp (disch:=omega) only [hQs,go_sem,seval])⟩
       ·rw [if_neg (fun h=>h5 h.1),Wc] at hQs;exact ⟨i+1,Za,Za,Weak.mk (by simp (disch:=omega) only [hQs,go_sem,seval])⟩
      ·have hig:i=g.length:=Za
       subst hig;exact ⟨T+1,Za,Za,Weak.mk (by simp (disch:=omega) only [hWn,go_sem,seval])⟩
    ·have hTt:T=x.types.length:=Za
     subst hTt;refine ZI [18] [2,4,7,9] (fun i:Nat=> [(12,.p (.int .i64 i))]) (fun i=> [Zg x,TD (.p (.list true [])) (.p (.list true [])),IC ⟨true,g,c⟩,TD (.sl 4 0 R.length R.length) (.sl 5 0 (TF x g i).length (TF x g i).length),.elems 4 (R.map fun c=>Z0 c.route),.elems 1 ((TF x g i).map eI)]) (fun i=>i<=g.length) (fun i=>g.length-i) 0 Zb ((Weak.nilC (o:=3) (j:=1) 1 (by rfl) (by rfl) Zb).trans (Weak.mk ?_)) ?_
     ·simp (disch:=omega) only [Zg,TD,IC,X1,TF,Zk,ZH,X7,Z9,go_sem,seval]
     ·intro i hi;obtain ⟨U,hU⟩: ∃U,U=TF x g i:=⟨_,rfl⟩;have hUl:=Iv (x:=x) (g:=g) i
      have hUs:TF x g (i+1)=U++(if nth g i<0/\(nth x.orders i).off=false then [(i:Int)] else []):=by rw [hU];rfl
      rw [<- hU] at hUl ⊢;simp (disch:=omega) only [Zg,TD,IC,X1,go_sem,seval];refine cD ?_ ?_<;>intro h3<;>simp (disch:=omega) only [Sh.out h3,go_sem,seval,↓reduceIte]
      ·have hi2:i<g.length:=Za
       refine Jd ?_ ?_<;>intro h5
       ·cases ho:(nth x.orders i).off with
        | true =>
         rw [if_neg (by rw [ho];simp),Wc] at hUs;refine Ks ?_;exact ⟨i+1,Za,Za,Weak.mk (by simp (disch:=omega) only [hUs,go_sem,seval])⟩
        | false =>
         rw [if_pos ⟨h5,ho⟩] at hUs;refine C6 ?_;exact ⟨i+1,Za,Za,Weak.mk (by simp (disch:=omega) only [hUs,Xm,Zu,Zk,ZQ,Zs,ZH,XV,go_sem,seval])⟩
       ·rw [if_neg (fun h=>h5 h.1),Wc] at hUs;exact ⟨i+1,Za,Za,Weak.mk (by simp (disch:=omega) only [hUs,go_sem,seval])⟩
      ·have hig:i=g.length:=Za
       subst hig;refine Zp (Weak.fz (o:=4) (by rfl)) ?_;refine Zp (Weak.fz (o:=5) (by rfl)) ?_;refine Zf [] _ _ _ _ ?_;simp (disch:=omega) only [Zu,Zk,X7,Z9,eq_self,go_sem,seval];refine Q8 [3] [1,2] [2] 4 mixed Zd Zd Zd Zd Zb (X8 ?_);refine ⟨fun q hq p' hp=> ?_,?_⟩
       ·simp only [Yj,Jp,or_false] at hq;rcases hq with rfl | rfl
        ·obtain rfl:7=p':=Vt hp;exact WW (by decide)
        ·obtain rfl:114=p':=Vt hp;exact WW (by decide)
       ·refine LM 3 _ _ Zd (by refine X8 ?_;exact ⟨rfl,rfl⟩) ?_;refine ⟨fun k hk=>by simp at hk;subst hk;rfl,HS ?_⟩;refine X8 ?_;exact ⟨.tup [.p (Wk ⟨false,R.map (·.route),false,U⟩),.p (.int .i64 c),.p (.int .i64 0)],[],Weak.mk (by simp (disch:=omega) only [List.map_map,Function.comp_def,go_sem,seval]),_,_,_,⟨_,hcv,fun h=>absurd rfl h,fun _=>⟨rfl,by rw [hR,hU]⟩⟩,rfl,rfl⟩
theorem Ed {α:Type} {p q:α->Bool} : ∀ {l:List α},(∀a∈l,p a=q a)->l.find? p=l.find? q
 | [],_=>rfl
 | a::l,h=>by
  rw [List.find?_cons,List.find?_cons,h a Zb,Ed fun a ha=>h a (Yv _ ha)]
def RA (l:List Col) (g:List Int):Nat->Nat->List Col
 | 0,_=> []
 | d+1,k=>(if 0<=nth g k/\Ag (nth l (nth g k).toNat).set.toNat=(k:Int) then [nth l (nth g k).toNat] else [])++RA l g d (k+1)
def UA (x:Inst) (g:List Int):Nat->Nat->List Int
 | 0,_=> []
 | d+1,k=>(if nth g k<0/\(nth x.orders k).off=false then [(k:Int)] else [])++UA x g d (k+1)
theorem pQ {x:Inst} {l ys:List Col} (hc:Ctx x l ys) {D:Nat} (hD:D=20) {s:St} {k:Nat} (hv:StV x.orders.length s) (hk:s.ix=k) (hkn:k<x.orders.length) (ho:(nth x.orders k).off=false) (hcv:s.cov.toNat.testBit k=false) {c:Col} (hm:c∈Yb ys k) :
  In x.orders.length (mI x) x (fstF x.orders.length ys) (skF x x.orders.length) s c=Kn x ys D s c:=by
 have hn:=hc.n4;have e1:=CJ (n:=x.orders.length) hk (m:=mI x) (by grind [Ev]) (by grind [A7]);have e2:=Fe (m:=mI x) hk hkn hn (Kh hc hkn hm).2.2.2
 grind [In,Kn,Lx]
theorem DH {x:Inst} {l ys:List Col} (hc:Ctx x l ys) {D:Nat} (hD:D=20): ∀(d k:Nat) (s:St) (a:List Int) (f:Nat),k+d=x.orders.length->d<f->Nd x l a s k ->
  Yf x.orders.length (mI x) x (fstF x.orders.length ys) (skF x x.orders.length) f (W0 x.orders.length (mI x) s)=(RA l (gr x l ys D d k s a) d k,UA x (gr x l ys D d k s a) d k)
 | 0,k,s,a,0,_,hf,_=>Za
 | 0,k,s,a,f+1,hd,_,h=>by
  rw [Yf,if_pos,RA,UA];simp only [W0];have:=BV (n:=x.orders.length) (m:=mI x) (cov:=s.cov) (x.orders.length-s.ix.toNat) s.ix.toNat;have:=h.ix;omega
 | d+1,k,s,a,0,_,hf,_=>Za
 | d+1,k,s,a,f+1,hd,hf,h=>by
  have hk:k<x.orders.length:=Za
  have hn:=hc.n4;rw [gr]
  split
  ·rename_i ho;have hsk:=ho.imp (fun e=>show sHas (mI x) k=false by grind [Ev]) (fun e=>show sHas s.cov k=true by rw [A7 h.v Za,h.cov k hk];grind);rw [CI h.ix hk hsk,DH hc hD d (k+1) (Fm s) a (f+1) Za Za (h.skip' hk)];have hg:=(Cl hc (D:=D) d (k+1) (Fm s) a Za (h.skip' hk)).2 k hk (.inl Za);rw [RA,UA,hg,if_neg,if_neg,ZF,ZF]
   ·grind
   ·rintro ⟨g1,g2⟩;obtain ⟨t,t1,t2⟩:=h.old k hk (ZM _) g1;have hr:=h.rng k hk;obtain ⟨_,s0,s1,_⟩:=hc.set (ZN (l:=l) (i:=(nth a k).toNat) Za);have:=((Ou s0 s1 hn hk).1 g2).2 t Za t2;omega
  ·rename_i ho
   have hoff:(nth x.orders k).off=false:=by
    grind
   have hak:nth a k<0:=Int.not_le.1 fun g=>ho (.inr g)
   have hcv:s.cov.toNat.testBit k=false:=by rw [h.cov k hk];grind
   rw [CJ h.ix (by grind [Ev]) (by rw [A7 h.v Za,hcv]),Yf,if_neg (by rw [h.ix];omega)]
   have e2:nth (fstF x.orders.length ys) s.ix.toNat=Yb ys k:=by rw [h.ix,XU,LX,if_pos hk]
   rw [e2,Ed (q:=Kn x ys D s) fun c hm=>pQ hc hD h.v h.ix hk hoff hcv hm]
   cases hfd:(Yb ys k).find? (Kn x ys D s) with
   | some c =>
    have hsel:=Jy hfd;have hm:=YN hfd;simp only [Kn,ZG] at hsel;obtain ⟨p1,p2,p3⟩:=Jz hc h hk hm hsel.1;have hch:=h.child hc hk p1 p3;obtain ⟨c1,c2⟩:=A3 h.len p3;rw [p2] at hch c1 c2;have hg:=(Cl hc (D:=D) d (k+1) (K5 s c) _ Za hch).2 k hk (.inl Za);rw [XL (by rw [h.len];exact hk),if_pos c1] at hg;simp only;rw [Fe h.ix hk hn (Kh hc hk hm).2.2.2,DH hc hD d (k+1) (K5 s c) _ f Za Za hch,RA,UA,hg,if_pos ⟨Za,by rw [XU,p2];exact (Kh hc hk hm).2.2.1⟩,if_neg Za,XU,p2]
    rfl
   | none =>
    have hg:=(Cl hc (D:=D) d (k+1) (Fm s) a Za (h.skip' hk)).2 k hk (.inl Za);simp only;have e3:Cw x.orders.length (mI x) s=W0 x.orders.length (mI x) (Fm s):=rfl;rw [e3,DH hc hD d (k+1) (Fm s) a f Za Za (h.skip' hk),RA,UA,hg,if_neg Za,if_pos ⟨hak,hoff⟩,h.ix]
    rfl
theorem G7 {l:List Col} {g:List Int} {c:Col} : ∀(d k:Nat),c∈RA l g d k↔ ∃i,k<=i/\i<k+d/\0<=nth g i/\Ag (nth l (nth g i).toNat).set.toNat=(i:Int)/\c=nth l (nth g i).toNat
 | 0,k=>by simp [RA];omega
 | d+1,k=>by
  rw [RA,Xd,G7 d (k+1)]
  constructor
  ·rintro (h | ⟨i,h1,h2,h3⟩)
   ·split at h
    ·grind
    ·simp at h
   grind
  grind
theorem TJ {l:List Col} {g:List Int} : ∀(d k:Nat),(RA l g d k).Pairwise fun a b=>Ag a.set.toNat<Ag b.set.toNat
 | 0,k=> .nil
 | d+1,k=>by
  rw [RA,DB];refine ⟨?_,TJ d (k+1),fun a ha b hb=> ?_⟩
  ·split<;>simp
  ·split at ha
   ·rename_i hh;obtain ⟨i,h1,h2,h3,h4,rfl⟩:=(G7 _ _).1 hb
    grind
   ·simp at ha
theorem OD {x:Inst} {g:List Int} : ∀(d k:Nat),UA x g (d+1) k=UA x g d k++(if nth g (k+d)<0/\(nth x.orders (k+d)).off=false then [((k+d:Nat):Int)] else [])
 | 0,k=>by simp [UA]
 | d+1,k=>by
  rw [UA,OD d (k+1),UA,VV,show k+1+d=k+(d+1) by omega]
theorem TL {x:Inst} {g:List Int} : ∀n,UA x g n 0=TF x g n
 | 0=>rfl
 | n+1=>by rw [OD,TL n,TF,XV]
theorem Zb1 : ∀S:Fin 16,0<S.val-> ∀i:Fin 4,S.val.testBit i.val=true->((S.val:Int)%(pw i.val:Nat)=0↔Ag S.val=(i.val:Int)):=by decide+kernel
theorem Ad {l:List Col} {g:List Int} {T:Nat} {c:Col} : ∀k,c∈PN l g T k↔ ∃i,i<k/\0<=nth g i/\(nth l (nth g i).toNat).typ=T/\(nth l (nth g i).toNat).set%(pw i:Nat)=0/\c=nth l (nth g i).toNat
 | 0=>by simp [PN]
 | k+1=>by
  rw [PN,Xd,Ad k]
  constructor
  ·grind
  grind
theorem Ik {l:List Col} {g:List Int} {n:Nat} {c:Col} : ∀T,c∈IE l g n T↔ ∃t,t<T/\c∈PN l g t n
 | 0=>by simp [IE]
 | T+1=>by
  rw [IE,Xd,Ik T]
  grind
theorem tP {x:Inst} (hx:InstOk x) {k:Nat} (hk:k<x.orders.length) (ho:(nth x.orders k).off=false):(0<=(nth x.orders k).penalty↔0<=skpF x k)/\(0<=skpF x k->skpF x k=skR x k):=by
 have ha:=(hx.orders.2 k hk).arg;simp only [argOk,rng,ZG,Zr] at ha
 have e:unsF x k=if (nth x.orders k).penalty= -1 then (zSco,23) else (⟨(nth x.orders k).penalty,if (nth x.orders k).now= -1 then 0 else 1,0,0⟩,0):=by
  simp_all [unsF,if_neg]
 by_cases hp:(nth x.orders k).penalty= -1
 ·simp_all [skpF]
 ·have hm:(if (nth x.orders k).now= -1 then (0:Int) else 1)=0\/(if (nth x.orders k).now= -1 then (0:Int) else 1)=1:=Za
  have e2:skpF x k=skR x k/\0<=skR x k:=by
   rw [skpF,skR,e,if_neg hp];generalize (if (nth x.orders k).now= -1 then (0:Int) else 1)=m at hm
   have:Wn ⟨(nth x.orders k).penalty,m,0,0⟩=((((nth x.orders k).penalty*16+m)*16+0)*65536+0,0):=by
    rw [Wn,if_neg (by grind),if_neg (by grind)]
   grind
  omega
theorem bI {x:Inst} {l ys:List Col} (hx:InstOk x) (hn:x.orders.length<=4) (hC:Cheap l ys) (hr: ∀c∈l,rightB x c=true) (hs: ∀c∈l,c.set<9223372036854775808):Ctx x l ys :=
 have hok:=O1 hx hn hC hr hs
 ⟨hn,hok.typ.1,hC,hr,hs,hok,fun _ hk ho=>tP hx hk ho⟩
theorem P3 {l:List Col} {n:Nat} {T:Int} : ∀m,m<=n->usdI l (List.replicate n (-1)) T m=0
 | 0,_=>rfl
 | m+1,h=>by
  rw [usdI,P3 m Za,B1,HZ Za,Xn Za];rfl
theorem PD (x:Inst) (l:List Col):Nd x l (List.replicate x.orders.length (-1)) zSt 0:=by
 have hz: ∀i,i<x.orders.length->nth (List.replicate x.orders.length (-1:Int)) i= -1:=fun i hi=>HZ hi;refine ⟨Zb,rfl,tT _,fun i hi=> ?_,fun i hi=>by grind,fun T hT=> ?_,fun i hi h=>by grind,fun i hi _ h=>by grind,fun i hi h=>by grind⟩
 ·simp_all [zSt]
 ·rw [P3 _ (ZM _)]
  have:T=0\/T=1\/T=2\/T=3\/T=4\/T=5:=Za
  rcases this with rfl | rfl | rfl | rfl | rfl | rfl<;>rfl
theorem Nd.RngA {x:Inst} {l:List Col} {a:List Int} {s:St} {k:Nat} (h:Nd x l a s k):RngA x l a:=⟨h.len,h.rng⟩
theorem LD {x:Inst} {l ys:List Col} (hc:Ctx x l ys) {D:Nat} : ∀(d k:Nat) (s:St) (a:List Int),k+d=x.orders.length->Nd x l a s k-> ∃s',Nd x l (gr x l ys D d k s a) s' x.orders.length
 | 0,k,s,a,hd,h=>⟨s,by grind [gr]⟩
 | d+1,k,s,a,hd,h=>by
  have hk:k<x.orders.length:=Za
  rw [gr]
  split
  ·exact LD hc d (k+1) _ _ Za (h.skip' hk)
  ·split
   ·rename_i c hf;have hsel:=Jy hf;simp only [Kn,ZG] at hsel;obtain ⟨p1,p2,p3⟩:=Jz hc h hk (YN hf) hsel.1;have hch:=h.child hc hk p1 p3;rw [p2] at hch;exact LD hc d (k+1) _ _ Za hch
   ·exact LD hc d (k+1) _ _ Za (h.skip' hk)
theorem OJ {x:Inst} {l ys:List Col} (hc:Ctx x l ys) {D:Nat} (hD:10<D) :
  (Lx x ys D zSt<0->(Hc x l).found=false)/\(0<=Lx x ys D zSt->Hc x l=⟨true,gr x l ys D x.orders.length 0 zSt (List.replicate x.orders.length (-1)),Lx x ys D zSt⟩):=by
 have hz:=PD x l;have hb:=Bh hc hD x.orders.length 0 zSt _ _ 0 Za hz hz KE.refl;obtain ⟨s',hg⟩:=LD hc (D:=D) x.orders.length 0 zSt _ Za hz
 constructor
 ·intro h
  have:B8 x l x.orders.length (List.replicate x.orders.length (-1)) 0= []:=by
   cases e:B8 x l x.orders.length (List.replicate x.orders.length (-1)) 0 with
   | nil=>rfl
   | cons q L=>grind
  rw [Hc,this];rfl
 ·intro h;have hin:=Pd hc hD x.orders.length 0 zSt _ 0 Za hz h;rw [Int.zero_add] at hin;refine G0 (.inl rfl) (fun q hq=> ?_) hin;obtain ⟨_,h2,h3⟩:=hb q hq;rw [Int.zero_add] at h2 h3;exact ⟨h2,fun e=>tV hg.RngA (K3 _ hz.RngA q hq) (h3 e)⟩
theorem PO {l:List Col} {g:List Int} {T n:Nat} (hdv: ∀i,i<n->0<=nth g i->((nth l (nth g i).toNat).set%(pw i:Nat)=0↔Ag (nth l (nth g i).toNat).set.toNat=(i:Int))): ∀k,k<=n->(PN l g T k).Pairwise fun a b=>mB a b<0
 | 0,_=> .nil
 | k+1,hk=>by
  rw [PN,DB];refine ⟨PO hdv k Za,by split<;>simp,fun a ha b hb=> ?_⟩
  split at hb
  ·rename_i hh
   obtain rfl:b=nth l (nth g k).toNat:=by grind
   obtain ⟨i,h1,h2,h3,h4,rfl⟩:=(Ad _).1 ha;rw [Jc,h3,hh.2.1]
   right
   refine ⟨rfl,?_⟩
   show Ag _<Ag _
   grind
  ·simp at hb
theorem PP {l:List Col} {g:List Int} {n:Nat} (hdv: ∀i,i<n->0<=nth g i->((nth l (nth g i).toNat).set%(pw i:Nat)=0↔Ag (nth l (nth g i).toNat).set.toNat=(i:Int))): ∀T,(IE l g n T).Pairwise fun a b=>mB a b<0
 | 0=> .nil
 | T+1=>by
  rw [IE,DB];refine ⟨PP hdv T,PO hdv n (ZM _),fun a ha b hb=> ?_⟩;obtain ⟨t,h1,h2⟩:=(Ik _).1 ha;obtain ⟨i,_,_,h3,_,rfl⟩:=(Ad _).1 h2;obtain ⟨j,_,_,h5,_,rfl⟩:=(Ad _).1 hb
  simp_all [Jc]
theorem SY {x:Inst} {l ys:List Col} (hc:Ctx x l ys) {g:List Int} {s:St} (hg:Nd x l g s x.orders.length) {zs:List Col} (hp:zs.Perm (RA l g x.orders.length 0)) (ha:zs.Pairwise fun a b=> ¬mB b a<0):zs=IE l g x.orders.length x.types.length:=by
 have hn:=hc.n4;have hin: ∀i,i<x.orders.length->0<=nth g i->nth l (nth g i).toNat∈l:=fun i hi h0=>ZN (by have:=hg.rng i hi;omega)
 have hdv: ∀i,i<x.orders.length->0<=nth g i->((nth l (nth g i).toNat).set%(pw i:Nat)=0↔Ag (nth l (nth g i).toNat).set.toNat=(i:Int)):=fun i hi h0=>by
  obtain ⟨e,s0,s1,_⟩:=hc.set (hin i hi h0);have h16:(nth l (nth g i).toNat).set.toNat<16:=Jv s1 (XZ (n:=2) Za hn);have:=Zb1 ⟨_,h16⟩ s0 ⟨i,Za⟩ (hg.own i hi h0)
  grind
 have hne:zs.Pairwise fun a b=>lo a≠lo b:=by
  have h1:(RA l g x.orders.length 0).Pairwise fun a b=>lo a≠lo b:=(TJ _ _).imp fun {a b} h e=>by
   have e':Ag a.set.toNat=Ag b.set.toNat:=e;omega
  exact (hp.pairwise_iff fun h e=>h e.symm).2 h1
 have hz:zs.Pairwise fun a b=>mB a b<0:=(hne.and ha).imp fun {a b} h=>by
  have h1:=h.1;have h2:=h.2;rw [Jc] at h2 ⊢;omega
 refine AP (r:=fun a b=>mB a b<0) (fun a=>by rw [Jc];omega) (fun a b=>by rw [Jc,Jc];omega) hz (PP hdv _) fun c=> ?_;rw [hp.mem_iff,G7,Ik]
 constructor
 ·rintro ⟨i,_,h1,h2,h3,rfl⟩;have ht:=(hc.typ (hin i Za h2)).1;exact ⟨(nth l (nth g i).toNat).typ.toNat,Za,(Ad _).2 ⟨i,Za,h2,Za,(hdv i Za h2).2 h3,rfl⟩⟩
 ·rintro ⟨t,_,h⟩;obtain ⟨i,h1,h2,h3,h4,rfl⟩:=(Ad _).1 h
  grind
theorem I4 {x:Inst} {ys:List Col} {D:Nat} (hD:D=20):HU x ys=Lx x ys D zSt:=by subst hD;rfl
theorem Zid {x:Inst} {l:List Col} {a e e':Int} {b:Chc} (hx:InstOk x) (hn:x.orders.length<=4) (hs: ∀c∈l,c.set<9223372036854775808) (h:Zmj x l a e) (h':tU x l b e'):a=b.price/\e=e':=by
 rcases h with ⟨g1,rfl,rfl⟩ | ⟨g1,⟨c,gc,g2⟩,rfl,rfl⟩ | ⟨g1,g2,ys,g3,rfl,rfl⟩<;>rcases h' with ⟨k1,rfl,rfl⟩ | ⟨k1,⟨c',kc,k2⟩,rfl,rfl⟩ | ⟨k1,k2,k3⟩
 ·exact ⟨rfl,rfl⟩
 ·omega
 ·omega
 ·omega
 ·exact ⟨rfl,rfl⟩
 ·grind
 ·omega
 ·grind
 ·obtain ⟨D,hD⟩: ∃D:Nat,D=20:=⟨20,rfl⟩;rw [I4 hD];obtain ⟨q1,q2⟩:=OJ (bI hx hn g3 g2 hs) (D:=D) Za;rcases k3 with ⟨f,rfl,rfl⟩ | ⟨f,rfl,rfl⟩
  ·have:Lx x ys D zSt<0:=Int.not_le.1 fun h0=>by grind
   rw [if_pos this,if_pos this];exact ⟨rfl,rfl⟩
  grind
theorem aW {x:Inst} {l:List Col} {p q:Pln} {c e c' e':Int} (hx:InstOk x) (hn:x.orders.length<=4) (hs: ∀c∈l,c.set<9223372036854775808) (h:kG x l p c e) (h':kH x l q c' e'):c=c'/\e=e'/\p.routes=q.routes/\p.unserved=q.unserved/\p.routes.length<=24/\p.unserved.length<=24/\ ∀r∈p.routes,∃c∈l,r=c.route:=by
 obtain ⟨b,hb,h1,h2⟩:=h';have z:zPlC.routes.length<=24/\zPlC.unserved.length<=24/\ ∀r∈zPlC.routes,∃c∈l,r=c.route:=⟨by simp [zPlC],by simp [zPlC],fun r hr=>by simp [zPlC] at hr⟩;rcases h with ⟨g1,rfl,rfl,rfl⟩ | ⟨g1,⟨c,gc,g2⟩,rfl,rfl,rfl⟩ | ⟨g1,g2,ys,g3,g4,g5⟩<;>rcases hb with ⟨k1,rfl,rfl⟩ | ⟨k1,⟨c',kc,k2⟩,rfl,rfl⟩ | ⟨k1,k2,k3⟩
 ·grind
 ·omega
 ·omega
 ·omega
 ·grind
 ·grind
 ·omega
 ·grind
 ·obtain ⟨D,hD⟩: ∃D:Nat,D=20:=⟨20,rfl⟩;have hc:=bI hx hn g3 g2 hs;obtain ⟨q1,q2⟩:=OJ hc (D:=D) Za;rw [I4 hD] at g5;rcases g5 with ⟨g6,rfl,rfl,rfl⟩ | ⟨g6,rfl,rfl,zs,hp,ha,rfl⟩
  ·grind
  ·rcases k3 with ⟨f,rfl,rfl⟩ | ⟨f,rfl,rfl⟩
   ·grind
   ·obtain ⟨rfl,rfl⟩:=h2 rfl;have hz:=PD x l;have hpk:=DH hc hD x.orders.length 0 zSt _ 20 Za Za hz;obtain ⟨s',hg⟩:=LD hc (D:=D) x.orders.length 0 zSt _ Za hz;rw [q2 g6];simp only [mI] at hpk;rw [hpk] at hp ⊢;simp only at hp ⊢;have hzs:=SY hc hg hp ha;rw [hg.len,TL,hzs];have l1:=Ij (l:=l) (g:=gr x l ys D x.orders.length 0 zSt (List.replicate x.orders.length (-1))) (n:=x.orders.length) x.types.length;have l2:=Iv (x:=x) (g:=gr x l ys D x.orders.length 0 zSt (List.replicate x.orders.length (-1))) x.orders.length
    have l3:x.types.length*x.orders.length<=6*4:=Jr hc.t6 hn;refine ⟨trivial,trivial,rfl,rfl,by grind,Za,fun r hr=> ?_⟩;obtain ⟨c,hcm,rfl⟩:=Ww.1 hr;rw [<- hzs,hp.mem_iff,G7] at hcm;obtain ⟨i,_,i1,i2,_,rfl⟩:=hcm;exact ⟨_,ZN (by have:=hg.rng i Za;omega),rfl⟩
theorem Iy {g:FuncId} {args:List V} {R:Pln->Int->Int->Prop} {H:List AM.Obj} {K:V->List AM.Obj->Prop} (h:ACalls Tryz.prog g args [] fun y H'=> ∃p c e,R p c e/\y= .tup [.p (Wk p),.p (.int .i64 c),.p (.int .i64 e)]/\H'= []) (k: ∀p c e,R p c e->K (.tup [.p (Wk p),.p (.int .i64 c),.p (.int .i64 e)]) H) (ha:Xf 0 args=true:=by rfl):ACalls Tryz.prog g args H K :=
 (h.behind ha H).mono fun x H' hq=>by
  obtain ⟨y,H1,⟨p,c,e,hr,rfl,rfl⟩,rfl,rfl⟩:=hq
  grind [shV,shVs]
theorem CN {ok:List Vis->Bool} {col:List Vis->Col} {better:Col->Col->Bool} : ∀(L:List (List Vis)) (b:Col×Bool),(L.foldl (Yl ok col better) b).2=true->(b.2=true/\(L.foldl (Yl ok col better) b).1=b.1)\/ ∃m∈L,ok m=true/\(L.foldl (Yl ok col better) b).1=col m
 | [],b,h=> .inl ⟨h,rfl⟩
 | l::L,b,h=>by
  rw [Qc] at h ⊢;rcases CN L _ h with ⟨h1,h2⟩ | ⟨m,h1,h2,h3⟩
  ·rw [h2];unfold Yl at h1 ⊢
   grind
  grind
theorem Mg {one:Nat->List Col} {c:Col} : ∀q,c∈JO one q↔ ∃S,1<=S/\S<=q/\c∈one S
 | 0=>by simp [JO];omega
 | q+1=>by
  rw [JO,Xd,Mg q]
  grind
theorem iU {x:Inst} (hx:InstOk x):(∀k,k<x.orders.length->(nth x.orders k).off=false->0<=(nth x.orders k).penalty->0<=skR x k/\skR x k<=18014398509481984)/\ ∀i,scoR 1152921504606846976 (unsF x i).1 :=
 ⟨fun k hk hof hp=>by
  obtain ⟨s1,s2⟩:=tP hx hk hof;have:=MA hx k
  omega,fun i=>Ae Za (ML hx i)⟩
theorem fD {F:Nat->Prop} {H:List AM.Obj} {ι:List (Option Nat)} {w:World} {v:Value} (h:RV F H ι w (.p (.list true [])) v): ∃ad,v= .slice ad 0 0:=by
 cases h with | p _ _ h =>
 cases h with
 | nils=>simp
 | emp _ ad cap hc hm ha=>simp_all
 | list _ _ b off cap S' u hX hb hc hm hcl =>
  simp_all
theorem jE {vs:Array Value} {a b:Value} (h1:vs.size=2) (e0:vs.getD 0 undef=a) (e1:vs.getD 1 undef=b):vs= #[a,b]:=by
 apply Array.ext
 ·omega
 ·intro i h3 h4
  have:i=0\/i=1:=Za
  rcases this with rfl | rfl
  ·simp_all
  simp_all
theorem nQ (n:Nat) (h0:0<n) (hn:n<=1048576):ACalls Tryz.prog 146 [.p (.list true []),.p (.int .i64 (n:Int))] [] fun y H'=>y= .sl 0 0 0 0/\H'= [.elems 4 []]:=by
 obtain ⟨i0,hi0⟩: ∃i0,Tryz.prog.info? 49=some i0:=Br.1 Zd
 have hsz:i0.size=4:=by
  have:(Tryz.prog.info? 49).map (·.size)=some 4:=Zd
  grind
 have hby:i0.bytes=64:=by
  have:(Tryz.prog.info? 49).map (·.bytes)=some 64:=Zd
  grind
 obtain ⟨z,hz⟩: ∃z,i0.zero=some z:=by
  have:((Tryz.prog.info? 49).bind (·.zero)).isSome=true:=Zd
  grind [Br]
 refine ⟨dJ,fun F ι w vs hr hv=> ?_⟩;obtain ⟨h1,h2⟩:=hv;obtain ⟨ad,e0⟩: ∃ad,vs.getD 0 undef= .slice ad 0 0:=fD (h2 0 _ rfl)
 have e1:vs.getD 1 undef= .int .i64 n:=by
  have h:=h2 1 _ rfl
  cases h with | p _ _ h=>exact h.int_inv
 rw [jE h1 e0 e1]
 have hzc:z.cells.size=4:=by
  have:((Tryz.prog.info? 49).bind (·.zero)).map (·.cells.size)=some 4:=Zd
  grind
 have hG:=Any8.slices_Grow_grow GV i0 z hi0 hz Za ad 0 0 n [] w (ZM _) Za (by grind) Za Zb (fun _=>rfl) (fun a _ j v hj=>by simp at hj);have hι:ι= []:=Z1 hr.len;subst hι;have c1:=grownCap_ge w (0+n) 0 (sortGrowR_ren.t 25);have c2:=grownCap_le_maxLen w (0+n) 0 (sortGrowR_ren.t 25) (by unfold maxLen;omega);refine hG.mono ?_;rintro e w' ⟨rfl,rfl⟩;generalize grownCap w (0+n) 0 (sortGrowR_ren.t 25)=C at c1 c2 ⊢;obtain ⟨arr,harr⟩: ∃arr,arr=([]:List Value).toArray++Builtin.zeroCells z.cells (0+n-0)++Builtin.zeroCells z.cells (C-(0+n)):=⟨_,rfl⟩
 rw [<- harr]
 have hs:arr.size=C*4:=by
  grind [size_zeroCells]
 have g:=WU hr (Pushed.drewAlloc w arr (sortGrowR_ren.t 25)) (.elems 4 []) ⟨C,hs,Zb,c2,fun i q hi=>by simp at hi,fun i q j c hi hj=>by simp at hi⟩;refine ⟨_,_,_,_,rfl,⟨rfl,rfl⟩,g,?_⟩;have:=RV.sl (F:=F) (w:=w.drew.alloc (.cells arr (sortGrowR_ren.t 25))) (H:= [.elems 4 []]) (ι:= [some w.heap.size]) 0 0 0 0 w.heap.size 4 C (sortGrowR_ren.t 25) [] arr Zb Zb Zb (Pushed.new (Pushed.drewAlloc w arr (sortGrowR_ren.t 25))) Za Za Za Za
 grind
theorem growR0_c : PC 146 [.p (.list true []),.p (.int .i64 0)] (.list true []):=by
 refine ⟨dJ,fun F ι w vs hr hv=> ?_⟩;obtain ⟨h1,h2⟩:=hv;have r0:=h2 0 _ rfl;obtain ⟨ad,e0⟩: ∃ad,vs.getD 0 undef= .slice ad 0 0:=fD r0
 have e1:vs.getD 1 undef= .int .i64 0:=by
  have h:=h2 1 _ rfl
  cases h with | p _ _ h=>exact h.int_inv
 rw [jE h1 e0 e1];refine (Any8.slices_Grow_room GV ad 0 0 0 w (ZM _) Za Za Za).mono ?_;rintro e w' ⟨rfl,rfl⟩;exact ⟨_,_,ι,_,rfl,⟨rfl,rfl⟩,Good.refl hr,by grind⟩
def JU (l1 l2:List Rte) (q:Nat):List Rte:=(if 0<q then l1 else [])++if 1<q then l2 else []
theorem bH (l1 l2:List Rte) (c0 c1 c2:Bool) (h1:l1.length<=500000) (h2:l2.length<=500000) :
  PC 97 [.p (.list c0 [.list c1 (l1.map Z0),.list c2 (l2.map Z0)])] (.list false ((l1++l2).map Z0)):=by
 have k0:JU l1 l2 0= []:=rfl
 have k2:JU l1 l2 2=l1++l2:=by simp [JU]
 obtain ⟨lF,cF,hlF⟩: ∃(lF:Nat->List Rte) (cF:Nat->Bool),∀k,k<2->(U6 [PV.list c1 (l1.map Z0),PV.list c2 (l2.map Z0)] k=PV.list (cF k) ((lF k).map Z0)/\JU l1 l2 (k+1)=JU l1 l2 k++lF k/\(lF k).length<=500000) :=
  ⟨fun k=>if k=0 then l1 else l2,fun k=>if k=0 then c1 else c2,fun k hk=>by
   obtain rfl | rfl:k=0\/k=1:=Za
   ·exact ⟨rfl,by simp [JU],h1⟩
   ·exact ⟨rfl,by simp [JU],h2⟩⟩
 have hcl: ∀k,(JU l1 l2 k).length<=1000000:=fun k=>by
  grind [JU]
 have hLl: [PV.list c1 (l1.map Z0),PV.list c2 (l2.map Z0)].length=2:=rfl;generalize [PV.list c1 (l1.map Z0),PV.list c2 (l2.map Z0)]=L at hlF hLl ⊢;refine Ze [9] Tryz.func97 rfl Zh7 ?_;simp (disch:=omega) only [Tryz.f97,hLl,go_sem,seval];refine ZI [9] [0,9,10] (fun k:Nat=> [(3,.p (.int .i64 ((JU l1 l2 k).length:Nat))),(11,.p (.int .i64 k))]) (fun _=> []) (fun k=>k<=2) (fun k=>2-k) 0 Zb (Weak.mk ?_) ?_
 ·simp (disch:=omega) only [k0,ZH,go_sem,seval,↓reduceIte]
 ·intro k hk;refine X8 ?_;refine cD ?_ ?_<;>intro h<;>simp (disch:=omega) only [Sh.out h,go_sem,seval,↓reduceIte]
  ·have hk2:k<2:=Za
   obtain ⟨e1,e2,e3⟩:=hlF k hk2
   have e4:((JU l1 l2 (k+1)).length:Int)=((JU l1 l2 k).length:Int)+((lF k).length:Int):=by grind
   have e5:=hcl k
   have e6:(U6 L k).cells= [.list (cF k) ((lF k).map Z0)]:=by rw [e1];rfl
   simp (disch:=omega) only [Q3,XU,e6,eq_self,Zs,ZH,XV,List.take,Zu,Zk,go_sem,seval];refine cD ?_ ?_<;>intro g<;>simp (disch:=omega) only [Sh.out g,go_sem,seval,↓reduceIte]
   ·omega
   ·exact ⟨k+1,Za,Za,Weak.mk (by simp (disch:=omega) only [e4,go_sem,seval])⟩
  ·have hk2:k=2:=Za
   subst hk2;rw [k2];refine ZD [0] (fun _:Unit=> [(6,.sl 0 0 0 0)]) (fun _=> [.elems 4 []]) (fun _=>True) ?_ ?_
   ·refine X8 ?_
    by_cases hz:l1.length+l2.length=0
    ·rw [show ((l1.length+l2.length:Nat):Int)=0 by omega];refine growR0_c.use ?_;refine X8 ?_;exact ⟨(),Weak.ofNil 6 4 (by simp (disch:=omega) only [go_sem,seval]) Zb (wk)⟩
    ·refine (nQ (l1.length+l2.length) Za Za).useF (X8 ?_);exact ⟨(),wk⟩
   ·intro _ _;refine Zf [15] _ _ _ _ (X8 ?_);refine ZI [15] [25,26] (fun k:Nat=> [(6,.sl 0 0 (JU l1 l2 k).length (JU l1 l2 k).length),(27,.p (.int .i64 k))]) (fun k=> [.elems 4 ((JU l1 l2 k).map Z0)]) (fun k=>k<=2) (fun k=>2-k) 0 Zb (Weak.mk ?_) ?_
    ·simp (disch:=omega) only [k0,ZH,Zk,go_sem,seval]
    ·intro k hk;have e5:=hcl k;refine X8 ?_;refine cD ?_ ?_<;>intro h<;>simp (disch:=omega) only [Sh.out h,go_sem,seval,↓reduceIte]
     ·have hk2:k<2:=Za
      obtain ⟨e1,e2,e3⟩:=hlF k hk2
      have e6:(U6 L k).cells= [.list (cF k) ((lF k).map Z0)]:=by rw [e1];rfl
      have e4:(JU l1 l2 (k+1)).length=(JU l1 l2 k).length+(lF k).length:=by grind
      simp (disch:=omega) only [Q3,XU,e6,eq_self,Zs,ZH,XV,List.take,Zu,Zk,go_sem,seval];exact ⟨k+1,Za,Za,Weak.mk (by simp (disch:=omega) only [e2,Xm,go_sem,seval])⟩
     ·have hk2:k=2:=Za
      subst hk2;rw [k2];refine Zp (Weak.fz (o:=0) (by rfl)) ?_;refine Zf [] _ _ _ _ ?_;simp (disch:=omega) only [Zu,Zk,Z9,eq_self,go_sem,seval];exact we
theorem KJ {x:Inst} {b:Rte} {need wout:Nat} :(At x b need wout).length<=2^x.orders.length-1:=Kl Be _
theorem lT {l:List Rte} (h: ∀r∈l,∀v∈r.visits,0<=v.order/\v.order<62):ZY l<4611686018427387904:=Ia fun v hv=>by
 grind
theorem BE {x:Inst} {bs:List Rte} : ∀k,(Fl x bs k).length<=k*(2^x.orders.length-1)
 | 0=>by simp [Fl]
 | k+1=>by
  have h1:=BE (x:=x) (bs:=bs) k;have h2:=KJ (x:=x) (b:=nth bs k) (need:=ZY [nth bs k]) (wout:=ZY (bs.take k++bs.drop (k+1)));rw [Fl,ZQ,YI];omega
theorem DG {x:Inst} {bs:List Rte} {now:Int} : ∀k,(GG x bs now k).length<=(bs.length+k)*(2^x.orders.length-1)
 | 0=>BE bs.length
 | k+1=>by
  have h1:=DG (x:=x) (bs:=bs) (now:=now) k;have h2:=KJ (x:=x) (b:=VY (k:Int) now) (need:=0) (wout:=ZY bs);rw [GG,ZQ,<- K0,YI (bs.length+k)];omega
structure BsOk (x:Inst) (bs:List Rte):Prop where
 len:bs.length<=8
 typ: ∀r∈bs,0<=r.typ/\r.typ<(x.types.length:Int)
 bnd: ∀r∈bs,r.visits.length<=1000000/\r.rests.length<=1000000
 ord: ∀r∈bs,∀v∈r.visits,0<=v.order/\v.order<62
theorem wM {l:List Rte} {k:Nat} (h:k<l.length):(l.take (k+1)).drop k= [nth l k]:=by
 grind [Vq,Zj]
theorem T0 (x:Inst) (hx:InstOk x) (bs:List Rte) (c:Bool) (now:Int) (hb:BsOk x bs) (hn:0<=now/\now<=4096) (hbl:x.before.length<=1048576) :
  PT 63 [.p (Zv x),.p (.list c (bs.map Z0)),.p (.int .i64 now)] [.p (.list false ((ID x bs now).map Xz)),.p (.int .i64 0)]:=by
 have ho:=Ke hx;have ht:=FN hx;have hl8:=hb.len;have hp2:2^x.orders.length<=2^10:=XZ Za ho;have hbg: ∀l:List Rte,(∀r∈l,r∈bs)->ZY l<4611686018427387904:=fun l h=>lT fun r hr=>hb.ord r (h r hr)
 have hbc: ∀(l:List Rte) (c:Bool),(∀r∈l,r∈bs)->l.length<=8->PC 96 [.p (.list c (l.map Z0))] (.int .i64 (ZY l:Nat)):=fun l c h hl =>
  Nl l c Za fun r hr=>⟨by have:=(hb.bnd r (h r hr)).1;omega,hb.ord r (h r hr)⟩
 refine Ze [10] Tryz.func63 rfl ZhN ?_;simp (disch:=omega) only [Tryz.f63,go_sem,seval];refine gF ?_ ?_<;>intro h1<;>simp (disch:=omega) only [Sh.out h1,go_sem,seval,↓reduceIte]
 ·omega
 ·refine cD ?_ ?_<;>intro h2<;>simp (disch:=omega) only [Sh.out h2,go_sem,seval]
  ·omega
  ·refine ZI [10] [1,2,3,22,23] (fun k:Nat=> [(24,.p (.int .i64 k))]) (fun _=> [Zg x]) (fun k=>k<=bs.length) (fun k=>bs.length-k) 0 Zb (Weak.mk ?_) ?_
   ·simp (disch:=omega) only [Zg,go_sem,seval]
   ·intro k hk;refine Yi ?_;refine cD ?_ ?_<;>intro h<;>simp (disch:=omega) only [Sh.out h,go_sem,seval,↓reduceIte]
    ·have hk2:k<bs.length:=Za
     have hty:=hb.typ _ (Zn hk2);refine gF ?_ ?_<;>intro h3<;>simp (disch:=omega) only [Sh.out h3,go_sem,seval,↓reduceIte]
     ·omega
     ·refine ZB ?_ ?_<;>intro h4
      ·omega
      ·exact ⟨k+1,Za,Za,wk⟩
    ·refine Zp (Weak.ofNil 10 7 (by simp (disch:=omega) only [go_sem,seval]) Zb (Weak.refl _ _ _)) ?_;refine Zf [13,14,16,22] _ _ _ _ (X8 ?_);refine ZI [14,16] [1,2,3,40,41] (fun k:Nat=> [(10,.sl 1 0 (Fl x bs k).length (Fl x bs k).length),(42,.p (.int .i64 k))]) (fun k=> [Zg x,.elems 7 ((Fl x bs k).map Xz)]) (fun k=>k<=bs.length) (fun k=>bs.length-k) 0 Zb (Weak.mk ?_) ?_
     ·simp (disch:=omega) only [Zg,Fl,ZH,Zk,go_sem,seval]
     ·intro k hk;have hal:=BE (x:=x) (bs:=bs) k;have hkN:k*(2^x.orders.length-1)<=8*1024:=Jr Za Za;refine Yi ?_;refine cD ?_ ?_<;>intro g1<;>simp (disch:=omega) only [Sh.out g1,go_sem,seval,↓reduceIte]
      ·have hk2:k<bs.length:=Za
       have hty:=hb.typ _ (Zn hk2);obtain ⟨b1,b2⟩:=hb.bnd _ (Zn hk2)
       have hin1: ∀r∈bs.take k++bs.drop (k+1),r∈bs:=fun r hr=>by
        grind
       have hin2: ∀r∈ [nth bs k],r∈bs:=fun r hr=>by
        grind [Zn]
       have hbl1:(bs.take k++bs.drop (k+1)).length<=8:=by simp;omega
       have hsA:Fl x bs (k+1)=Fl x bs k++At x (nth bs k) (ZY [nth bs k]) (ZY (bs.take k++bs.drop (k+1))):=rfl;have hcl:=KJ (x:=x) (b:=nth bs k) (need:=ZY [nth bs k]) (wout:=ZY (bs.take k++bs.drop (k+1)));have ca:=OI x hx (nth bs k) (ZY [nth bs k]) (ZY (bs.take k++bs.drop (k+1))) hty b1 b2 hbl (by grind) (by grind);have hd1:=wM hk2;have c1:=fun f=>hbc [nth bs k] f hin2 Zb;have c2:=hbc (bs.take k++bs.drop (k+1)) false hin1 hbl1;rw [Xm] at c2;generalize ZY [nth bs k]=need at hsA hcl ca c1;generalize ZY (bs.take k++bs.drop (k+1))=wout at hsA hcl ca c2
       refine Z3 7 mixed Zd Zd (X8 ?_);refine ACalls.weakA (Weak.fz (o:=3) (by rfl)) ?_;simp (disch:=omega) only [Zu,Zk,X7,Z9,eq_self,Yu,go_sem,seval];refine (bH (bs.take k) (bs.drop (k+1)) _ _ _ (by simp;omega) (by simp;omega)).use (X8 ?_);refine (c2).use (X8 ?_);refine Z3 11 mixed Zd Zd (X8 ?_);rw [hd1];refine Zq (c1 _) (X8 ?_);refine Zq (ca) (X8 ?_);exact ⟨k+1,Za,Za,Weak.mk (by simp (disch:=omega) only [hsA,Xm,ZQ,go_sem,seval])⟩
      ·have hkl:k=bs.length:=Za
       subst hkl;refine Zf [22] _ _ _ _ (X8 ?_);refine (hbc bs c (fun r h=>h) hl8).use (X8 ?_);have hal:=BE (x:=x) (bs:=bs) bs.length;have hw:=hbg bs fun r h=>h;generalize hwS:ZY bs=S at hw ⊢;refine ZI [22] [2,3,14,74] (fun q:Nat=> [(10,.sl 1 0 (GG x bs now q).length (GG x bs now q).length),(75,.p (.int .i64 q))]) (fun q=> [Zg x,.elems 7 ((GG x bs now q).map Xz)]) (fun q=>q<=x.types.length) (fun q=>x.types.length-q) 0 Zb (Weak.mk ?_) ?_
       ·simp (disch:=omega) only [Zg,GG,go_sem,seval]
       ·intro q hq;have htl:=DG (x:=x) (bs:=bs) (now:=now) q;have hqN:(bs.length+q)*(2^x.orders.length-1)<=14*1024:=Jr Za Za;refine Yi ?_;refine cD ?_ ?_<;>intro g2<;>simp (disch:=omega) only [Sh.out g2,go_sem,seval,↓reduceIte]
        ·have hq2:q<x.types.length:=Za
         have hsT:GG x bs now (q+1)=GG x bs now q++At x (VY (q:Int) now) 0 S:=by rw [<- hwS];rfl
         have hcl:=KJ (x:=x) (b:=VY (q:Int) now) (need:=0) (wout:=S);have ca:=OI x hx (VY (q:Int) now) 0 S ⟨by grind [VY],by grind [VY]⟩ (by simp [VY]) (by simp [VY]) hbl Za Za;refine (ca).use ?_;refine X8 ?_;exact ⟨q+1,Za,Za,Weak.mk (by simp (disch:=omega) only [hsT,Xm,ZQ,go_sem,seval])⟩
        ·have hql:q=x.types.length:=Za
         subst hql;refine Zp (Weak.fz (o:=1) (by rfl)) ?_;refine Zf [] _ _ _ _ ?_;simp (disch:=omega) only [Zu,Zk,X7,Z9,eq_self,go_sem,seval];exact ⟨.tup [.p (.list false ((ID x bs now).map Xz)),.p (.int .i64 0)],[],Weak.mk (by simp (disch:=omega) only [ID,go_sem,seval]),rfl,rfl⟩
theorem rA {x:Inst} (hf:IFacts x) {b:Rte} {S:Nat} :UI x b S=lY x b S (Qq x S) (VB,false):=lX hf Za Za rfl
theorem F2 (x:Inst) (hx:InstOk x) (b:Rte) (S:Nat) (hk:0<=b.typ/\b.typ<x.types.length) (hv:b.visits.length<=900000) (hr:b.rests.length<=900000) (hS0:0<S) (hS1:S<2^x.orders.length) :
  PT 109 [.p (Zv x),.p (Z0 b),.p (.int .i64 S)] [.p (Xz (Jb x b S).1),.p (.int .i64 (Jb x b S).2)]:=by
 have hf:=WV hx;have hn:=Ke hx;have ht:=FN hx;have hp2:2^x.orders.length<=2^10:=XZ Za hn
 have htot:Qq x S<=20:=by grind [JE,Qq]
 have hrl:=Oh (x:=x) (S:=S) (l:=b.visits)
 have hself:FE b b.visits=b:=by simp [FE]
 have ce:ACalls Tryz.prog 161 [.ptr 0 0,.p (Z0 b)] [Vf x S (⟨0,0,0,⟨0,0,true,[],true,[]⟩⟩,false)] fun y H'=>y= .tup []/\H'= [Vf x S (UI x b S)]:=by
  rw [rA hf,lY];have hz:(VB,false)=((⟨0,0,0,⟨0,0,true,[],true,[]⟩⟩:Col),false):=rfl;rw [hz]
  by_cases hb:RU b=true
  ·rw [if_pos hb];have:=Eb x hx b S Za Za b.visits (⟨0,0,0,⟨0,0,true,[],true,[]⟩⟩,false) Za (.inr (Jo hb))
   grind
  ·rw [if_neg hb];have hb': ¬b.visits.length<b.rests.length:=fun h=>hb (XQ h);have:=sS x hx b S Za Za (Qq x S) b.visits (⟨0,0,0,⟨0,0,true,[],true,[]⟩⟩,false) hrl (ZM _) Za Za
   grind
 obtain ⟨Z,hZ⟩: ∃Z,Z=Jb x b S:=⟨_,rfl⟩;have hZ2:Z=if (UI x b S).2=true then ((UI x b S).1,0) else (VB,24):=hZ
 have hkey:(UI x b S).2=true->(UI x b S).1.typ=b.typ/\(UI x b S).1.set=S:=fun h=>by
  unfold UI La at h ⊢;rcases CN _ _ h with ⟨h1,_⟩ | ⟨m,_,_,h3⟩
  ·cases h1
  ·rw [h3];exact ⟨rfl,rfl⟩
 rw [<- hZ];generalize UI x b S=B at ce hZ2 hkey;refine Ze [] Tryz.func109 rfl xH ?_;simp (disch:=omega) only [Tryz.f109,go_sem,seval];refine Zi [2,3,4,6] (fun k:Nat=> [(8,.p (.int .i64 (pw k:Nat))),(9,.p (.int .i64 k))]) (fun _=> [Zg x,ZK b,HA]) (fun k=>k<=x.orders.length) (fun k=>x.orders.length-k) 0 Zb (Weak.mk ?_) ?_
 ·have e0:((pw 0:Nat):Int)=1:=rfl;simp (disch:=omega) only [Zg,ZK,HA,RF,VB,e0,Zu,Zk,go_sem,seval]
 ·intro k hk;have hpk:pw k<=pw 10:=QN Za;have hp4:pw 10=1024:=rfl;have hps:=BL k
  have e2:((pw (k+1):Nat):Int)=((pw k:Nat):Int)*2:=Za
  have e3:((pw (k+1):Nat):Int)=2*((pw k:Nat):Int):=Za
  simp (disch:=omega) only [Zg,ZK,HA,RF,VB,Zu,Zk,go_sem,seval];refine ZB ?_ ?_<;>intro h0
  ·exact ⟨k+1,Za,Za,Weak.mk (by simp (disch:=omega) only [e3,go_sem,seval])⟩
  ·have hkn:k=x.orders.length:=Za
   subst hkn;have hpn:pw x.orders.length=2^x.orders.length:=rfl;refine gF ?_ ?_<;>intro h1<;>simp (disch:=omega) only [Sh.out h1,go_sem,seval,↓reduceIte]
   ·omega
   ·refine gF ?_ ?_<;>intro h2<;>simp (disch:=omega) only [Sh.out h2,go_sem,seval,↓reduceIte]
    ·omega
    ·refine gF ?_ ?_<;>intro h3<;>simp (disch:=omega) only [Sh.out h3,go_sem,seval,↓reduceIte]
     ·omega
     ·refine cD ?_ ?_<;>intro h4<;>simp (disch:=omega) only [Sh.out h4,go_sem,seval,↓reduceIte]
      ·omega
      ·refine ACalls.mono (ce.back [Zg x,ZK b,HA] (by rfl)) ?_;rintro y H' ⟨y1,H1,⟨rfl,rfl⟩,rfl,rfl⟩;simp (disch:=omega) only [AM.shV,AM.shVs,AM.shO,Zg,ZK,HA,RF,VB,Vf,Zu,Zk,Xu,ZF,go_sem,seval];obtain ⟨⟨ct,cs,cp,cr⟩,f⟩:=B
       cases f with
       | false =>
        rw [if_neg Zb] at hZ2;refine C6 ?_;exact ⟨.tup [.p (Xz Z.1),.p (.int .i64 Z.2)],[],Weak.mk (by simp (disch:=omega) only [hZ2,VB,Zk,go_sem,seval]),rfl,rfl⟩
       | true =>
        rw [if_pos rfl] at hZ2;obtain ⟨k1,k2⟩:=hkey rfl;simp only at k1 k2;refine Ks ?_;refine Z3 12 mixed Zd Zd (X8 ?_);exact ⟨.tup [.p (Xz Z.1),.p (.int .i64 Z.2)],[],Weak.mk (by simp (disch:=omega) only [hZ2,k1,k2,go_sem,seval]),rfl,rfl⟩
theorem mY {bs:List Rte} {a:Int} {S i:Nat} {v:Vis} (hi:i<bs.length) (hv:v∈(nth bs i).visits) (h:S.testBit v.order.toNat≠decide ((i:Int)=a)):ND bs a S=false:=by
 grind [Bf]
theorem cE (x:Inst) (bs:List Rte) (c:Bool) (a:Int) (S:Nat) (hl:bs.length<=1048576) (hb: ∀r∈bs,r.visits.length<=1048576/\ ∀v∈r.visits,0<=v.order/\v.order<62) (hS:S<9223372036854775808) :
  PC 108 [.p (Zv x),.p (.list c (bs.map Z0)),.p (.int .i64 a),.p (.int .i64 S)] (.bool (ND bs a S)):=by
 refine Zc Tryz.func108 rfl xG ?_;simp (disch:=omega) only [Tryz.f108,go_sem,seval];refine Zi [1,2,3] (fun k:Nat=> [(9,.p (.int .i64 k))]) (fun _=> [Zg x]) (fun k=>k<=bs.length/\ ∀i,i<k-> ∀v∈(nth bs i).visits,S.testBit v.order.toNat=decide ((i:Int)=a)) (fun k=>bs.length-k) 0 Zb (Weak.mk ?_) ?_
 ·simp (disch:=omega) only [Zg,go_sem,seval]
 ·rintro k ⟨hk,hno⟩;refine Yi ?_;refine cD ?_ ?_<;>intro h<;>simp (disch:=omega) only [Sh.out h,go_sem,seval,↓reduceIte]
  ·have hk2:k<bs.length:=Za
   obtain ⟨b1,b2⟩:=hb _ (Zn hk2);refine Zi [1,2,3,9] (fun q:Nat=> [(10,.p (.int .i64 q))]) (fun _=> [Zg x]) (fun q=>q<=(nth bs k).visits.length/\ ∀j,j<q->S.testBit (nth (nth bs k).visits j).order.toNat=decide ((k:Int)=a)) (fun q=>(nth bs k).visits.length-q) 0 Zb (Weak.mk ?_) ?_
   ·simp (disch:=omega) only [Zg,go_sem,seval]
   ·rintro q ⟨hq,hin⟩;refine Yi ?_;refine ZB ?_ ?_<;>intro h2
    ·have hq2:q<(nth bs k).visits.length:=Za
     have hvm:=Zn hq2;have hvq:=b2 _ hvm;obtain ⟨o,ho⟩: ∃o:Nat,(nth (nth bs k).visits q).order=(o:Int):=⟨_,(Int.toNat_of_nonneg hvq.1).symm⟩;rw [ho];refine (Pe S o hS Za).use (X8 ?_);have hbad:S.testBit o≠decide ((k:Int)=a)->ND bs a S=false:=fun h=>mY hk2 hvm (by simp_all)
     have hgood:S.testBit o=decide ((k:Int)=a)->S.testBit (nth (nth bs k).visits q).order.toNat=decide ((k:Int)=a):=fun h=>by simp_all
     refine ZB ?_ ?_<;>intro h3
     ·grind
     ·exact ⟨q+1,⟨Za,Zm.2 ⟨hin,hgood (by grind)⟩⟩,Za,wk⟩
    ·have hql:q=(nth bs k).visits.length:=Za
     subst hql;refine ⟨k+1,⟨Za,Zm.2 ⟨hno,fun v hv=> ?_⟩⟩,Za,wk⟩;obtain ⟨j,hj,rfl⟩:=Z4.1 hv
     grind [Zj]
  grind [Bf]
theorem T1 (x:Inst) (hx:InstOk x) (bs:List Rte) (c:Bool) (now:Int) (hb:BsOk x bs) (hbn: ∀r∈bs,r.visits.length<=900000/\r.rests.length<=900000) (hn:0<=now/\now<=4096) :
  PT 65 [.p (Zv x),.p (.list c (bs.map Z0)),.p (.int .i64 now)] [.p (.list false ((ID x bs now).map Xz)),.p (.int .i64 0)]:=by
 have ho:=Ke hx;have ht:=FN hx;have hl8:=hb.len;have hp1:1<=2^x.orders.length:=Nat.one_le_two_pow;have hp2:2^x.orders.length<=2^10:=XZ Za ho;have cf:=fun (a:Int) (S:Nat) (hS:S<9223372036854775808)=>cE x bs c a S Za (fun r hr=>⟨by grind,hb.ord r hr⟩) hS;obtain ⟨N,hN⟩: ∃N,N=2^x.orders.length-1:=⟨_,rfl⟩
 have hpN:pw x.orders.length=N+1:=by unfold pw;omega
 refine Ze [14] Tryz.func65 rfl ZhP ?_;simp (disch:=omega) only [Tryz.f65,go_sem,seval];refine gF ?_ ?_<;>intro h1<;>simp (disch:=omega) only [Sh.out h1,go_sem,seval,↓reduceIte]
 ·omega
 ·refine cD ?_ ?_<;>intro h2<;>simp (disch:=omega) only [Sh.out h2,go_sem,seval]
  ·omega
  ·refine ZI [14] [1,2,3] (fun k:Nat=> [(8,.p (.int .i64 k))]) (fun _=> [Zg x]) (fun k=>k<=bs.length) (fun k=>bs.length-k) 0 Zb (Weak.mk ?_) ?_
   ·simp (disch:=omega) only [Zg,go_sem,seval]
   ·intro k hk;refine Yi ?_;refine cD ?_ ?_<;>intro h<;>simp (disch:=omega) only [Sh.out h,go_sem,seval,↓reduceIte]
    ·have hk2:k<bs.length:=Za
     have hty:=hb.typ _ (Zn hk2);refine Z6 (X8 ?_);refine gF ?_ ?_<;>intro h3<;>simp (disch:=omega) only [Sh.out h3,go_sem,seval,↓reduceIte]
     ·omega
     ·refine ZB ?_ ?_<;>intro h4
      ·omega
      ·exact ⟨k+1,Za,Za,wk⟩
    ·refine ZI [14] [1,2,3] (fun k:Nat=> [(9,.p (.int .i64 (pw k:Nat))),(10,.p (.int .i64 k))]) (fun _=> [Zg x]) (fun k=>k<=x.orders.length) (fun k=>x.orders.length-k) 0 Zb (Weak.mk ?_) ?_
     ·have e0:((pw 0:Nat):Int)=1:=rfl;simp (disch:=omega) only [Zg,e0,go_sem,seval]
     ·intro k hk;have hpk:pw k<=pw 10:=QN Za;have hp4:pw 10=1024:=rfl;have hps:=BL k
      have e3:((pw (k+1):Nat):Int)=2*((pw k:Nat):Int):=Za
      refine Yi ?_;refine ZB ?_ ?_<;>intro h0
      ·exact ⟨k+1,Za,Za,Weak.mk (by simp (disch:=omega) only [e3,go_sem,seval])⟩
      ·have hkn:k=x.orders.length:=Za
       subst hkn;rw [hpN];refine Zp (Weak.ofNil 11 7 (by simp (disch:=omega) only [go_sem,seval]) Zb (Weak.refl _ _ _)) ?_;refine Zf [24,34] _ _ _ _ (X8 ?_);refine ZI [24,34] [1,2,3,9] (fun k:Nat=> [(11,.sl 1 0 (Fl x bs k).length (Fl x bs k).length),(12,.p (.int .i64 k))]) (fun k=> [Zg x,.elems 7 ((Fl x bs k).map Xz)]) (fun k=>k<=bs.length) (fun k=>bs.length-k) 0 Zb (Weak.mk ?_) ?_
       ·simp (disch:=omega) only [Zg,Fl,ZH,Zk,go_sem,seval]
       ·intro k hk;have hal:=BE (x:=x) (bs:=bs) k;have hkN:k*(2^x.orders.length-1)<=8*1024:=Jr Za Za;refine Yi ?_;refine cD ?_ ?_<;>intro g1<;>simp (disch:=omega) only [Sh.out g1,go_sem,seval,↓reduceIte]
        ·have hk2:k<bs.length:=Za
         have hty:=hb.typ _ (Zn hk2);obtain ⟨b1,b2⟩:=hbn _ (Zn hk2);have hfb:=fun q=>nF (S:=q) hk2
         have hsA:Fl x bs (k+1)=Fl x bs k++JO (JY x (nth bs k) (ZY [nth bs k]) (ZY (bs.take k++bs.drop (k+1)))) N:=by rw [hN];rfl
         generalize ZY [nth bs k]=need at hsA hfb;generalize ZY (bs.take k++bs.drop (k+1))=wout at hsA hfb;generalize Fl x bs k=R at hsA hal ⊢;obtain ⟨W,hW⟩: ∃W:Nat->List Col,W=fun q=>R++JO (JY x (nth bs k) need wout) (q-1):=⟨_,rfl⟩
         have hW1:W 1=R:=by grind [JO]
         have hWn:Fl x bs (k+1)=W (N+1):=by grind
         have hWl: ∀q,(W q).length<=R.length+q:=fun q=>by
          grind [Kl,Be]
         have hWs: ∀q,1<=q->W (q+1)=W q++JY x (nth bs k) need wout q:=fun q h=>by
          obtain ⟨p,rfl⟩: ∃p,q=p+1:=⟨q-1,Za⟩
          grind [JO]
         clear hW hsA;refine Zi [1,2,3,9,12] (fun q:Nat=> [(11,.sl 1 0 (W q).length (W q).length),(13,.p (.int .i64 q))]) (fun q=> [Zg x,.elems 7 ((W q).map Xz)]) (fun q=>1<=q/\q<=N+1) (fun q=>N+1-q) 1 Za (Weak.mk ?_) ?_
         ·have e0:((1:Nat):Int)=1:=rfl;simp (disch:=omega) only [Zg,hW1,e0,go_sem,seval]
         ·rintro q ⟨hq0,hq⟩;have hql:=hWl q;have hqs:=hWs q hq0;refine Yi ?_;refine ZB ?_ ?_<;>intro g2
          ·have hq2:q<2^x.orders.length:=Za
           have hfc:JY x (nth bs k) need wout q=if JK need wout q=true then Cy x (nth bs k) q else []:=rfl;rw [hfc] at hqs;refine (cf (k:Int) q Za).use (X8 ?_);rw [hfb q]
           cases hfk:JK need wout q with
           | false =>
            rw [hfk,if_neg Zb,Wc] at hqs;refine C6 ?_;exact ⟨q+1,Za,Za,Weak.mk (by simp (disch:=omega) only [hqs,go_sem,seval])⟩
           | true =>
            rw [hfk,if_pos rfl] at hqs;refine Ks ?_
            have ho2:Cy x (nth bs k) q=if (Jb x (nth bs k) q).2=0 then [(Jb x (nth bs k) q).1] else []:=by
             unfold Cy Jb
             split
             ·simp
             ·simp
            rw [ho2] at hqs;have cb:=F2 x hx (nth bs k) q hty b1 b2 Za hq2;generalize Jb x (nth bs k) q=Z at hqs cb;refine Xo [10,11] 12 mixed Zd Zd Zd Zb (X8 ?_);refine QC cb (X8 ?_);refine ZV 10 _ _ Zd (by refine X8 ?_;exact ⟨rfl,rfl⟩) ?_;refine X8 ?_;refine ZV 11 _ _ Zd (by refine X8 ?_;exact ⟨rfl,rfl⟩) (Yo ?_);refine X8 ?_;refine ZB ?_ ?_<;>intro g4
            ·rw [if_pos g4] at hqs;exact ⟨q+1,Za,Za,Weak.mk (by simp (disch:=omega) only [hqs,Xm,Zu,Zk,ZQ,Zs,ZH,XV,go_sem,seval])⟩
            ·rw [if_neg g4,Wc] at hqs;exact ⟨q+1,Za,Za,Weak.mk (by simp (disch:=omega) only [hqs,go_sem,seval])⟩
          ·have hqn:q=N+1:=Za
           subst hqn;exact ⟨k+1,Za,Za,Weak.mk (by simp (disch:=omega) only [hWn,go_sem,seval])⟩
        ·have hkl:k=bs.length:=Za
         subst hkl;refine Zf [34] _ _ _ _ (X8 ?_);have hfb:=fun q=>nH (bs:=bs) (S:=q);generalize hwS:ZY bs=wout at hfb;refine ZI [34] [1,2,3,9] (fun k:Nat=> [(11,.sl 1 0 (GG x bs now k).length (GG x bs now k).length),(16,.p (.int .i64 k))]) (fun k=> [Zg x,.elems 7 ((GG x bs now k).map Xz)]) (fun k=>k<=x.types.length) (fun k=>x.types.length-k) 0 Zb (Weak.mk ?_) ?_
         ·simp (disch:=omega) only [Zg,GG,go_sem,seval]
         ·intro k hk;have hal:=DG (x:=x) (bs:=bs) (now:=now) k;have hkN:(bs.length+k)*(2^x.orders.length-1)<=14*1024:=Jr Za Za;refine Yi ?_;refine cD ?_ ?_<;>intro g1<;>simp (disch:=omega) only [Sh.out g1,go_sem,seval,↓reduceIte]
          ·have hk2:k<x.types.length:=Za
           have hsA:GG x bs now (k+1)=GG x bs now k++JO (JY x (VY (k:Int) now) 0 wout) N:=by rw [hN,<- hwS];rfl
           generalize GG x bs now k=R at hsA hal ⊢;obtain ⟨W,hW⟩: ∃W:Nat->List Col,W=fun q=>R++JO (JY x (VY (k:Int) now) 0 wout) (q-1):=⟨_,rfl⟩
           have hW1:W 1=R:=by grind [JO]
           have hWn:GG x bs now (k+1)=W (N+1):=by grind
           have hWl: ∀q,(W q).length<=R.length+q:=fun q=>by
            grind [Kl,Be]
           have hWs: ∀q,1<=q->W (q+1)=W q++JY x (VY (k:Int) now) 0 wout q:=fun q h=>by
            obtain ⟨p,rfl⟩: ∃p,q=p+1:=⟨q-1,Za⟩
            grind [JO]
           clear hW hsA;refine Zi [1,2,3,9,16] (fun q:Nat=> [(11,.sl 1 0 (W q).length (W q).length),(17,.p (.int .i64 q))]) (fun q=> [Zg x,.elems 7 ((W q).map Xz)]) (fun q=>1<=q/\q<=N+1) (fun q=>N+1-q) 1 Za (Weak.mk ?_) ?_
           ·have e0:((1:Nat):Int)=1:=rfl;simp (disch:=omega) only [Zg,hW1,e0,go_sem,seval]
           ·rintro q ⟨hq0,hq⟩;have hql:=hWl q;have hqs:=hWs q hq0;refine Yi ?_;refine ZB ?_ ?_<;>intro g2
            ·have hq2:q<2^x.orders.length:=Za
             have hfc:JY x (VY (k:Int) now) 0 wout q=if JK 0 wout q=true then Cy x (VY (k:Int) now) q else []:=rfl;rw [hfc] at hqs;refine (cf (-1) q Za).use (X8 ?_);rw [hfb q]
             cases hfk:JK 0 wout q with
             | false =>
              rw [hfk,if_neg Zb,Wc] at hqs;refine C6 ?_;exact ⟨q+1,Za,Za,Weak.mk (by simp (disch:=omega) only [hqs,go_sem,seval])⟩
             | true =>
              rw [hfk,if_pos rfl] at hqs;refine Ks ?_
              have ho2:Cy x (VY (k:Int) now) q=if (Jb x (VY (k:Int) now) q).2=0 then [(Jb x (VY (k:Int) now) q).1] else []:=by
               unfold Cy Jb
               split
               ·simp
               ·simp
              rw [ho2] at hqs;have cb:=F2 x hx (VY (k:Int) now) q ⟨by grind [VY],by grind [VY]⟩ (by simp [VY]) (by simp [VY]) Za hq2;generalize Jb x (VY (k:Int) now) q=Z at hqs cb;refine Y0 cb ?_;refine X8 ?_;refine ZB ?_ ?_<;>intro g4
              ·rw [if_pos g4] at hqs;exact ⟨q+1,Za,Za,Weak.mk (by simp (disch:=omega) only [hqs,Xm,Zu,Zk,ZQ,Zs,ZH,XV,go_sem,seval])⟩
              ·rw [if_neg g4,Wc] at hqs;exact ⟨q+1,Za,Za,Weak.mk (by simp (disch:=omega) only [hqs,go_sem,seval])⟩
            ·have hqn:q=N+1:=Za
             subst hqn;exact ⟨k+1,Za,Za,Weak.mk (by simp (disch:=omega) only [hWn,go_sem,seval])⟩
          ·have hkl:k=x.types.length:=Za
           subst hkl;refine Zp (Weak.fz (o:=1) (by rfl)) ?_;refine Zf [] _ _ _ _ ?_;simp (disch:=omega) only [Zu,Zk,X7,Z9,eq_self,go_sem,seval];exact ⟨.tup [.p (.list false ((ID x bs now).map Xz)),.p (.int .i64 0)],[],Weak.mk (by simp (disch:=omega) only [ID,go_sem,seval]),rfl,rfl⟩
end Go.Proofs.YtiigdaohjanidaaGreatDoor.K
