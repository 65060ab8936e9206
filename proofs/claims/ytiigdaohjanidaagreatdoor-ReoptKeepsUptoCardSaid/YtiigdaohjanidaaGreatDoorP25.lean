/- Declarations that the closing texts need, part 25: joined by tools/slim.py. -/
import Derived.Test.YtiigdaohjanidaaGreatDoorP24
import Derived.Shelf.SlSortCmp.NoneTotal
set_option linter.unusedVariables false
set_option linter.unusedSimpArgs false
namespace Go.AM
open Go.RowKit Go.Shelf Go.Lib Go.Sort Go.Proofs
theorem gS {W w':World} {H':List AM.Obj} {ι':List (Option Nat)} (g:Good AN [] [] W H' ι' w'): ∃q os',w'=grow (W.drewN q) os':=by
 refine ⟨w'.drawn-W.drawn,w'.heap.extract W.heap.size w'.heap.size,?_⟩
 have h1:w'.heap=W.heap++w'.heap.extract W.heap.size w'.heap.size:=by
  apply Array.ext_getElem?;intro i
  by_cases hi:i<W.heap.size
  ·rw [Db hi];exact g.keep i hi Zb
  ·rw [Array.getElem?_append_right Za];have:=g.size;rw [Array.getElem?_extract]
   split
   ·congr 1;omega
   ·rw [Array.getElem?_eq_none Za]
 have h2:W.drawn<=w'.drawn:=g.tape.2.resolve_right fun h=>h;have h3:=g.tape.1;have h4:=g.os;have h5:=g.output
 cases w'
 simp only [grow,World.drewN] at *
 congr 1
 omega
def Po (c:Array Value) (k i:Nat):List Value:=(List.range k).map fun j=>c.getD (i*k+j) undef
theorem FL (c k i):(Po c k i).length=k:=by simp [Po]
theorem CC {c k i j} (h:j<k):(Po c k i)[j]! =c.getD (i*k+j) undef:=by
 rw [List.getElem!_eq_getElem?_getD,Po,XJ,List.getElem?_range h];rfl
theorem ACalls.sortFunc {P : Program} {ρ : Ren} (L : SlLaysF0.n6 P ρ) (hg : Zj P (ρ.f 6)) (k : Nat) (aE : ∀ w, (isAgg (ρ.t 24)).run P w = .ok true w) (zE : ∀ w, (Go.sizeOf (ρ.t 24)).run P w = .ok k w)
    {β : Type} [Inhabited β] (f : β -> PV) (hf : ∀ x, ∃ cs, f x = .agg cs /\ cs.length = k /\ cs.all (·.one) = true) (cf : β -> β -> Int) (hO : SWO (ltOf cf)) (g : FuncId)
    (hcmp : ∀ x y, ACalls P g [.p (f x), .p (f y)] [] fun r H' => r = .p (.int .i64 (cf x y)) /\ H' = []) (xs : List β) (hlen : xs.length < 4611686018427387904) {H : List AM.Obj} {o : Nat} (hHo : H[o]? = some (.elems k (xs.map f))) :
    ACalls P (ρ.f 6) [.sl o 0 xs.length xs.length, .fn (.func g) [] []] H fun y H' => y = .tup [] /\ ∃ ys : List β, ys.Perm xs /\ ys.Pairwise (fun a b => ¬ cf b a < 0) /\ H' = H.set o (.elems k (ys.map f)) := by
  refine ⟨hg, fun F ι w vs hr hv => ?_⟩;obtain ⟨hv1, hv2⟩ := hv;have h0 := hv2 0 _ rfl;have h1 := hv2 1 _ rfl
  have hvs : vs = #[vs.getD 0 undef, vs.getD 1 undef] := by
    apply Array.ext
    · simpa using hv1
    · intro i h2 h3
      have : i = 0 \/ i = 1 := by simp at hv1; omega
      rcases this with rfl | rfl <;> simp [Array.getD, h2]
  rw [hvs];generalize vs.getD 0 undef = v0 at h0 ⊢;generalize vs.getD 1 undef = v1 at h1 ⊢;clear hvs hv1 hv2
  cases h1 with | fn _ _ _ a e hs ht _ _ =>
  have ea : a = #[] := D9 (by simpa using hs);have ee : e = #[] := D9 (by simpa using ht);subst ea; subst ee;generalize hL : xs.length = n at h0 hlen
  by_cases hz : n = 0
  · subst hz
    obtain rfl : xs = [] := Cb.1 hL
    have e1 : H.set o (.elems k (([] : List β).map f)) = H := by
      apply JN;intro i;rw [UQ]
      split
      · rename_i hi; subst hi; rw [hHo]; simp [(ZS.1 hHo).1]
      · rfl
    obtain ⟨ad, cap, rfl⟩ : ∃ ad cap, v0 = .slice ad 0 cap := by
      cases h0 with
      | slNil => exact ⟨_, _, rfl⟩
      | sl => exact ⟨_, _, rfl⟩
      | slD _ _ _ _ _ hd => rw [hHo] at hd; cases hd
      | slS _ _ _ _ _ S2 xs2 hd hne => rw [hHo] at hd; simp at hd; obtain ⟨_, rfl⟩ := hd; simp at hne
      | slC _ _ _ _ _ _ hd => rw [hHo] at hd; cases hd
    refine (AnyF.slices_SortFunc_none L ad cap _ w).mono ?_;rintro e w' ⟨rfl, rfl⟩;exact ⟨.tup [], _, ι, _, rfl, ⟨rfl, [], .refl _, .nil, e1.symm⟩, Good.refl hr, .tup [] #[] Zb Zb⟩
  have hn : 0 < n := Za
  cases h0 with
  | slNil => omega
  | slD _ _ _ _ _ hd => rw [hHo] at hd; cases hd
  | slS _ _ _ _ _ S ys hd hlt => rw [hHo] at hd; simp at hd; obtain ⟨_, rfl⟩ := hd; simp at hlt; omega
  | slC _ _ _ _ _ _ hd => rw [hHo] at hd; cases hd
  | sl _ _ _ _ b S cap t ys c hι hH ht2 hw hcap hl hle hm =>
  rw [hHo] at hH;simp at hH;obtain ⟨rfl, rfl⟩ := hH;rcases hr.elm o k (xs.map f) hHo with ⟨e1, _⟩ | ⟨b2, c2, t2, cap2, e1, e2, e3, e4, e5, e6, e7⟩
  · rw [hι] at e1; cases e1
  rw [hι] at e1;simp at e1; subst e1;rw [hw] at e2;simp at e2;obtain ⟨rfl, rfl⟩ := e2;have hbs : b < w.heap.size := (hr.avo o b hι).2;have hbF : ¬ F b := (hr.avo o b hι).1
  -- an index, made one that there is
  let ix : Nat -> Nat := fun i => if i < n then i else 0
  have hix : ∀ i, ix i < n := fun i => by simp only [ix]; split <;> omega
  have hixe : ∀ i, i < n -> ix i = i := fun i hi => by simp only [ix]; rw [if_pos hi]
  let enc : Nat -> List Value := fun i => Po c k (ix i)
  have hk : ∀ x, (enc x).length = k := fun x => FL _ _ _
  -- one cell of an element
  have cell : ∀ i, i < n -> ∃ cs, f (nth xs i) = .agg cs /\ cs.length = k /\ ∀ (j : Nat) (y : PV), cs[j]? = some y -> y.one = true /\ RP (Own F ι) w y (c.getD (i * k + j) undef) := fun i hi => by
    obtain ⟨cs, q1, q2, q3⟩ := hf (nth xs i);refine ⟨cs, q1, q2, fun j y hj => ⟨Zt.1 q3 y (Xz hj), ?_⟩⟩;refine e7 i (f (nth xs i)) j y ?_ (by rw [q1]; exact hj);rw [XJ, VP Za, Zi Za]; rfl
  have one : ∀ x, ∀ v ∈ enc x, v.oneCell' = true := fun x v hv => by
    obtain ⟨j, hj, rfl⟩ := ZU.1 hv
    have hjk : j < k := by rw [hk] at hj; exact hj
    obtain ⟨cs, q1, q2, q3⟩ := cell (ix x) (hix x);have hg := q3 j (cs[j]'(Za)) Zb
    have e9 : (enc x)[j] = c.getD (ix x * k + j) undef := by
      have := CC (c := c) (i := ix x) hjk;rw [List.getElem!_eq_getElem?_getD, VP (by rw [FL]; exact hjk)] at this;exact this
    rw [e9];exact hg.2.oneCell hg.1
  let d : Array Nat := Array.range n
  have hd : d.size = n := by simp [d]
  let cf' : Nat -> Nat -> Int := fun i j => cf (nth xs (ix i)) (nth xs (ix j))
  have hO' : SWO (ltOf cf') := ⟨fun x => hO.irrefl _, fun x y z h1 h2 => hO.trans _ _ _ h1 h2, fun x y z h1 h2 => hO.ntrans _ _ _ h1 h2⟩
  have hsz : n * k <= c.size := by
    rw [e3]; exact Yh k (by simpa [hL] using e4)
  have hcell : ∀ j, j < c.size -> w.cell? ⟨b, j, none⟩ = some (c.getD j undef) := fun j hj => by
    simp [World.cell?, hw, hj]
  have hHolds : HoldsK enc k w b (0 * k) d := fun j hj => by
    have hj2 : j < n * k := by simpa [hd] using hj
    have k0 : 0 < k := by rcases Nat.eq_zero_or_pos k with h | h; · subst h; simp at hj2
                          · exact h
    rw [get_flatK enc k d j (by rw [hd]; exact hj2)];have hdj : j / k < n := Nat.div_lt_of_lt_mul (by rw [Ax]; exact hj2)
    have hde : d[j / k]! = j / k := by simp [d, hdj]
    rw [hde]
    have e9 : (enc (j / k))[j % k]! = c.getD j undef := by
      show (Po c k (ix (j / k)))[j % k]! = _
      rw [hixe _ hdj, CC (Qf _ k0), Nat.div_add_mod']
    rw [e9, Nat.zero_mul, XV];exact ⟨hcell j Za, by simp [World.frozen?, hw]⟩
  have hcmp' : CmpLays P g #[] enc k cf' b (0 * k) d.size w := fun m os dk hdk x y => by
    generalize hW : sortWorldK enc k w b (0 * k) m dk os = W
    have hKeep : Keeps (Own F ι) w AN W := fun b' hb' hs' => by
      have hne : b' ≠ b := fun e => hb' (.inr (e ▸ Xz hι));refine ⟨fun h => h, ?_, ?_⟩
      · rw [<- hW]; simp [sortWorldK, grow, putRowK, putRow, mapBlock, ahead]; omega
      · rw [<- hW]
        simp only [sortWorldK, grow, putRowK, putRow, mapBlock, ahead];rw [Db (by simpa using hs'), Eh, if_neg (fun e => hne e.symm)]
        rfl
    have heW : Env AN [] W := (hr.env.of (w' := W) (ι' := ι) (by rw [<- hW]; simp [sortWorldK, grow, putRowK, putRow, mapBlock, ahead]) (fun b' hb' hni => by
      have hne : b' ≠ b := fun e => hni (e ▸ Xz hι);rw [<- hW];simp only [sortWorldK, grow, putRowK, putRow, mapBlock, ahead];rw [Db (by simpa using hb'), Eh, if_neg (fun e => hne e.symm)]
      rfl) (fun _ _ h => h)).noth
    have arg : ∀ i, RV AN [] [] W (.p (f (nth xs (ix i)))) (.agg (enc i).toArray) := fun i => by
      obtain ⟨cs, q1, q2, q3⟩ := cell (ix i) (hix i);refine .p _ _ ?_;rw [q1]
      refine (RP.agg cs (enc i).toArray (by simp [hk, q2]) fun j y hj => ?_ : RP AN W _ _).weaker fun b hb => by
        rcases hb with hb | hb
        · exact hb
        · simp at hb
      have hjk : j < k := by rw [<- q2]; exact (ZS.1 hj).1
      have e9 : (enc i).toArray.getD j undef = c.getD (ix i * k + j) undef := by
        have := CC (c := c) (i := ix i) hjk;rw [List.getElem!_eq_getElem?_getD, VP (by rw [FL]; exact hjk)] at this;simp only [Xy, Ks];rw [VP (by rw [hk]; exact hjk), JA];rw [JA] at this;simpa only [Xy] using this
      rw [e9];exact (q3 j y hj).2.ext hKeep
    refine ((hcmp (nth xs (ix x)) (nth xs (ix y))).2 AN [] W _ (FN heW) ⟨rfl, fun j q hj => ?_⟩).mono ?_
    · cases j with
      | zero => simp at hj; subst hj; exact arg x
      | succ j => cases j with
        | zero => simp at hj; subst hj; exact arg y
        | succ j => simp at hj
    · rintro e' w' ⟨x', H', ι', v, rfl, ⟨rfl, rfl⟩, gd, rv⟩
      cases rv with | p _ _ rp =>
      rw [rp.int_inv];exact ⟨rfl, gS gd⟩
  have eg := (hcmp default default).1;have main := AnyQ.slices_SortFunc L k aE zE enc hk one cf' hO' g #[] b (0 * k) cap d w (fun args w => eg args w) hcmp' hHolds hbs (by rw [hd]; exact hlen);rw [hd] at main;refine main.mono ?_;rintro e' w' ⟨rfl, d', m, os, hp, hso, rfl⟩;obtain ⟨p1, _, p3⟩ := hp;rw [hd] at p1
  have hperm : d'.toList.Perm (List.range n) := by
    have e8 : (d'.extract 0 n).toList = d'.toList := by rw [<- p1]; simp
    have e9 : (d.extract 0 n).toList = List.range n := by
      have : d.extract 0 n = d := by rw [<- hd]; simp
      rw [this]; simp [d]
    rw [e8, e9] at p3; exact p3
  have hlt : ∀ i ∈ d'.toList, i < n := fun i hi => by simpa using hperm.mem_iff.1 hi
  have hlt2 : ∀ i, i < n -> d'.toList[i]?.isSome = true := fun i hi => by simp [p1, hi]
  have hget : ∀ i (hi : i < n), d'[i]! = d'.toList[i]'(by simp [p1, hi]) := fun i hi => by
    rw [getElem!_pos d' i Za]; simp
  let ys : List β := d'.toList.map (nth xs)
  have hyl : ys.length = n := by simp [ys, p1]
  have hys : ∀ i (hi : i < n), ys[i]'(Za) = nth xs d'[i]! := fun i hi => by
    simp only [ys, List.getElem_map]; rw [hget i hi]
  have hdl : ∀ i, i < n -> d'[i]! < n := fun i hi => by rw [hget i hi]; exact hlt _ (QA _)
  have yperm : ys.Perm xs := by
    have h9 : (List.range n).map (nth xs) = xs := by
      refine Qe (by simp [hL]) fun i h1 h2 => ?_;simp only [List.getElem_map, List.getElem_range];rw [Zi h2]
    have := hperm.map (nth xs);rw [h9] at this; exact this
  have ysort : ys.Pairwise fun a b => ¬ cf b a < 0 := by
    rw [Ui];intro i j hi hj hij;rw [hys i Za, hys j Za];have h9 := hso i j (Nat.zero_le _) hij Za;simp only [ltOf, cf', Yu] at h9;rwa [hixe _ (hdl j Za), hixe _ (hdl i Za)] at h9
  let c' : Array Value := putCells id (0 * k) (flatK enc k d') c
  have hcs : c'.size = c.size := by simp [c', putCells]
  have hat : (sortWorldK enc k w b (0 * k) m d' os).heap[b]? = some (.cells c' t (0, 0)) := by
    simp only [sortWorldK, grow, putRowK, putRow, mapBlock, ahead];rw [Db (by simpa using hbs), Eh, if_pos rfl]
    show Option.map _ w.heap[b]? = _
    rw [hw]; rfl
  have hoth : ∀ q, q < w.heap.size -> q ≠ b -> (sortWorldK enc k w b (0 * k) m d' os).heap[q]? = w.heap[q]? := fun q hq hne => by
    simp only [sortWorldK, grow, putRowK, putRow, mapBlock, ahead];rw [Db (by simpa using hq), Eh, if_neg (fun e => hne e.symm)]
    rfl
  have hc' : ∀ i j, i < n -> j < k -> c'.getD (i * k + j) undef = c.getD (d'[i]! * k + j) undef := fun i j hi hj => by
    have hb1 : i * k + j < n * k := by
      have := Yh k (show i + 1 <= n from hi);rw [Yb, VR] at this; omega
    have e8 : (flatK enc k d')[i * k + j]! = c.getD (d'[i]! * k + j) undef := by
      rw [get_flatK enc k d' _ (by rw [p1]; exact hb1)]
      have q1 : (i * k + j) / k = i := by rw [Ax, Nat.mul_add_div Za, Cg hj]; omega
      have q2 : (i * k + j) % k = j := by rw [Ax, Nat.mul_add_mod, Ao hj]
      rw [q1, q2]
      show (Po c k (ix d'[i]!))[j]! = _
      rw [CC hj, hixe _ (hdl i hi)]
    have e9 : c'[i * k + j]? = some ((flatK enc k d')[i * k + j]!) := by
      simp only [c', putCells, Array.getElem?_mapIdx];rw [Array.getElem?_eq_getElem Za];simp only [Cn, Nat.zero_mul, Nat.zero_le, VY, XV, size_flatK, p1, hb1, if_true, Nat.sub_zero, id]
    rw [Xy, e9, JA, e8]
  have good := X5 (w' := sortWorldK enc k w b (0 * k) m d' os) (c := c') (t := t) (xs' := ys.map f) (cap := cap2) (b' := b) hr (o := o) (S := k) (xs := xs.map f) hHo rfl (Tp.of rfl (by simp [sortWorldK, grow, putRowK, putRow, mapBlock, ahead])) rfl
    (fun c0 t0 h => by rw [hw] at h; simp at h; obtain ⟨rfl, rfl⟩ := h; exact ⟨rfl, hcs⟩) (by simp [sortWorldK, grow, putRowK, putRow, mapBlock, ahead]) hat hoth (.inl ⟨hι, .inl ⟨by simp [hyl, hL], fun c0 t0 h => by rw [hw] at h; simp at h; obtain ⟨rfl, rfl⟩ := h; exact ⟨rfl, hcs⟩⟩⟩)
    (by rw [hcs]; exact e3) (by simp only [ZK, hyl]; simpa [hL] using e4) e5
    (fun i x hi => by
      rw [XJ, ZT] at hi;obtain ⟨y, _, rfl⟩ := hi;obtain ⟨cs, q1, q2, _⟩ := hf y
      rw [q1]; exact q2)
    (fun i x j y hi hj => by
      rw [XJ, ZT] at hi;obtain ⟨z, hz, rfl⟩ := hi
      have hin : i < n := by have := (ZS.1 hz).1; omega
      have e8 : z = nth xs d'[i]! := by
        obtain ⟨h9, h10⟩ := ZS.1 hz;rw [<- h10]; exact hys i hin
      obtain ⟨cs, q1, q2, q3⟩ := cell _ (hdl i hin);rw [e8, q1] at hj
      have hjk : j < k := by rw [<- q2]; exact (ZS.1 hj).1
      rw [hc' i j hin hjk]
      exact (q3 j y hj).2)
  have hset : ι.set o (some b) = ι := by
    refine JN fun i => ?_;rw [UQ]
    split
    · rename_i e; subst e
      have := (ZS.1 hι).1;rw [if_pos this, hι]
    · rfl
  rw [hset] at good;exact ⟨.tup [], _, ι, .tuple #[], rfl, ⟨rfl, ys, yperm, ysort, rfl⟩, good, .tup [] #[] rfl (fun j c hj => by simp at hj)⟩
end Go.AM
namespace Go.Proofs.YtiigdaohjanidaaGreatDoor.K
open Go Go.AM Go.Proofs
set_option maxRecDepth 60000
set_option maxHeartbeats 8000000
theorem R0 {α:Type} [Inhabited α] {l:List α} {i j:Nat} {a:α} (h:i<l.length):nth (l.set i a) j=if i=j then a else nth l j:=by
 grind [nth]
theorem rD {α:Type} [Inhabited α] {l:List α} {j:Nat} {a:α} (h:j<l.length):nth (l++ [a]) j=nth l j:=by
 grind [nth]
theorem I9 {α:Type} [Inhabited α] {l:List α} {a:α} :nth (l++ [a]) l.length=a:=by
 grind [nth]
def cfK (a b:Col):Int:=rN [Qr a.typ b.typ,Qr a.set b.set]
theorem eO {a b:Int} :Qr a b<0↔a<b:=by grind [Qr]
theorem eQ {a b:Int} :Qr a b=0↔a=b:=by grind [Qr]
theorem EY {a b:Col} :cfK a b<0↔a.typ<b.typ\/(a.typ=b.typ/\a.set<b.set):=by
 grind [cfK,Lc,eQ,eO]
theorem pB : Go.Sort.SWO (ltOf cfK) where
 irrefl x:=by grind [ltOf,EY]
 trans x y z h1 h2:=by simp only [ltOf,Zp,EY] at *;omega
 ntrans x y z h1 h2:=by grind [ltOf,EY]
theorem Mk (a b:Col):PC 197 [.p (Yn a),.p (Yn b)] (.int .i64 (cfK a b)):=by
 refine Zd Tryz.func197 rfl Zbq ?_;simp (disch:=omega) only [Tryz.f197,go_sem,seval];refine Xr (Zc ?_);refine Zr (G6 a.typ b.typ) (Zc ?_);refine Zr (G6 a.set b.set) (Zc ?_);refine Zr (Zdf [Qr a.typ b.typ,Qr a.set b.set] false Zb) (Zc ?_)
 rfl
theorem tA (xs:List Col) (hl:xs.length<=1048576) {H:List AM.Obj} {o:Nat} (hH:H[o]? =some (.elems 7 (xs.map Yn))) :
  ACalls Tryz.prog 103 [.sl o 0 xs.length xs.length,.fn (.func 197) [] []] H fun y H'=>y= .tup []/\ ∃ys:List Col,ys.Perm xs/\ys.Pairwise (fun a b=> ¬cfK b a<0)/\H'=H.set o (.elems 7 (ys.map Yn)) :=
 ACalls.sortFunc NR hJ 7 Tryz.isAgg158 Tryz.sizeOf158 Yn (fun x=>⟨_,rfl,rfl,rfl⟩) cfK pB 197 Mk xs Za hH
def kd (c:Col):Kd:=⟨c.typ,c.set⟩
def Bst (l:List Col) (k:Nat) (d:Col):Prop:= ∃j,j<k/\nth l j=d/\ ∀i,i<k->kd (nth l i)=kd d->d.price<(nth l i).price\/(d.price=(nth l i).price/\j<=i)
structure Chp (l:List Col) (k:Nat) (m:List (Kd×Int)) (out:List Col):Prop where
 len:out.length<=k
 at1: ∀i,i<out.length->mq m (kd (nth out i))=some (i:Int)
 at2: ∀q v,mq m q=some v-> ∃i,i<out.length/\v=i/\kd (nth out i)=q
 bst: ∀i,i<out.length->Bst l k (nth out i)
 all: ∀j,j<k-> ∃i,i<out.length/\kd (nth out i)=kd (nth l j)
theorem eK (l:List Col):Chp l 0 [] []:=⟨Zb,fun i h=>by simp at h,fun q v h=>by simp [mq] at h,fun i h=>by simp at h,fun j h=>by simp at h⟩
theorem pH {l:List Col} {k:Nat} {m m':List (Kd×Int)} {out:List Col} (h:Chp l k m out) (hn:mq m (kd (nth l k))=none) (hm: ∀q,mq m' q=if q=kd (nth l k) then some (out.length:Int) else mq m q):Chp l (k+1) m' (out++ [nth l k]):=by
 have hno: ∀i,i<out.length->kd (nth out i)≠kd (nth l k):=fun i hi e=>by
  have:=h.at1 i hi
  grind
 have split: ∀i,i<(out++ [nth l k]).length->(i<out.length/\nth (out++ [nth l k]) i=nth out i)\/(i=out.length/\nth (out++ [nth l k]) i=nth l k):=fun i hi=>by
  simp only [ZG,Zw,Zz] at hi;rcases WS i out.length with h1 | h1
  ·grind [rD]
  ·obtain rfl:i=out.length:=Za
   exact .inr ⟨rfl,I9⟩
 refine ⟨by have:=h.len;simp;omega,fun i hi=> ?_,fun q v hq=> ?_,fun i hi=> ?_,fun j hj=> ?_⟩
 ·rcases split i hi with ⟨h1,e⟩ | ⟨rfl,e⟩
  ·rw [e,hm,if_neg (hno i h1)];exact h.at1 i h1
  grind
 ·rw [hm] at hq
  split at hq
  ·grind [I9]
  ·obtain ⟨i,h1,h2,h3⟩:=h.at2 q v hq
   grind
 ·rcases split i hi with ⟨h1,e⟩ | ⟨rfl,e⟩
  ·rw [e];obtain ⟨j,h2,h3,h4⟩:=h.bst i h1;refine ⟨j,Za,h3,fun p hp he=> ?_⟩
   grind
  ·rw [e];refine ⟨k,Za,rfl,fun p hp he=> ?_⟩;rcases B9.1 hp with h5 | rfl
   ·obtain ⟨i,h6,h7⟩:=h.all p h5
    grind
   omega
 ·rcases B9.1 hj with h5 | rfl
  ·obtain ⟨i,h6,h7⟩:=h.all j h5
   grind
  ·exact ⟨out.length,Zb,by rw [I9]⟩
theorem pI {l:List Col} {k:Nat} {m:List (Kd×Int)} {out:List Col} {i:Nat} (h:Chp l k m out) (hi:i<out.length) (hk:kd (nth out i)=kd (nth l k)):Chp l (k+1) m (if (nth l k).price<(nth out i).price then out.set i (nth l k) else out):=by
 have hun: ∀j,j<out.length->kd (nth out j)=kd (nth l k)->j=i:=fun j hj e=>by
  have h1:=h.at1 j hj;have h2:=h.at1 i hi
  grind
 split
 ·rename_i hp
  have key: ∀j,kd (nth (out.set i (nth l k)) j)=kd (nth out j):=fun j=>by
   grind [R0]
  refine ⟨by have:=h.len;simp;omega,fun j hj=> ?_,fun q v hq=> ?_,fun j hj=> ?_,fun j hj=> ?_⟩
  ·rw [key];exact h.at1 j (by grind)
  ·obtain ⟨j,h1,h2,h3⟩:=h.at2 q v hq
   grind
  ·simp only [Ck] at hj;rw [R0 hi]
   split
   ·rename_i e;subst e;refine ⟨k,Za,rfl,fun p hp2 he=> ?_⟩;rcases B9.1 hp2 with h5 | rfl
    ·obtain ⟨j,h6,h7,h8⟩:=h.bst i hi
     grind
    omega
   ·rename_i e;obtain ⟨p,h2,h3,h4⟩:=h.bst j hj;refine ⟨p,Za,h3,fun p' hp' he=> ?_⟩
    grind
  ·rcases B9.1 hj with h5 | rfl
   ·obtain ⟨p,h6,h7⟩:=h.all j h5
    grind
   grind
 ·rename_i hp;refine ⟨by have:=h.len;omega,h.at1,h.at2,fun j hj=> ?_,fun j hj=> ?_⟩
  ·obtain ⟨p,h2,h3,h4⟩:=h.bst j hj;refine ⟨p,Za,h3,fun p' hp' he=> ?_⟩
   grind
  ·rcases B9.1 hj with h5 | rfl
   ·exact h.all j h5
   grind
structure Cheap (l ys:List Col):Prop where
 asc:ys.Pairwise fun a b=>cfK a b<0
 bst: ∀d∈ys,Bst l l.length d
 all: ∀c∈l,∃d∈ys,kd d=kd c
theorem pG {l:List Col} {m:List (Kd×Int)} {out ys:List Col} (h:Chp l l.length m out) (hp:ys.Perm out) (ha:ys.Pairwise fun a b=> ¬cfK b a<0):Cheap l ys:=by
 have hnd:out.Pairwise fun a b=>kd a≠kd b:=by
  rw [Ui];intro i j hi hj hij e;have h1:=h.at1 i hi;have h2:=h.at1 j hj
  grind [Zi]
 have hnd2:ys.Pairwise fun a b=>kd a≠kd b:=(hp.pairwise_iff fun h e=>h e.symm).2 hnd;refine ⟨(hnd2.and ha).imp fun {a b} hh=> ?_,fun d hd=> ?_,fun c hc=> ?_⟩
 ·rw [EY] at hh ⊢
  grind [kd]
 ·obtain ⟨i,hi,rfl⟩:=ZU.1 (hp.mem_iff.1 hd);rw [<- Zi hi];exact h.bst i hi
 ·obtain ⟨j,hj,rfl⟩:=ZU.1 hc;obtain ⟨i,hi,e⟩:=h.all j hj
  grind [Zi]
theorem OH (l:List Col) (c:Bool) (hl:l.length<=8192):ACalls Tryz.prog 150 [.p (.list c (l.map Yn))] [] fun y H'=> ∃ys:List Col,(Cheap l ys/\ys.length<=l.length)/\y= .p (.list false (ys.map Yn))/\H'= []:=by
 refine Zf [15] Tryz.func150 rfl ZaT ?_;simp (disch:=omega) only [Tryz.f150,go_sem,seval];refine Zk [3,11,12] (fun q:Nat×List (Kd×Int)×List Col=> [(4,.sl 1 0 q.2.2.length q.2.2.length),(13,.p (.int .i64 q.1))]) (fun q=> [.map (q.2.1.map (Mx bS)),.elems 7 (q.2.2.map Yn)]) (fun q=>q.1<=l.length/\Chp l q.1 q.2.1 q.2.2) (fun q=>l.length-q.1) (0,[],[]) ⟨Zb,eK l⟩ (Weak.ofNil 4 7 (by simp (disch:=omega) only [go_sem,seval]) Zb (Weak.mk ?_)) ?_
 ·simp (disch:=omega) only [Zn,Zz,go_sem,seval]
 ·rintro ⟨k,m,out⟩ ⟨hk,hC⟩;simp only at hk hC;have hol:=hC.len;refine Zc ?_;refine cD ?_ ?_<;>intro h1<;>simp (disch:=omega) only [Sh.out h1,go_sem,seval,↓reduceIte]
  ·have hk2:k<l.length:=Za
   refine iR (l:=m) (k:=kd (nth l k)) iK (fun _ _=>trivial) trivial (by rfl) (Zc ?_)
   cases hq:mq m (kd (nth l k)) with
   | none =>
    simp (disch:=omega) only [An,Option.getD_none,go_sem,seval];refine Ln (l:=m) (k:=kd (nth l k)) iK (fun _ _=>trivial) trivial (by rfl) fun m' hm' _=> ?_;simp (disch:=omega) only [Xe,go_sem,seval];exact ⟨(k+1,m',out++ [nth l k]),⟨Za,pH hC hq hm'⟩,Za,Weak.mk (by simp (disch:=omega) only [XA,Zs,Zn,ZG,Zw,Zz,XV,go_sem,seval])⟩
   | some v =>
    obtain ⟨i,hi,rfl,hkd⟩:=hC.at2 _ _ hq;have hold:=pI hC hi hkd;simp (disch:=omega) only [JM,JA,go_sem,seval];refine Xr ?_;simp (disch:=first | omega | (simp only [Zw,Zz,ZG,ZK,ZQ,Z4]<;>omega)) only [YC hi,hi,go_sem,seval,↓reduceIte];refine ZI ?_ ?_<;>intro h2
    ·rw [if_pos h2] at hold;simp (disch:=first | omega | (simp only [Zw,Zz,ZG,ZK,ZQ,Z4]<;>omega)) only [go_sem,seval];exact ⟨(k+1,m,out.set i (nth l k)),⟨Za,hold⟩,Za,Weak.mk (by simp (disch:=omega) only [Vc,Ck,go_sem,seval])⟩
    ·rw [if_neg h2] at hold;exact ⟨(k+1,m,out),⟨Za,hold⟩,Za,wk⟩
  ·have hkl:k=l.length:=Za
   subst hkl;refine (tA out Za (H:=_) (o:=1) rfl).mono ?_;rintro y H' ⟨rfl,ys,g1,g2,rfl⟩;have hyl:ys.length=out.length:=g1.length_eq;simp (disch:=omega) only [XE,Xe,go_sem,seval];rw [<- hyl];refine Zq (Weak.fz (o:=1) (by rfl)) (Zg [] _ _ _ _ (Vm ?_));exact ⟨.p (.list false (ys.map Yn)),[],wk,ys,⟨pG hC g1 g2,Za⟩,rfl,rfl⟩
def Yw (x:Inst):Nat->Nat
 | 0=>0
 | i+1=>if (nth x.orders i).off=true then Yw x i else Yw x i|||pw i
theorem M7 (x:Inst): ∀i,Yw x i<2^i
 | 0=>by simp [Yw]
 | i+1=>by
  have:=M7 x i
  have h:2^(i+1)=2*2^i:=Za
  rw [Yw]
  split
  ·omega
  ·exact Qc Za (by rw [pw];omega)
theorem UD (x:Inst): ∀(n i:Nat),(Yw x n).testBit i=(decide (i<n)&& !(nth x.orders i).off)
 | 0,i=>by simp [Yw]
 | n+1,i=>by
  rw [Yw]
  split
  ·rename_i h;rw [UD x n i]
   by_cases e:i=n
   ·subst e;simp [h]
   ·have:decide (i<n+1)=decide (i<n):=by simp;omega
    rw [this]
  ·rename_i h;rw [Ar,UD x n i,pw,Nat.testBit_two_pow]
   grind
theorem xM (o:Ord):PC 195 [.p (eOrd o)] (.bool true):=by
 refine Zd Tryz.func195 rfl Zbo ?_;simp (disch:=omega) only [Tryz.f195,go_sem,seval,↓reduceIte]
theorem ZdE (x:Inst) (hn:x.orders.length<=10):PC 194 [.p (ZE x),.fn (.func 195) [] []] (.int .i64 ((Yw x x.orders.length:Nat):Int)):=by
 refine Zf [] Tryz.func194 rfl Zbn ?_;simp (disch:=omega) only [Tryz.f194,go_sem,seval];refine Zk [1,9,10] (fun k:Nat=> [(5,.p (.int .i64 ((Yw x k:Nat):Int))),(11,.p (.int .i64 k))]) (fun _=> [Zh x]) (fun k=>k<=x.orders.length) (fun k=>x.orders.length-k) 0 Zb (Weak.mk ?_) ?_
 ·have h00:((Yw x 0:Nat):Int)=0:=rfl;simp (disch:=omega) only [h00,Zh,go_sem,seval]
 ·intro k hk;refine VI ?_;refine cD ?_ ?_<;>intro h1<;>simp (disch:=omega) only [Sh.out h1,go_sem,seval,↓reduceIte]
  ·have hk2:k<x.orders.length:=Za
   have hm:=M7 x k;have hp:2^k<=2^10:=Y1 Za Za;have hpw:pw k<=1024:=hp;refine Bb ?_ ?_<;>intro h2
   ·refine (xM (nth x.orders k)).use (Zc ?_)
    have ho:(nth x.orders k).off=false:=by grind
    exact ⟨k+1,Za,Za,Weak.mk (by simp (disch:=omega) only [Yw,ho,Yi,go_sem,seval,↓reduceIte])⟩
   ·have ho:(nth x.orders k).off=true:=by grind
    exact ⟨k+1,Za,Za,Weak.mk (by simp (disch:=omega) only [Yw,ho,go_sem,seval,↓reduceIte])⟩
  ·have hkl:k=x.orders.length:=Za
   subst hkl;exact we
theorem Zdi (x:Inst) (hn:x.orders.length<=10):PC 148 [.p (ZE x)] (.int .i64 ((Yw x x.orders.length:Nat):Int)):=by
 refine Zd Tryz.func148 rfl ZaR ?_;simp (disch:=omega) only [Tryz.f148,go_sem,seval];refine (ZdE x hn).use ?_;simp (disch:=omega) only [go_sem,seval]
def bI (S M:Nat):Bool:=(List.range 63).all fun i=> !S.testBit i||M.testBit i
theorem sW (S M:Nat) (hS:S<9223372036854775808):PC 196 [.p (.int .i64 (S:Int)),.p (.int .i64 (M:Int))] (.bool (bI S M)):=by
 refine Zd Tryz.func196 rfl Zbp ?_;simp (disch:=omega) only [Tryz.f196,go_sem,seval];have hb:=DF (S:=S) (M:=M) hS
 have hd:decide (IntKind.i64.wrap ((BitVec.ofInt 64 (S:Int)&&& ~~~BitVec.ofInt 64 (M:Int)).toNat:Int)=0)=((List.range 63).all fun i=> !S.testBit i||M.testBit i):=by
  grind
 exact Z5 (fun b=>V.p (PV.bool b)) hd
def rightB (x:Inst) (c:Col):Bool:=decide (0<=c.typ)&&(decide (c.typ<x.types.length)&&(decide (0<c.set)&&(bI c.set.toNat (Yw x x.orders.length)&&(decide (0<=c.price)&&decide (c.price<=18014398509481984)))))
theorem S6 (x:Inst) (c:Col) (hs:c.set<9223372036854775808) (ht:x.types.length<=1048576):PC 149 [.p (ZE x),.p (Yn c),.p (.int .i64 ((Yw x x.orders.length:Nat):Int))] (.bool (rightB x c)):=by
 refine Zd Tryz.func149 rfl ZaS ?_;simp (disch:=omega) only [Tryz.f149,go_sem,seval];refine gT ?_ ?_<;>intro h1<;>simp (disch:=omega) only [Sh.out h1,go_sem,seval,↓reduceIte]
 ·refine gT ?_ ?_<;>intro h2<;>simp (disch:=omega) only [Sh.out h2,go_sem,seval,↓reduceIte]
  ·refine gT ?_ ?_<;>intro h3<;>simp (disch:=omega) only [Sh.out h3,go_sem,seval,↓reduceIte]
   ·obtain ⟨S,hS⟩: ∃S:Nat,c.set=(S:Int):=⟨c.set.toNat,Za⟩
    have e1:rightB x c=(bI S (Yw x x.orders.length)&&(decide (0<=c.price)&&decide (c.price<=18014398509481984))):=by
     simp_all [rightB]
    rw [hS];refine (sW S (Yw x x.orders.length) Za).use (Zc ?_);refine gT ?_ ?_<;>intro h4<;>simp (disch:=omega) only [Sh.out h4,go_sem,seval,↓reduceIte]
    ·refine gT ?_ ?_<;>intro h5<;>simp (disch:=omega) only [Sh.out h5,go_sem,seval,↓reduceIte]
     ·grind
     grind
    grind
   grind [rightB]
  grind [rightB]
 ·simp [rightB,h1]
theorem Zpd (n:Nat) (h0:0<n) (h:n<16):PC 159 [.p (.int .u64 n)] (.int .i64 (A4 n)):=by
 refine Zd Tryz.func159 rfl Za0 ?_;simp (disch:=omega) only [Tryz.f159,go_sem,seval];refine (ZdJ n h0 h).use ?_;simp (disch:=omega) only [go_sem,seval]
theorem NK (n:Nat) (h0:0<n) (h:n<16):PC 107 [.p (.int .i64 n)] (.int .i64 (A4 n)):=by
 refine Zd Tryz.func107 rfl Zak ?_;simp (disch:=omega) only [Tryz.f107,go_sem,seval];refine cD ?_ ?_<;>intro h1<;>simp (disch:=omega) only [Sh.out h1,go_sem,seval]
 ·omega
 ·refine (Zpd n h0 h).use ?_;simp (disch:=omega) only [go_sem,seval]
def skpF (x:Inst) (i:Nat):Int:=if (XQ x i).2=0/\(Xn (XQ x i).1).2=0 then (Xn (XQ x i).1).1 else-1
def Yr (ys:List Col) (i:Nat):List Col:=ys.filter fun c=>decide (A4 c.set.toNat=(i:Int))
def fstF (n:Nat) (ys:List Col):List (List Col):=(List.range n).map (Yr ys)
theorem T2 {ys:List Col} {k i:Nat} (h:k<ys.length):Yr (ys.take (k+1)) i=if A4 (nth ys k).set.toNat=(i:Int) then Yr (ys.take k) i++ [nth ys k] else Yr (ys.take k) i:=by
 grind [Xl,Yr,nth]
theorem lA (i:Nat):Yr [] i= []:=rfl
theorem Cz (ys:List Col) (k i:Nat):(Yr (ys.take k) i).length<=ys.length:=by
 refine JF (List.length_filter_le _ _) ?_;simp;omega
theorem Jq (ys):fstF 0 ys= []:=rfl
theorem Qs (ys):fstF 1 ys= [Yr ys 0]:=rfl
theorem Qt (ys):fstF 2 ys= [Yr ys 0,Yr ys 1]:=rfl
theorem Qu (ys):fstF 3 ys= [Yr ys 0,Yr ys 1,Yr ys 2]:=rfl
theorem Qv (ys):fstF 4 ys= [Yr ys 0,Yr ys 1,Yr ys 2,Yr ys 3]:=rfl
def CE : List (List Col)->Nat->List V
 | [],_=> []
 | p::P,o=> .sl o 0 p.length p.length::CE P (o+1)
def HP (P:List (List Col)):List AM.Obj:=P.map fun p=> .elems 7 (p.map Yn)
theorem TI {n0:Nat} {fr:List V} {a b c:AM.Obj} (h0:n0<=4) (n:Nat):Weak n0 fr [a,b,c,.cells (List.replicate n (.p (.list true [])))] fr (a::b::c:: .cells (CE (List.replicate n []) 4)::HP (List.replicate n [])):=by
 have hr: ∀(k o:Nat),CE (List.replicate k []) o=(List.range k).map fun j=>V.sl (o+j) 0 0 0:=fun k=>by
  induction k with
  | zero=>intro o;rfl
  | succ k ih =>
   intro o;rw [Kt,CE,ih,List.range_succ_eq_map,Zs,JE];simp only [Zz,Wu,Ci,VY];apply YH
   grind
 have key: ∀k,k<=n->Weak n0 fr [a,b,c,.cells (List.replicate n (.p (.list true [])))] fr (a::b::c:: .cells (((List.range k).map fun j=>V.sl (4+j) 0 0 0)++List.replicate (n-k) (.p (.list true [])))::List.replicate k (.elems 7 [])):=fun k=>by
  induction k with
  | zero=>grind [Weak.refl]
  | succ k ih =>
   intro hk
   have h1:=(ih Za).trans (Weak.nilC (n0:=n0) (fr:=fr) (o:=3) (j:=k) 7 (by rfl) (by
    grind) (by simp;omega))
   have e1:List.length (a::b::c::AM.Obj.cells (((List.range k).map fun j=>V.sl (4+j) 0 0 0)++List.replicate (n-k) (.p (.list true [])))::List.replicate k (AM.Obj.elems 7 []))=4+k:=by simp;omega
   have e2:(((List.range k).map fun j=>V.sl (4+j) 0 0 0)++List.replicate (n-k) (V.p (.list true []))).set k (.sl (4+k) 0 0 0)=((List.range (k+1)).map fun j=>V.sl (4+j) 0 0 0)++List.replicate (n-(k+1)) (V.p (.list true [])):=by
    rw [List.set_append_right _ _ Zb,show n-k=(n-(k+1))+1 by omega,Kt,Yv,XA];simp
   grind [List.replicate_succ']
 have:=key n (Zv _)
 simp_all [HP]
def skF (x:Inst) (n:Nat):List Int:=(List.range n).map (skpF x)
def oY (x:Inst) (m:Int) (f g:V):AM.Obj:= .cells [.p (.list x.net.places_c (x.net.places.map eS)),.p (.list x.net.arcs_c (x.net.arcs.map WV)),.p (.list x.types_c (x.types.map WW)),.p (.list x.orders_c (x.orders.map eOrd)),.p (.list x.apart_c (x.apart.map eP)),.p (.list x.before_c (x.before.map eP)),f,g,.mp 1,.p (.int .i64 m)]
theorem JS {x:Inst} {c:Col} (h:rightB x c=true) (hs:c.set<9223372036854775808): ∃S:Nat,c.set=S/\0<S/\S<2^x.orders.length/\ ∀i,S.testBit i=true->i<x.orders.length/\(nth x.orders i).off=false:=by
 simp only [rightB,Zy,Zp] at h;obtain ⟨_,_,h3,h4,_⟩:=h
 have key: ∀i,c.set.toNat.testBit i=true->i<x.orders.length/\(nth x.orders i).off=false:=fun i hi=>by
  have h63:i<63:=by
   rcases WS i 63 with h | h
   ·exact h
   ·have:2^63<=2^i:=Y1 Za h
    grind [Aj]
  have:=Zt.1 h4 i (ZP.2 h63)
  grind [UD]
 refine ⟨c.set.toNat,Za,Za,?_,key⟩;refine Ec _ fun i hi=> ?_
 grind
theorem ZdK {S n:Nat} (h0:0<S) (h:S<2^n) (hn:n<=4):A4 S<n/\0<=A4 S:=by
 have:n=0\/n=1\/n=2\/n=3\/n=4:=Za
 unfold A4
 grind
theorem F5 (x:Inst) (k:Nat):skF x (k+1)=skF x k++ [skpF x k]:=by simp [skF,Yv]
theorem JT (x:Inst) (k:Nat):(skF x k).length=k:=by simp [skF]
theorem Zj1 (x:Inst):skF x 0= []:=rfl
theorem iO {P:Program} {ko:List Nat} {l:List Oper} {n:Nat} {rem:List Nat} {fr:List V} {H:List AM.Obj} {K:List V->List AM.Obj->Prop} (m:Nat) (Y:V) (Z:List AM.Obj) (hr:VT l rem= [m]) (h:Zx P (Z2 l m) fr H fun y H'=>y=Y/\H'=Z)
  (k:(∀k∈ko,oat Z k=oat H k)/\AZ P ko l n (rem.erase m) (Wj fr (Z2 l m).dst Y) Z K):AZ P ko l (n+1) rem fr H K :=
 Hu m _ hr h fun y H' hq=>by grind
theorem S5 (x:Inst) (l:List Col) (lc:Bool) (hn:x.orders.length<=4) (ht:x.types.length<=1048576) (hu: ∀i:Nat,Uk 1152921504606846976 (XQ x i).1) (hs: ∀c∈l,c.set<9223372036854775808) (hl:l.length<=1048576) :
  ACalls Tryz.prog 99 [.p (ZE x),.p (.list lc (l.map Yn))] [] fun y H'=>(8192<l.length/\y= .tup [.p .nilp,.p (.int .i64 4)]/\H'= [])\/(l.length<=8192/\(∃c∈l,rightB x c=false)/\y= .tup [.p .nilp,.p (.int .i64 2)]/\H'= []) \/
   (l.length<=8192/\(∀c∈l,rightB x c=true)/\ ∃ys,(Cheap l ys/\ys.length<=l.length)/\y= .tup [.ptr 2 0,.p (.int .i64 0)]/\H'= .cells (List.replicate 6 .junk)::(YW x (.list false ((fstF x.orders.length ys).map Wf)) (.list false ((skF x x.orders.length).map eI)) (Yw x x.orders.length) []).map (shO 1)):=by
 refine Zf [10] Tryz.func99 rfl Zje ?_;simp (disch:=omega) only [Tryz.f99,go_sem,seval];refine cD ?_ ?_<;>intro h0<;>simp (disch:=omega) only [Sh.out h0,go_sem,seval]
 ·exact ⟨_,[],wk,.inl ⟨Za,rfl,rfl⟩⟩
 ·refine XI [1] 4 mixed Ze Ze Ze Zb (Zc ?_);refine Zr (Zdi x Za) (Zc ?_);refine ZL 1 _ _ Ze (by refine Zc ?_;exact ⟨rfl,rfl⟩) (Yo ?_);simp (disch:=omega) only [show ∀(l:List V),QI (V.mp 1::l)=none from fun _=>rfl,Option.map_none,go_sem,seval];refine Zk [1,2,6,27,28] (fun k:Nat=> [(29,.p (.int .i64 k))]) (fun _=> [Zh x,.map [],oY x ((Yw x x.orders.length:Nat):Int) (.p (.list true [])) (.p (.list true []))]) (fun k=>k<=l.length/\ ∀j,j<k->rightB x (nth l j)=true) (fun k=>l.length-k) 0 ⟨Za,fun j hj=>Za⟩ (Weak.mk ?_) ?_
  ·simp (disch:=omega) only [Zh,oY,go_sem,seval]
  ·rintro k ⟨hk,hr⟩;simp (disch:=omega) only [Zh,oY,go_sem,seval];refine cD ?_ ?_<;>intro h1<;>simp (disch:=omega) only [Sh.out h1,go_sem,seval,↓reduceIte]
   ·have hk2:k<l.length:=Za
    refine Xr (Zc ?_);refine Zr (S6 x (nth l k) (hs _ (ZF hk2)) ht) (Zc ?_)
    cases hq:rightB x (nth l k) with
    | false =>
     refine KT ?_;exact ⟨_,[],wk,.inr (.inl ⟨Za,⟨_,ZF hk2,hq⟩,rfl,rfl⟩)⟩
    | true =>
     refine J7 ?_
     exact ⟨k+1,⟨Za,fun j hj=>by
      grind⟩,Za,wk⟩
   ·have hkl:k=l.length:=Za
    subst hkl
    have X8: ∀c∈l,rightB x c=true:=fun c hc=>by
     obtain ⟨j,hj,rfl⟩:=ZU.1 hc
     grind [Zi]
    clear hr hk h1;generalize ((Yw x x.orders.length:Nat):Int)=m;have hun: ∀i:Nat,PT 151 [.p (ZE x),.p (.int .i64 i)] [.p (AQ (XQ x i).1),.p (.int .i64 (XQ x i).2)]:=fun i=>Nq x i Za;refine Vs (Iw 4 rfl rfl (Zc ?_));refine ⟨_,_,HG 205 110 _ _ x.orders.length 24 (.list true []) rfl Ze Ze Ze Ze (by rfl) Za Za (by simp (disch:=omega) only [go_sem,seval]) (by simp (disch:=omega) only [go_sem,seval]),?_⟩
    refine Zc ?_
    have h5:x.orders.length=0\/x.orders.length=1\/x.orders.length=2\/x.orders.length=3\/x.orders.length=4:=Za
    refine Zq (TI Zb x.orders.length) ?_;refine Zg [17] _ _ _ _ (Zc ?_);refine (OH l lc Za).useV fun ys hC=>Zc ?_;obtain ⟨hC,hyl⟩:=hC;rcases h5 with h5 | h5 | h5 | h5 | h5
    all_goals
     simp (disch:=omega) only [h5,List.replicate,CE,HP,Zs,Zn,go_sem,seval];refine Zk [2,6,50,51] (fun k:Nat=> [(52,.p (.int .i64 k))]) (fun k=> [Zh x,.map [],oY x m (.sl 3 0 x.orders.length x.orders.length) (.p (.list true [])),.cells (CE (fstF x.orders.length (ys.take k)) 4)]++HP (fstF x.orders.length (ys.take k))) (fun k=>k<=ys.length) (fun k=>ys.length-k) 0 Za (Weak.mk ?_) ?_
     ·simp (disch:=omega) only [h5,Ya,lA,Zz,Jq,Qs,Qt,Qu,Qv,CE,HP,Zs,Zn,ZW,ZM,Zh,oY,go_sem,seval]
     ·intro k hk;simp (disch:=omega) only [h5,Jq,Qs,Qt,Qu,Qv,CE,HP,Zs,Zn,ZW,ZM,Zh,oY,go_sem,seval];refine cD ?_ ?_<;>intro h1<;>simp (disch:=omega) only [Sh.out h1,go_sem,seval,↓reduceIte]
      ·have hk2:k<ys.length:=Za
       obtain ⟨j,hj,hjl,_⟩:=hC.bst _ (ZF hk2)
       have hmem:nth ys k∈l:=by rw [<- hjl];exact ZF hj
       obtain ⟨S,hS,hS0,hS1,hS2⟩:=JS (X8 _ hmem) (hs _ hmem);have hlt:=ZdK hS0 hS1 hn;have h16:S<16:=Ku hS1 (by rw [h5];decide)
       have cl:PC 107 [.p (.int .i64 (nth ys k).set)] (.int .i64 (A4 (nth ys k).set.toNat)):=by
        rw [hS];exact NK S hS0 h16
       refine (cl).use ?_;simp (disch:=omega) only [go_sem,seval]
       have htz:A4 (nth ys k).set.toNat=A4 S:=by rw [hS];rfl
       have hi:A4 (nth ys k).set.toNat=0\/A4 (nth ys k).set.toNat=1\/A4 (nth ys k).set.toNat=2\/A4 (nth ys k).set.toNat=3:=Za
       rcases hi with hi | hi | hi | hi
       all_goals try omega
       all_goals
        simp (disch:=omega) only [hi,go_sem,seval];refine A9 [14] [1,2,3] [2] 15 mixed Ze Ze Ze Ze Zb ?_;simp (disch:=omega) only [go_sem,seval,↓reduceIte];refine ⟨fun q hq p' hp=> ?_,?_⟩
        ·simp only [X2,Jz,or_false] at hq;rcases hq with rfl | rfl | rfl
         ·obtain rfl:59=p':=Vx hp;exact UC (by decide)
         ·obtain rfl:60=p':=Vx hp;exact UC (by decide)
         ·obtain rfl:61=p':=Vx hp;exact UC (by decide)
        ·have q0:=Cz ys k 0;have q1:=Cz ys k 1;have q2:=Cz ys k 2;have q3:=Cz ys k 3;refine iO 14 _ _ Ze (by simp (disch:=omega) only [go_sem,seval,↓reduceIte];exact ⟨rfl,rfl⟩) ?_;refine ⟨fun k hk=>by simp at hk;subst hk;rfl,RL ?_⟩;simp (disch:=omega) only [go_sem,seval];exact ⟨k+1,Za,Za,Weak.mk (by simp (disch:=omega) only [h5,T2 hk2,hi,XA,ZG,Zw,Zz,XV,Qs,Qt,Qu,Qv,CE,Zs,Zn,go_sem,seval,↓reduceIte])⟩
      ·have hkl:k=ys.length:=Za
       subst hkl;clear hk h1
       try refine Zq (Weak.fz (o:=4) (by rfl)) ?_
       try refine Zq (Weak.fz (o:=5) (by rfl)) ?_
       try refine Zq (Weak.fz (o:=6) (by rfl)) ?_
       try refine Zq (Weak.fz (o:=7) (by rfl)) ?_
       refine Zg [17] _ _ _ _ ?_;simp (disch:=omega) only [Xi,Zs,Zn,XE,Xe,eq_self,go_sem,seval,↓reduceIte];refine Zq (Weak.fzC (o:=3) (ys:=(fstF x.orders.length ys).map Wf) (by rw [h5];rfl) (fun y hy=>by obtain ⟨p,_,rfl⟩:=Xv.1 hy;rfl)) ?_;refine Zg [17] _ _ _ _ ?_;simp (disch:=omega) only [h5,Jq,Qs,Qt,Qu,Qv,Zs,Zn,XE,Xe,Zw,Zz,XV,Nat.reduceAdd,eq_self,go_sem,seval,↓reduceIte]
       refine Zg [28] _ _ _ _ ?_;simp (disch:=omega) only [go_sem,seval,↓reduceIte];refine Zk [2,6,78] (fun k:Nat=> [(79,.p (.int .i64 k))]) (fun k=> [Zh x,.map [],oY x m (.p (.list false ((fstF x.orders.length ys).map Wf))) (.sl (4+x.orders.length) 0 k k),.dead]++List.replicate x.orders.length .dead++ [.elems 1 ((skF x k).map eI)]) (fun k=>k<=x.orders.length) (fun k=>x.orders.length-k) 0 Za ((Weak.nilC (o:=2) (j:=7) 1 (by rfl) (by rfl) Zb).trans (Weak.mk ?_)) ?_
       ·simp (disch:=omega) only [h5,Zj1,List.replicate,XE,Xe,Zw,Zz,XV,Nat.reduceAdd,Jq,Qs,Qt,Qu,Qv,Zs,Zn,ZW,ZM,Zh,oY,go_sem,seval]
       ·intro k hk;simp (disch:=omega) only [h5,List.replicate,Nat.reduceAdd,Jq,Qs,Qt,Qu,Qv,Zs,Zn,ZW,ZM,Zh,oY,go_sem,seval];refine cD ?_ ?_<;>intro h1<;>simp (disch:=omega) only [Sh.out h1,go_sem,seval,↓reduceIte]
        ·have hk2:k<x.orders.length:=Za
         refine W1 (hun k) ?_;simp (disch:=omega) only [go_sem,seval,↓reduceIte];refine cD ?_ ?_<;>intro h2<;>simp (disch:=omega) only [Sh.out h2,go_sem,seval,↓reduceIte]
         ·refine W1 (HH _ (hu k)) ?_;simp (disch:=omega) only [go_sem,seval];refine cD ?_ ?_<;>intro h3<;>simp (disch:=omega) only [Sh.out h3,go_sem,seval,↓reduceIte]
          ·have hsk:skpF x k=(Xn (XQ x k).1).1:=by simp [skpF,h2,h3]
           simp (disch:=omega) only [JT,go_sem,seval];rw [if_pos ⟨Za,Za⟩];simp (disch:=omega) only [JT,ZK,ZG,Zw,Zz,XV,eq_self,Vd,go_sem,seval];exact ⟨k+1,Za,Za,Weak.mk (by simp (disch:=omega) only [h5,F5,hsk,XA,List.replicate,Nat.reduceAdd,Jq,Qs,Qt,Qu,Qv,Zs,Zn,ZW,ZM,go_sem,seval])⟩
          ·have hsk:skpF x k= -1:=by simp [skpF,h3]
           simp (disch:=omega) only [JT,go_sem,seval];rw [if_pos ⟨Za,Za⟩];simp (disch:=omega) only [JT,ZK,ZG,Zw,Zz,XV,eq_self,Vd,go_sem,seval];exact ⟨k+1,Za,Za,Weak.mk (by simp (disch:=omega) only [h5,F5,hsk,XA,List.replicate,Nat.reduceAdd,Jq,Qs,Qt,Qu,Qv,Zs,Zn,ZW,ZM,go_sem,seval])⟩
         ·have hsk:skpF x k= -1:=by simp [skpF,h2]
          simp (disch:=omega) only [JT,go_sem,seval];rw [if_pos ⟨Za,Za⟩];simp (disch:=omega) only [JT,ZK,ZG,Zw,Zz,XV,eq_self,Vd,go_sem,seval];exact ⟨k+1,Za,Za,Weak.mk (by simp (disch:=omega) only [h5,F5,hsk,XA,List.replicate,Nat.reduceAdd,Jq,Qs,Qt,Qu,Qv,Zs,Zn,ZW,ZM,go_sem,seval])⟩
        ·have hkl:k=x.orders.length:=Za
         clear hk h1;refine Zq (Weak.fz (o:=4+x.orders.length) (S:=1) (xs:=(skF x k).map eI) (by rw [h5];rfl)) ?_;refine Zg [] _ _ _ _ ?_;simp (disch:=omega) only [h5,Zs,Zn,XE,Xe,ZK,JT,Nat.reduceAdd,eq_self,go_sem,seval,↓reduceIte];exact ⟨.tup [.ptr 2 0,.p (.int .i64 0)],_,Weak.mk (by simp (disch:=omega) only [hkl,h5,YW,VF,shO,shVs,shV,Jq,Qs,Qt,Qu,Qv,Zs,Zn,go_sem,seval]),.inr (.inr ⟨Za,X8,ys,⟨hC,hyl⟩,rfl,rfl⟩)⟩
theorem ZdL : ∀S:Fin 16,0<S.val->sHas (S.val:Int) (A4 S.val)=true:=by decide+kernel
theorem lX {x:Inst} (hx:InstOk x) (i:Nat): -1<=skpF x i/\skpF x i<=18014398509481984:=by
 unfold skpF
 split
 ·rename_i h
  have hm:(XQ x i).1.cost<=1000000/\(XQ x i).1.moved<=1/\0<=(XQ x i).1.moved/\(XQ x i).1.other=0/\(XQ x i).1.work=0:=by
   unfold XQ
   split
   ·simp [zSco]
   ·split
    ·simp [zSco]
    ·split
     ·simp [zSco]
     ·have ha:=(hx.orders.2 (i:Int).toNat Za).arg;simp only [argOk,rng,Zy,Zp] at ha
      grind
  obtain ⟨_,h2⟩:=h;unfold Xn at h2 ⊢
  grind
 ·omega
theorem Rf {x:Inst} {l ys:List Col} (hx:InstOk x) (hn:x.orders.length<=4) (hC:Cheap l ys) (hr: ∀c∈l,rightB x c=true) (hs: ∀c∈l,c.set<9223372036854775808):ChOk x.orders.length x (fstF x.orders.length ys) (skF x x.orders.length):=by
 refine ⟨fun i hi c hc=> ?_,?_,fun i hi=> ?_⟩
 ·have e:nth (fstF x.orders.length ys) i=Yr ys i:=by
   grind [fstF,Zi]
  rw [e,Yr,JB] at hc;obtain ⟨h1,h2⟩:=hc;simp only [Zp] at h2;obtain ⟨j,hj,hjl,_⟩:=hC.bst c h1
  have hm:c∈l:=by grind [ZF]
  obtain ⟨S,q1,q2,q3,_⟩:=JS (hr c hm) (hs c hm);have h16:S<16:=Ku q3 (Y1 (n:=2) Za hn);have hb:=ZdL ⟨S,h16⟩ q2;have hr1:=hr c hm;simp only [rightB,Zy,Zp] at hr1
  grind
 ·have ht:=hx.types;simp only [typesOk,rng,Zp] at ht;refine ⟨Za,fun t _=> ?_⟩;rcases WS t x.types.length with h | h
  ·have:=ht.2 t h;unfold A3 at this;have:=this.1.1.1.1.1.1.2;simp only [rng,Zp] at this;omega
  ·rw [show nth x.types t=default from by grind [nth]]
   decide
 simp_all [skF,Zi,lX]
def zSt : St:=⟨0,0,[0,0,0,0,0,0]⟩
def Tz (x:Inst) (ys:List Col):Int:=Y7 x.orders.length ((Yw x x.orders.length:Nat):Int) x (fstF x.orders.length ys) (skF x x.orders.length) 20 (Vp x.orders.length ((Yw x x.orders.length:Nat):Int) zSt)
theorem wV (n:Nat):StV n zSt:=⟨rfl,⟨by decide,by simp [zSt]⟩,⟨0,rfl,Za⟩,fun j hj=>by
 have:nth zSt.used j=0:=by
  have:j=0\/j=1\/j=2\/j=3\/j=4\/j=5:=Za
  rcases this with rfl | rfl | rfl | rfl | rfl | rfl<;>rfl
 omega⟩
def kp (c:Col):Int×Int×Int:=(c.typ,c.set,c.price)
theorem eD {l ys:List Col} (h:Cheap l ys) {c:Col} (hc:c∈l): ∃d∈ys,kd d=kd c/\d.price<=c.price:=by
 obtain ⟨d,hd,e⟩:=h.all c hc;obtain ⟨j,hj,rfl⟩:=ZU.1 hc;obtain ⟨i,hi,_,h3⟩:=h.bst d hd
 grind [Zi]
theorem eC {l ys:List Col} (h:Cheap l ys) {d:Col} (hd:d∈ys):d∈l:=by
 obtain ⟨j,hj,e,_⟩:=h.bst d hd
 grind [ZF]
theorem Nc {n i:Nat} {ys:List Col} :nth (fstF n ys) i=if i<n then Yr ys i else []:=by
 split
 ·grind [fstF,Zi]
 ·rename_i h;rw [nth,JH,List.getElem?_eq_none (by simp [fstF];omega)];rfl
def bV (a b:Int):Prop:=b<0\/(0<=a/\a<=b)
theorem Ru {x:Inst} {s:St} {r:Col->Int} (hr: ∀c,-1<=r c): ∀ {l:List Col} {a:Int},(∀c∈l,0<=c.price) ->
  bV (l.foldl (fun o c=>if YE x s c=true then YV o c.price (r c) else o) a) a/\ ∀c∈l,YE x s c=true->0<=r c->bV (l.foldl (fun o c=>if YE x s c=true then YV o c.price (r c) else o) a) (c.price+r c)
 | [],a,_=>⟨by grind [bV],fun c hc=>by simp at hc⟩
 | d::l,a,hp=>by
  have hd:=hp d Zb;obtain ⟨g1,g2⟩:=Ru (x:=x) (s:=s) hr (l:=l) (a:=if YE x s d=true then YV a d.price (r d) else a) fun c hc=>hp c (YQ _ hc);rw [Vb];generalize l.foldl (fun o c=>if YE x s c=true then YV o c.price (r c) else o) (if YE x s d=true then YV a d.price (r d) else a)=M at g1 g2;refine ⟨?_,fun c hc hy h0=> ?_⟩
  ·grind [bV,YV]
  ·rcases X2.1 hc with rfl | hc
   ·rw [if_pos hy] at g1
    grind [bV,YV]
   grind
theorem Hk {x:Inst} {s:St} {r:Col->Int} : ∀ {l:List Col} {a:Int},l.foldl (fun o c=>if YE x s c=true then YV o c.price (r c) else o) a=a\/ ∃c∈l,YE x s c=true/\0<=r c/\l.foldl (fun o c=>if YE x s c=true then YV o c.price (r c) else o) a=c.price+r c
 | [],a=> .inl rfl
 | d::l,a=>by
  rw [Vb];rcases Hk (x:=x) (s:=s) (r:=r) (l:=l) (a:=if YE x s d=true then YV a d.price (r d) else a) with h | ⟨c,h1,h2,h3,h4⟩
  ·rw [h]
   split
   ·rename_i hy;unfold YV
    split
    ·grind
    omega
   omega
  grind
abbrev Cm := { c:Col // ∃S:Nat,c.set=S/\0<S/\S<16 }
instance : Inhabited Cm := ⟨⟨⟨0, 1, 0, default⟩, 1, rfl, by decide, by decide⟩⟩
def lo (c:Col):Int:=A4 c.set.toNat
def cfC (a b:Col):Int:=rN [Qr a.typ b.typ,Qr (lo a) (lo b)]
theorem OG {a b:Col} :cfC a b<0↔a.typ<b.typ\/(a.typ=b.typ/\lo a<lo b):=by
 grind [cfC,Lc,eQ,eO]
def yY (a b:Cm):Int:=cfC a.val b.val
theorem pC : Go.Sort.SWO (ltOf yY) where
 irrefl x:=by grind [ltOf,yY,OG]
 trans x y z h1 h2:=by simp only [ltOf,yY,Zp,OG] at *;omega
 ntrans x y z h1 h2:=by grind [ltOf,yY,OG]
theorem Zjp (c:Cm):PC 107 [.p (.int .i64 c.val.set)] (.int .i64 (lo c.val)):=by
 obtain ⟨c,S,h1,h2,h3⟩:=c
 grind [lo,NK]
theorem S7 (a b:Cm):PC 104 [.p (Yn a.val),.p (Yn b.val)] (.int .i64 (yY a b)):=by
 refine Zd Tryz.func104 rfl Zah ?_;simp (disch:=omega) only [Tryz.f104,go_sem,seval];refine Xr (Zc ?_);refine Zr (G6 a.val.typ b.val.typ) (Zc ?_);refine Zr (Zjp a) (Zc ?_);refine Zr (Zjp b) (Zc ?_);refine Zr (G6 (lo a.val) (lo b.val)) (Zc ?_);refine Zr (Zdf [Qr a.val.typ b.val.typ,Qr (lo a.val) (lo b.val)] false Zb) (Zc ?_)
 rfl
theorem sZ (xs:List Cm) (hl:xs.length<=1048576) {H:List AM.Obj} {o:Nat} (hH:H[o]? =some (.elems 7 (xs.map fun c=>Yn c.val))) :
  ACalls Tryz.prog 103 [.sl o 0 xs.length xs.length,.fn (.func 104) [] []] H fun y H'=>y= .tup []/\ ∃ys:List Cm,ys.Perm xs/\ys.Pairwise (fun a b=> ¬yY b a<0)/\H'=H.set o (.elems 7 (ys.map fun c=>Yn c.val)) :=
 ACalls.sortFunc NR hJ 7 Tryz.isAgg158 Tryz.sizeOf158 (fun c:Cm=>Yn c.val) (fun x=>⟨_,rfl,rfl,rfl⟩) yY pC 104 S7 xs Za hH
theorem Dl {n:Nat} {m:Int} {x:Inst} {fst:List (List Col)} {sk:List Int} : ∀(d:Nat) (s:St),∀c∈(Yy n m x fst sk d s).1,∃i,i<fst.length/\c∈nth fst i
 | 0,s,c,h=>by simp [Yy] at h
 | d+1,s,c,h=>by
  rw [Yy] at h
  split at h
  ·simp at h
  ·split at h
   ·rename_i c' hf;simp only [X2] at h;rcases h with rfl | h
    ·refine ⟨s.ix.toNat,?_,VO hf⟩;rcases WS s.ix.toNat fst.length with h | h
     ·exact h
     ·rw [show nth fst s.ix.toNat= [] from by simp [nth,JH,List.getElem?_eq_none h];rfl] at hf;simp at hf
    ·exact Dl d _ c h
   ·exact Dl d _ c h
def LH : Pln:=⟨true,[],true,[]⟩
def Oc (x:Inst) (l:List Col) (p:Pln) (c e:Int):Prop:=(8192<l.length/\p=LH/\c=0/\e=4)\/(l.length<=8192/\(∃c∈l,rightB x c=false)/\p=LH/\c=0/\e=2) \/
 (l.length<=8192/\(∀c∈l,rightB x c=true)/\ ∃ys,Cheap l ys/\ys.length<=l.length/\((Tz x ys<0/\p=LH/\c=0/\e=24)\/(0<=Tz x ys/\c=Tz x ys/\e=0 /\
  ∃zs:List Col,zs.Perm (Yy x.orders.length ((Yw x x.orders.length:Nat):Int) x (fstF x.orders.length ys) (skF x x.orders.length) 20 (Vp x.orders.length ((Yw x x.orders.length:Nat):Int) zSt)).1/\zs.Pairwise (fun a b=> ¬cfC b a<0) /\
   p=⟨false,zs.map (·.route),false,(Yy x.orders.length ((Yw x x.orders.length:Nat):Int) x (fstF x.orders.length ys) (skF x x.orders.length) 20 (Vp x.orders.length ((Yw x x.orders.length:Nat):Int) zSt)).2⟩)))
theorem Dk {n:Nat} {m:Int} {x:Inst} {fst:List (List Col)} {sk:List Int} : ∀(d:Nat) (s:St),(Yy n m x fst sk d s).1.length<=d/\(Yy n m x fst sk d s).2.length<=d
 | 0,s=>by simp [Yy]
 | d+1,s=>by
  rw [Yy]
  split
  ·simp
  ·split
   ·rename_i c' hf;have:=Dk (n:=n) (m:=m) (x:=x) (fst:=fst) (sk:=sk) d (VD n m s c');simp;omega
   ·have:=Dk (n:=n) (m:=m) (x:=x) (fst:=fst) (sk:=sk) d (Dh n m s);simp;omega
theorem TY (x:Inst) (l:List Col) (lc:Bool) (hx:InstOk x) (hn:x.orders.length<=4) (ht:x.types.length<=1048576) (hs: ∀c∈l,c.set<9223372036854775808) (hl:l.length<=1048576) :
  ACalls Tryz.prog 64 [.p (ZE x),.p (.list lc (l.map Yn))] [] fun y H'=> ∃p c e,Oc x l p c e/\y= .tup [.p (Wh p),.p (.int .i64 c),.p (.int .i64 e)]/\H'= []:=by
 refine Zf [16] Tryz.func64 rfl ZiQ ?_;simp (disch:=omega) only [Tryz.f64,go_sem,seval];refine ((S5 x l lc hn ht (fun i=>YT Za (Gg hx _)) hs hl).behind (by rfl) _).mono ?_;rintro y H' ⟨y1,H1,hq,rfl,rfl⟩;rcases hq with ⟨h1,rfl,rfl⟩ | ⟨h1,h2,rfl,rfl⟩ | ⟨h1,h2,ys,⟨hC,hyl⟩,rfl,rfl⟩
 ·simp (disch:=omega) only [shV,shVs,Zn,go_sem,seval];exact ⟨.tup [.p (Wh LH),.p (.int .i64 0),.p (.int .i64 4)],[],Weak.mk (by simp (disch:=omega) only [LH,Zn,go_sem,seval]),_,_,_,Or.inl ⟨h1,rfl,rfl,rfl⟩,rfl,rfl⟩
 ·simp (disch:=omega) only [shV,shVs,Zn,go_sem,seval];exact ⟨.tup [.p (Wh LH),.p (.int .i64 0),.p (.int .i64 2)],[],Weak.mk (by simp (disch:=omega) only [LH,Zn,go_sem,seval]),_,_,_,Or.inr (Or.inl ⟨h1,h2,rfl,rfl,rfl⟩),rfl,rfl⟩
 ·have hok:=Rf hx hn hC h2 hs
  have hcl: ∀r∈fstF x.orders.length ys,r.length<=1048576:=fun r hr=>by
   obtain ⟨p,_,rfl⟩:=Xv.1 hr
   grind [Yr]
  obtain ⟨m,hm⟩: ∃m:Int,m=((Yw x x.orders.length:Nat):Int):=⟨_,rfl⟩;obtain ⟨B,hB⟩: ∃B,B=Tz x ys:=⟨_,rfl⟩;simp (disch:=omega) only [shV,shVs,shO,YW,VF,Zs,Zn,List.replicate,ZW,ZM,go_sem,seval];rw [<- hm];refine ACalls.mono ((F3 x (.list false ((fstF x.orders.length ys).map Wf)) (.list false ((skF x x.orders.length).map eI)) m [] zSt rfl (by decide) Za (by decide)).back [Zh x,.cells [.p (.list true []),.p (.list true [])],.cells (List.replicate 6 .junk)] (by rfl)) ?_;rintro y H' ⟨y1,H1,⟨rfl,rfl⟩,rfl,rfl⟩;obtain ⟨v1,_⟩:=Lt (m:=m) (wV x.orders.length)
  have hrg:=V7 (m:=m) hok 20 _ v1
  have hbb:B=Y7 x.orders.length m x (fstF x.orders.length ys) (skF x x.orders.length) 20 (Vp x.orders.length m zSt):=by rw [hB,Tz,hm]
  rw [<- hbb] at hrg;obtain ⟨R,hR⟩: ∃R,R=Yy x.orders.length m x (fstF x.orders.length ys) (skF x x.orders.length) 20 (Vp x.orders.length m zSt):=⟨_,rfl⟩;obtain ⟨i,w,b0,b1,b2,b3,b4,b5,hw⟩:=YK v1.len;have hRr:=hR;rw [hw] at hbb v1 hR ⊢;simp (disch:=omega) only [shV,shVs,shO,YW,VF,Zs,Zn,List.replicate,ZW,ZM,go_sem,seval];have c3:=((D7 x (fstF x.orders.length ys) (skF x x.orders.length) false false m Za (by simp [fstF]) (by simp [skF]) hok hcl 20 ⟨i,w,[b0,b1,b2,b3,b4,b5]⟩ [] Za v1 (by have:=v1.ix;omega) (fun p hp=>by simp at hp)).mono (fun y H' hq=>(⟨hq,by obtain ⟨l',_,_,rfl⟩:=hq;rfl⟩:_/\H'.length=(YW x (.list false ((fstF x.orders.length ys).map Wf)) (.list false ((skF x x.orders.length).map eI)) m []).length))).front (by rfl) (by rfl) [Br ⟨i,w,[b0,b1,b2,b3,b4,b5]⟩]
  refine ACalls.mono (c3.back [Zh x,.cells [.p (.list true []),.p (.list true [])],.cells (List.replicate 6 .junk)] (by rfl)) ?_;rintro y H' ⟨y1,H1,⟨H2,⟨l',hl',rfl,rfl⟩,rfl⟩,rfl,rfl⟩;rw [<- hbb];simp (disch:=omega) only [shV,shVs,shO,YW,VF,Br,Zs,Zn,List.replicate,ZW,ZM,go_sem,seval];refine cD ?_ ?_<;>intro h3<;>simp (disch:=omega) only [Sh.out h3,go_sem,seval,↓reduceIte]
  ·exact ⟨.tup [.p (Wh LH),.p (.int .i64 0),.p (.int .i64 24)],[],Weak.mk (by simp (disch:=omega) only [LH,Zn,go_sem,seval]),_,_,_,Or.inr (Or.inr ⟨h1,h2,ys,hC,hyl,Or.inl ⟨Za,rfl,rfl,rfl⟩⟩),rfl,rfl⟩
  ·refine ACalls.mono ((Zdl (Br ⟨i,w,[b0,b1,b2,b3,b4,b5]⟩) (by intro H n;simp (disch:=omega) only [Br,Zs,Zn,go_sem,seval]) (by intro o xs;rfl) x (fstF x.orders.length ys) (skF x x.orders.length) false false m Za (by simp [fstF]) (by simp [skF]) hok hcl ⟨i,w,[b0,b1,b2,b3,b4,b5]⟩ l' v1 hl').back [Zh x,.cells [.p (.list true []),.p (.list true [])],.cells (List.replicate 6 .junk)] (by rfl)) ?_;rintro y H' ⟨y1,H1,⟨l2,A,U,hl2,hAU,rfl,rfl⟩,rfl,rfl⟩;rw [<- hR] at hAU;have hlen:=Dk (n:=x.orders.length) (m:=m) (x:=x) (fst:=fstF x.orders.length ys) (sk:=skF x x.orders.length) 20 (Vp x.orders.length m zSt)
   rw [<- hRr,<- hAU] at hlen
   have hA: ∀c∈A,∃S:Nat,c.set=S/\0<S/\S<16:=fun c hc=>by
    have hc':c∈(Yy x.orders.length m x (fstF x.orders.length ys) (skF x x.orders.length) 20 (Vp x.orders.length m zSt)).1:=by grind
    obtain ⟨j,hj,hm2⟩:=Dl _ _ _ hc'
    have e:nth (fstF x.orders.length ys) j=Yr ys j:=by
     grind [fstF,Zi]
    rw [e,Yr,JB] at hm2;obtain ⟨q,hq,hql,_⟩:=hC.bst c hm2.1
    have hmem:c∈l:=by grind [ZF]
    obtain ⟨S,q1,q2,q3,_⟩:=JS (h2 c hmem) (hs c hmem);exact ⟨S,q1,q2,Ku q3 (Y1 (n:=2) Za hn)⟩
   obtain ⟨L,hL⟩: ∃L:List Cm,L.map Subtype.val=A:=⟨A.pmap (fun c h=>⟨c,h⟩) hA,by simp [List.map_pmap]⟩;subst hL
   have hLl:(L.map Subtype.val).length=L.length:=Zb
   have hLe:(L.map Subtype.val).map Yn=L.map fun c=>Yn c.val:=Zb
   simp only at hlen;rw [hLl] at hlen;simp (disch:=omega) only [shV,shVs,shO,YW,VF,Br,Zs,Zn,List.replicate,ZW,ZM,hLl,hLe,go_sem,seval];refine ((sZ L Za (H:=_) (o:=7) rfl)).mono ?_;rintro y H' ⟨rfl,zs,hp,hsr,rfl⟩;have hzl:zs.length=L.length:=hp.length_eq;rw [<- hzl] at hlen ⊢;simp (disch:=omega) only [XE,Xe,go_sem,seval];obtain ⟨Z,hZ⟩: ∃Z,Z=zs.map Subtype.val:=⟨_,rfl⟩
   have hZl:Z.length=zs.length:=by rw [hZ];simp
   have hZe:Z.map Yn=zs.map fun c=>Yn c.val:=by rw [hZ];simp
   rw [<- hZl] at hlen ⊢
   have htl: ∀k,k<=Z.length->(Z.take k).length=k:=fun k hk=>by simp;omega
   refine Zk [4,10,13,45,46] (fun k:Nat=> [(47,.p (.int .i64 k))]) (fun k=> [Zh x,.cells [.p (.list true []),.p (.list true [])],.cells (List.replicate 6 .junk),.map (l2.map (Mx AR)),shO 3 (VF x (.list false ((fstF x.orders.length ys).map Wf)) (.list false ((skF x x.orders.length).map eI)) m),Br ⟨i,w,[b0,b1,b2,b3,b4,b5]⟩,.cells (List.replicate 8 .junk),.elems 7 (Z.map Yn),.cells [.sl 9 0 k k,.p (.list false (U.map eI))],.elems 4 ((Z.take k).map fun c=>Z0 c.route)]) (fun k=>k<=Z.length) (fun k=>Z.length-k) 0 Za ((Weak.nilC (o:=8) (j:=0) 4 (by rfl) (by rfl) Zb).trans (Weak.mk ?_)) ?_
   ·simp (disch:=omega) only [hZe,Ya,XE,Xe,Zw,Zz,XV,Nat.reduceAdd,shV,shVs,shO,VF,Br,Zs,Zn,List.replicate,ZW,ZM,Zh,go_sem,seval]
   ·intro k hk;simp (disch:=omega) only [shV,shVs,shO,VF,Br,Zs,Zn,List.replicate,Zh,go_sem,seval];refine cD ?_ ?_<;>intro h4<;>simp (disch:=omega) only [Sh.out h4,go_sem,seval,↓reduceIte]
    ·have hk2:k<Z.length:=Za
     simp (disch:=first | omega | (simp only [Zw,Zz,ZG,ZK,ZQ,Z4]<;>omega)) only [YC hk2,hk2,go_sem,seval,↓reduceIte]
     have hsc:Z.take (k+1)=Z.take k++ [nth Z k]:=by rw [Xl hk2,Zi hk2]
     rw [if_pos ⟨htl k hk,Za,Za⟩];simp (disch:=omega) only [htl k hk,ZK,ZG,Zw,Zz,XV,eq_self,Vd,go_sem,seval];exact ⟨k+1,Za,Za,Weak.mk (by simp (disch:=omega) only [hsc,XA,Zs,Zn,go_sem,seval])⟩
    ·have hkl:k=Z.length:=Za
     subst hkl;refine Zq (Weak.fz (o:=9) (by rfl)) ?_;refine Zg [] _ _ _ _ ?_;simp (disch:=omega) only [Zs,Zn,XE,Xe,Xi,go_sem,seval];exact ⟨.tup [.p (Wh ⟨false,Z.map (·.route),false,U⟩),.p (.int .i64 B),.p (.int .i64 0)],[],Weak.mk (by simp (disch:=omega) only [JE,Function.comp_def,go_sem,seval]),_,_,_,Or.inr (Or.inr ⟨h1,h2,ys,hC,hyl,Or.inr ⟨Za,hB,rfl,Z,by grind,by rw [hZ];exact List.pairwise_map.2 hsr,by grind⟩⟩),rfl,rfl⟩
def ky (l:List Col) (a:Int):Int×Int×Int:=if a<0 then (1,0,0) else (0,(nth l a.toNat).typ,(nth l a.toNat).set)
def ZnT (a b:Int×Int×Int):Prop:=a.1<b.1\/(a.1=b.1/\(a.2.1<b.2.1\/(a.2.1=b.2.1/\a.2.2<b.2.2)))
def KE (n:Nat) (l:List Col) (a b:List Int):Prop:= ∀t,t<n->ky l (nth a t)=ky l (nth b t)/\nth a t<=nth b t
def KL (n:Nat) (l:List Col) (a b:List Int):Prop:=(∃i,i<n/\(∀t,t<i->ky l (nth a t)=ky l (nth b t))/\ZnT (ky l (nth a i)) (ky l (nth b i)))\/KE n l a b
def mI (x:Inst):Int:=((Yw x x.orders.length:Nat):Int)
theorem Fq {x:Inst} (hn:x.orders.length<=4) {k:Nat} (hk:k<x.orders.length):sHas (mI x) k= !(nth x.orders k).off:=by
 grind [mI,UX,UD]
theorem BM {n:Nat} {s:St} (h:StV n s) {k:Nat} (hk:k<=62):sHas s.cov k=s.cov.toNat.testBit k:=by
 obtain ⟨C,hC,_⟩:=h.cov
 grind [UX]
structure Ctx (x:Inst) (l ys:List Col):Prop where
 n4:x.orders.length<=4
 t6:x.types.length<=6
 ch:Cheap l ys
 rt: ∀c∈l,rightB x c=true
 st: ∀c∈l,c.set<9223372036854775808
 ok:ChOk x.orders.length x (fstF x.orders.length ys) (skF x x.orders.length)
 sk: ∀k,k<x.orders.length->(nth x.orders k).off=false->(0<=(nth x.orders k).penalty↔0<=skpF x k)/\(0<=skpF x k->skpF x k=skR x k)
theorem Zc4 : ∀S:Fin 16,0<S.val-> ∀k:Fin 4,(A4 S.val=(k.val:Int)↔(S.val.testBit k.val=true/\ ∀i:Fin 4,i.val<k.val->S.val.testBit i.val=false)):=by decide+kernel
theorem Ge {S n k:Nat} (hS:0<S) (h:S<2^n) (hn:n<=4) (hk:k<n):A4 S=(k:Int)↔(S.testBit k=true/\ ∀i,i<n->S.testBit i=true->k<=i):=by
 have h16:S<16:=Ku h (Y1 (n:=2) Za hn);rw [show A4 S=(k:Int)↔_ from Zc4 ⟨S,h16⟩ hS ⟨k,Za⟩];refine Aq fun _=>⟨fun g i hi hb=> ?_,fun g i hi=> ?_⟩
 ·rcases WS i k with h1 | h1
  ·have:=g ⟨i,Za⟩ h1
   grind
  ·exact h1
 grind
theorem Ctx.set {x:Inst} {l ys:List Col} (h:Ctx x l ys) {c:Col} (hc:c∈l):c.set=(c.set.toNat:Int)/\0<c.set.toNat/\c.set.toNat<2^x.orders.length/\ ∀i,c.set.toNat.testBit i=true->i<x.orders.length/\(nth x.orders i).off=false:=by
 obtain ⟨S,h1,h2,h3,h4⟩:=JS (h.rt c hc) (h.st c hc)
 grind
theorem Ctx.typ {x:Inst} {l ys:List Col} (h:Ctx x l ys) {c:Col} (hc:c∈l):(0<=c.typ/\c.typ<x.types.length)/\0<=c.price:=by
 have:=h.rt c hc;simp only [rightB,Zy,Zp] at this;omega
structure Nd (x:Inst) (l:List Col) (a:List Int) (s:St) (k:Nat):Prop where
 len:a.length=x.orders.length
 ix:s.ix=k
 v:StV x.orders.length s
 cov: ∀i,i<x.orders.length->s.cov.toNat.testBit i=decide (0<=nth a i)
 rng: ∀i,i<x.orders.length-> -1<=nth a i/\nth a i<l.length
 used: ∀T:Nat,T<6->nth s.used T=usdI l a T x.orders.length
 grp: ∀i,i<x.orders.length->0<=nth a i-> ∀t,t<x.orders.length->(nth l (nth a i).toNat).set.toNat.testBit t=true->nth a t=nth a i
 old: ∀i,i<x.orders.length->k<=i->0<=nth a i-> ∃t,t<k/\(nth l (nth a i).toNat).set.toNat.testBit t=true
 own: ∀i,i<x.orders.length->0<=nth a i->(nth l (nth a i).toNat).set.toNat.testBit i=true
def Ex (s:St):St:= { s with ix:=s.ix+1 }
def AB (s:St) (c:Col):St:=⟨s.ix+1,((s.cov.toNat|||c.set.toNat:Nat):Int),s.used.set c.typ.toNat (nth s.used c.typ.toNat+1)⟩
theorem Nd.skip {x:Inst} {l:List Col} {a:List Int} {s:St} {k:Nat} (h:Nd x l a s k) (hk:k<x.orders.length) (ho:0<=nth a k-> ∃t,t<k/\(nth l (nth a k).toNat).set.toNat.testBit t=true):Nd x l a (Ex s) (k+1) :=
 ⟨h.len,by simp only [Ex,h.ix];omega,⟨h.v.len,by have:=h.ix;simp only [Ex];omega,h.v.cov,h.v.used⟩,h.cov,h.rng,h.used,h.grp,fun i hi hki h0=>by
  obtain ⟨t,h1,h2⟩:=h.old i hi Za h0
  grind,h.own⟩
theorem Nd.skip' {x:Inst} {l:List Col} {a:List Int} {s:St} {k:Nat} (h:Nd x l a s k) (hk:k<x.orders.length):Nd x l a (Ex s) (k+1):=h.skip hk fun h0=>h.old k hk (Zv _) h0
theorem II {x:Inst} {l ys:List Col} (hc:Ctx x l ys) {a:List Int} {s:St} {k j:Nat} (h:Nd x l a s k) (hk:k<x.orders.length) (hj:j<l.length):EW x l a j k=true↔(YE x s (nth l j)=true/\A4 (nth l j).set.toNat=(k:Int)):=by
 obtain ⟨hS,hS0,hS1,hS2⟩:=hc.set (ZF hj);obtain ⟨⟨ht0,ht1⟩,_⟩:=hc.typ (ZF hj);have ht6:=hc.t6;have hu:=h.used (nth l j).typ.toNat Za;rw [show (((nth l j).typ.toNat:Nat):Int)=(nth l j).typ by omega] at hu;rw [Ge hS0 hS1 hc.n4 hk];simp only [EW,YE,DW,Zy,Zp,Cr,h.len,hu]
 constructor
 ·rintro ⟨h1,h2,h3⟩;refine ⟨⟨Jv fun i=> ?_,h2⟩,h1,fun i hi hb=>(h3 i hi hb).2⟩;rw [Nat.testBit_and,Nat.zero_testBit]
  cases hb:(nth l j).set.toNat.testBit i with
  | false=>simp
  | true =>
   have hi:=(hS2 i hb).1;rw [h.cov i hi,US,Yu]
   grind
 ·rintro ⟨⟨h1,h2⟩,h3,h4⟩;refine ⟨h3,h2,fun i hi hb=>⟨?_,h4 i hi hb⟩⟩;have:=Z5 (fun z=>z.testBit i) h1;simp only [Nat.testBit_and,Nat.zero_testBit,hb,US] at this;rw [h.cov i hi,Yu] at this;omega
theorem AL {x:Inst} {l:List Col} {a:List Int} {k:Nat} {S:Nat} {j:Nat} (hl:a.length=x.orders.length) (hk:k<x.orders.length) (hb:S.testBit k=true) (hneg: ∀i,i<x.orders.length->S.testBit i=true->nth a i<0/\k<=i) (hfr: ∀i,i<x.orders.length->S.testBit i=false->nth a i≠(j:Int)) (T:Int) :
  ∀m,m<=x.orders.length->usdI l (AT S a j) T m=usdI l a T m+(if k<m/\(nth l j).typ=T then 1 else 0)
 | 0,_=>by simp [usdI]
 | i+1,hm=>by
  have hi:i<a.length:=Za
  rw [usdI,usdI,AL hl hk hb hneg hfr T i Za];have hset: ∀t,t<i->nth (AT S a j) t=if S.testBit t=true then (j:Int) else nth a t:=fun t ht=>XL Za
  cases hs:S.testBit i with
  | false =>
   have e:DZ l (AT S a j) T i=DZ l a T i:=by
    rw [DZ,DZ,XL hi,hs,if_neg Zb]
    by_cases h0:0<=nth a i
    ·have ef:OU (AT S a j) i=OU a i:=by
      rw [Yj,BY,BY,XL hi,hs,if_neg Zb]
      grind
     rw [ef]
    ·simp [h0]
   grind
  | true =>
   obtain ⟨hn,hki⟩:=hneg i Za hs
   have e2:DZ l a T i=false:=by
    simp_all [DZ,XK]
   have e1:DZ l (AT S a j) T i=(decide ((nth l j).typ=T)&&decide (k=i)):=by
    rw [DZ,XL hi,hs,if_pos rfl,Yk Za,Wt,XO]
    congr 1
    rw [Yj,BY,XL hi,hs,if_pos rfl,Zp]
    grind
   grind
theorem Nd.child {x:Inst} {l ys:List Col} (hc:Ctx x l ys) {a:List Int} {s:St} {k j:Nat} (h:Nd x l a s k) (hk:k<x.orders.length) (hj:j<l.length) (hcan:EW x l a j k=true):Nd x l (AT (nth l j).set.toNat a j) (AB s (nth l j)) (k+1):=by
 obtain ⟨hS,hS0,hS1,hS2⟩:=hc.set (ZF hj);obtain ⟨⟨ht0,ht1⟩,_⟩:=hc.typ (ZF hj);have ht6:=hc.t6;have hl6:s.used.length=6:=h.v.len;have hu:=h.used (nth l j).typ.toNat Za;rw [show (((nth l j).typ.toNat:Nat):Int)=(nth l j).typ by omega] at hu;have hcan':=hcan;simp only [EW,Zy,Zp,Cr,h.len] at hcan';obtain ⟨hb,hcnt,hneg⟩:=hcan';rw [<- hu] at hcnt;have hcount:=hc.ok.typ.2 (nth l j).typ.toNat Za;have hak:=(hneg k hk hb).1
 have hfr: ∀i,i<x.orders.length->(nth l j).set.toNat.testBit i=false->nth a i≠(j:Int):=fun i hi _ e=>by
  have:=h.grp i hi Za k hk (by grind [XO]);omega
 obtain ⟨C,hC,hC2⟩:=h.v.cov;have hS10:(nth l j).set.toNat<1024:=Ku hS1 (Y1 (n:=2) Za (show x.orders.length<=10 by have:=hc.n4;omega));refine ⟨by rw [KR];exact h.len,by simp only [AB,h.ix];omega,⟨by simp only [StR,AB,Ck];exact hl6,by have:=h.ix;simp only [AB];omega,⟨_,rfl,?_⟩,fun t ht=> ?_⟩,fun i hi=> ?_,fun i hi=> ?_,fun T hT=> ?_,fun i hi h0 t ht hbt=> ?_,fun i hi hki h0=> ?_,fun i hi h0=> ?_⟩
 ·rw [hC,XO];exact Qc (n:=10) hC2 hS10
 ·simp only [AB];rw [Fz Za]
  split
  ·omega
  ·exact h.v.used t ht
 ·simp only [AB,XO];rw [Ar,h.cov i hi,XL (by rw [h.len];exact hi)]
  grind
 ·rw [XL (by rw [h.len];exact hi)]
  split
  ·omega
  ·exact h.rng i hi
 ·simp only [AB];rw [Fz Za,AL h.len hk hb hneg hfr T _ (Zv _),h.used T hT]
  grind
 ·rw [XL (i:=i) (by rw [h.len];exact hi)] at h0 hbt ⊢;rw [XL (i:=t) (by rw [h.len];exact ht)]
  cases hbi:(nth l j).set.toNat.testBit i with
  | true =>
   rw [hbi,if_pos rfl,XO] at hbt
   grind
  | false =>
   rw [hbi,if_neg Zb] at h0 hbt;have e:=h.grp i hi h0 t ht hbt
   grind
 ·rw [XL (by rw [h.len];exact hi)] at h0 ⊢
  cases hbi:(nth l j).set.toNat.testBit i with
  | true =>
   rw [if_pos rfl,XO]
   grind
  | false =>
   rw [hbi,if_neg Zb] at h0;rw [if_neg Zb];obtain ⟨t,h1,h2⟩:=h.old i hi Za h0
   grind
 ·rw [XL (by rw [h.len];exact hi)] at h0 ⊢
  cases hbi:(nth l j).set.toNat.testBit i with
  | true=>rw [if_pos rfl,XO];exact hbi
  | false =>
   rw [hbi,if_neg Zb] at h0;rw [if_neg Zb];exact h.own i hi h0
def Lx (x:Inst) (ys:List Col) (D:Nat) (s:St):Int:=Y7 x.orders.length (mI x) x (fstF x.orders.length ys) (skF x x.orders.length) D (Vp x.orders.length (mI x) s)
theorem cA {x:Inst} {ys:List Col} {D:Nat} {s:St} (h:s.ix=x.orders.length):Lx x ys D s=0:=by
 unfold Lx
 cases D with
 | zero=>rfl
 | succ D =>
  simp_all [Y7,Vp,CJ]
theorem Du {n:Nat} {m:Int} {s:St} {k:Nat} (hk:s.ix=k) (hkn:k<n) (hc:sHas m k=false\/sHas s.cov k=true):Vp n m s=Vp n m (Ex s):=by
 simp_all [Vp,Ex,Ew]
theorem Dv {n:Nat} {m:Int} {s:St} {k:Nat} (hk:s.ix=k) (h1:sHas m k=true) (h2:sHas s.cov k=false):Vp n m s=s:=by
 obtain ⟨i,v,u⟩:=s
 simp_all [Vp,Dw]
theorem Gm {n:Nat} {m:Int} {s:St} {c:Col} {k:Nat} (hk:s.ix=k) (hkn:k<n) (hn:n<=4) (hb:c.set.toNat.testBit k=true):VD n m s c=Vp n m (AB s c):=by
 have e:=Du (n:=n) (m:=m) (s:=⟨s.ix,((s.cov.toNat|||c.set.toNat:Nat):Int),s.used.set c.typ.toNat (nth s.used c.typ.toNat+1)⟩) (k:=k) hk hkn (.inr (by
  simp only
  rw [UX _ _ Za,Ar,hb,Bool.or_true]))
 exact e
theorem KJ {x:Inst} {l ys:List Col} (hc:Ctx x l ys) {k:Nat} (hk:k<x.orders.length) {c:Col} (hm:c∈Yr ys k):c∈ys/\c∈l/\A4 c.set.toNat=(k:Int)/\c.set.toNat.testBit k=true:=by
 rw [Yr,JB,Zp] at hm;have hl:=eC hc.ch hm.1;obtain ⟨_,h0,h1,_⟩:=hc.set hl;exact ⟨hm.1,hl,hm.2,((Ge h0 h1 hc.n4 hk).1 hm.2).1⟩
theorem Od {x:Inst} {l ys:List Col} (hc:Ctx x l ys) {D:Nat} (hD:10<D) {s:St} {k:Nat} (hv:StV x.orders.length s) (hk:s.ix=k) (hkn:k<x.orders.length) (ho:(nth x.orders k).off=false) (hcv:s.cov.toNat.testBit k=false) :
  Lx x ys D s=if 0<=skpF x k then YV ((Yr ys k).foldl (fun o c=>if YE x s c=true then YV o c.price (Lx x ys D (AB s c)) else o) (-1)) (skpF x k) (Lx x ys D (Ex s)) else (Yr ys k).foldl (fun o c=>if YE x s c=true then YV o c.price (Lx x ys D (AB s c)) else o) (-1):=by
 have hn:=hc.n4
 have e1:Lx x ys D s=Y7 x.orders.length (mI x) x (fstF x.orders.length ys) (skF x x.orders.length) (D+1) s:=by
  rw [Lx,Dv hk (by grind [Fq]) (by grind [BM])];exact QV hc.ok _ _ s hv Za Za
 rw [e1,Y7,if_neg Za]
 have e2:nth (fstF x.orders.length ys) s.ix.toNat=Yr ys k:=by simp_all [Nc]
 have e3:nth (skF x x.orders.length) s.ix.toNat=skpF x k:=by grind [skF,Zi]
 have e4:(Yr ys k).foldl (fun o c=>if YE x s c=true then YV o c.price (Y7 x.orders.length (mI x) x (fstF x.orders.length ys) (skF x x.orders.length) D (VD x.orders.length (mI x) s c)) else o) (-1)=(Yr ys k).foldl (fun o c=>if YE x s c=true then YV o c.price (Lx x ys D (AB s c)) else o) (-1) :=
  Jp fun c hm o=>by rw [Gm hk hkn hn (KJ hc hkn hm).2.2.2];rfl
 simp only [e2,e3,e4]
 rfl
def KQ (x:Inst) (ys:List Col) (D:Nat) (s:St) (c:Col):Bool:=YE x s c&&(decide (0<=Lx x ys D (AB s c))&&decide (c.price+Lx x ys D (AB s c)=Lx x ys D s))
noncomputable def Bm (l:List Col) (d:Col):Nat:=open Classical in if h:Bst l l.length d then h.choose else 0
theorem R9 {l:List Col} {d:Col} (h:Bst l l.length d):Bm l d<l.length/\nth l (Bm l d)=d/\ ∀i,i<l.length->kd (nth l i)=kd d->d.price<(nth l i).price\/(d.price=(nth l i).price/\Bm l d<=i):=by
 have e:Bm l d=h.choose:=by rw [Bm,dif_pos h]
 grind
noncomputable def gr (x:Inst) (l ys:List Col) (D:Nat):Nat->Nat->St->List Int->List Int
 | 0,_,_,a=>a
 | d+1,k,s,a=>if (nth x.orders k).off=true\/0<=nth a k then gr x l ys D d (k+1) (Ex s) a else
  match (Yr ys k).find? (KQ x ys D s) with
  | some c=>gr x l ys D d (k+1) (AB s c) (AT c.set.toNat a (Bm l c))
  | none=>gr x l ys D d (k+1) (Ex s) a
theorem JO {x:Inst} {l ys:List Col} (hc:Ctx x l ys) {a:List Int} {s:St} {k:Nat} (h:Nd x l a s k) (hk:k<x.orders.length) {c:Col} (hm:c∈Yr ys k) (hy:YE x s c=true):Bm l c<l.length/\nth l (Bm l c)=c/\EW x l a (Bm l c) k=true:=by
 obtain ⟨h1,h2,h3,h4⟩:=KJ hc hk hm;obtain ⟨p1,p2,_⟩:=R9 (hc.ch.bst c h1)
 grind [II]
theorem K9 {x:Inst} {l:List Col} {a:List Int} {k j:Nat} (hl:a.length=x.orders.length) (hcan:EW x l a j k=true):(nth l j).set.toNat.testBit k=true/\ ∀t,t<x.orders.length->(t<k\/0<=nth a t)->nth (AT (nth l j).set.toNat a j) t=nth a t:=by
 simp only [EW,Zy,Cr,hl] at hcan
 grind [XL]
theorem C7 {x:Inst} {l ys:List Col} (hc:Ctx x l ys) {D:Nat} : ∀(d k:Nat) (s:St) (a:List Int),k+d=x.orders.length->Nd x l a s k->(gr x l ys D d k s a).length=x.orders.length/\ ∀t,t<x.orders.length->(t<k\/0<=nth a t)->nth (gr x l ys D d k s a) t=nth a t
 | 0,k,s,a,_,h=>⟨h.len,fun _ _ _=>rfl⟩
 | d+1,k,s,a,hd,h=>by
  have hk:k<x.orders.length:=Za
  rw [gr];have skip:=C7 hc (D:=D) d (k+1) (Ex s) a Za (h.skip' hk)
  split
  ·grind
  ·split
   ·rename_i c hf;have hsel:=Uv hf;simp only [KQ,Zy] at hsel;obtain ⟨p1,p2,p3⟩:=JO hc h hk (VO hf) hsel.1;have hch:=h.child hc hk p1 p3;rw [p2] at hch;have ho:=(K9 h.len p3).2;rw [p2] at ho;obtain ⟨g1,g2⟩:=C7 hc (D:=D) d (k+1) (AB s c) _ Za hch;refine ⟨g1,fun t ht hh=> ?_⟩
    rw [g2 t ht (by
     rcases hh with h1 | h1
     ·left;omega
     ·right;rw [ho t ht (.inr h1)];exact h1),ho t ht hh]
   grind
theorem Az {x:Inst} {l:List Col} : ∀(d:Nat) (a:List Int) (p:Int),d<=x.orders.length->a.length=x.orders.length-> ∀q∈Hv x l d a p,q.1.length=x.orders.length/\ ∀t,t<x.orders.length->(t<x.orders.length-d\/0<=nth a t)->nth q.1 t=nth a t
 | 0,a,p,_,h,q,hq=>by
  simp only [Hv,X2,Jz,or_false] at hq
  grind
 | d+1,a,p,hd,h,q,hq=>by
  rw [Hv] at hq
  split at hq
  ·obtain ⟨g1,g2⟩:=Az d a p Za h q hq;exact ⟨g1,fun t ht hh=>g2 t ht (hh.imp Za id)⟩
  ·rw [Xo,Ws] at hq;rcases hq with ⟨j,hj,hq⟩ | hq
   ·split at hq
    ·rename_i hcan;have ho:=(K9 h hcan).2;obtain ⟨g1,g2⟩:=Az d _ _ Za (by rw [KR];exact h) q hq;refine ⟨g1,fun t ht hh=> ?_⟩
     rw [g2 t ht (by
      rcases hh with h1 | h1
      ·left;omega
      ·right;rw [ho t ht (.inr h1)];exact h1),ho t ht hh]
    ·simp at hq
   ·split at hq
    ·obtain ⟨g1,g2⟩:=Az d a _ Za h q hq;exact ⟨g1,fun t ht hh=>g2 t ht (hh.imp Za id)⟩
    ·simp at hq
theorem KE.refl {n:Nat} {l:List Col} {a:List Int} :KE n l a a:=fun _ _=>⟨rfl,Int.le_refl _⟩
theorem Zc1 {l:List Col} {a:Int} (h:a<0):ky l a=(1,0,0):=if_pos h
theorem I2 {l:List Col} {a:Int} (h:0<=a):ky l a=(0,(nth l a.toNat).typ,(nth l a.toNat).set):=if_neg Za
theorem Zjg {l:List Col} {i j:Nat} :ky l (i:Int)=ky l (j:Int)↔kd (nth l i)=kd (nth l j):=by
 grind [I2,kd]
theorem gJ {x:Inst} {s:St} {r:Col->Int} {ls:List Col} (hp: ∀c∈ls,0<=c.price) (hr: ∀c∈ls,YE x s c=true-> -1<=r c) {c:Col} (hc:c∈ls) (hy:YE x s c=true) (h0:0<=r c) :
  bV (ls.foldl (fun o c=>if YE x s c=true then YV o c.price (r c) else o) (-1)) (c.price+r c):=by
 have e:=Jp (f:=fun o c=>if YE x s c=true then YV o c.price (r c) else o) (g:=fun o c=>if YE x s c=true then YV o c.price (max (-1) (r c)) else o) (l:=ls) (b:=(-1:Int)) fun c hc o=>by
  grind
 rw [e];have:=(Ru (x:=x) (s:=s) (r:=fun c=>max (-1) (r c)) (fun c=>Za) (l:=ls) (a:= -1) hp).2 c hc hy Za
 grind
theorem Oe {x:Inst} {l ys:List Col} (hc:Ctx x l ys) {D:Nat} {s:St} (hv:StV x.orders.length s): -1<=Lx x ys D s:=(V7 (m:=mI x) hc.ok D _ (Lt hv).1).1
theorem P9 {o p r:Int} (hr: -1<=r) (hp:0<=p):bV (YV o p r) o/\(0<=r->bV (YV o p r) (p+r)):=by
 grind [bV,YV]
theorem wW {x:Inst} {l ys:List Col} (hc:Ctx x l ys) {D:Nat} (hD:10<D) {a:List Int} {s:St} {k:Nat} (h:Nd x l a s k) (hk:k<x.orders.length) (ho:(nth x.orders k).off=false) (hak:nth a k<0) {c:Col} (hm:c∈Yr ys k) (hy:YE x s c=true) (h0:0<=Lx x ys D (AB s c)) :
  bV (Lx x ys D s) (c.price+Lx x ys D (AB s c)):=by
 have hcv:s.cov.toNat.testBit k=false:=by rw [h.cov k hk];grind
 rw [Od hc hD h.v h.ix hk ho hcv]
 have nd: ∀e∈Yr ys k,YE x s e=true->StV x.orders.length (AB s e):=fun e he hye=>by
  obtain ⟨p1,p2,p3⟩:=JO hc h hk he hye;have:=(h.child hc hk p1 p3).v
  grind
 have low:=gJ (x:=x) (s:=s) (r:=fun c=>Lx x ys D (AB s c)) (ls:=Yr ys k) (fun e he=>(hc.typ (KJ hc hk he).2.1).2) (fun e he hye=>Oe hc (nd e he hye)) hm hy h0
 split
 ·rename_i hs;have b:=(P9 (o:=(Yr ys k).foldl (fun o c=>if YE x s c=true then YV o c.price (Lx x ys D (AB s c)) else o) (-1)) (Oe hc (D:=D) (h.skip' hk).v) hs).1
  grind [bV]
 ·exact low
theorem nO {x:Inst} {l ys:List Col} (hc:Ctx x l ys) {D:Nat} (hD:10<D) {a:List Int} {s:St} {k:Nat} (h:Nd x l a s k) (hk:k<x.orders.length) (ho:(nth x.orders k).off=false) (hak:nth a k<0) (hs:0<=skpF x k) (h0:0<=Lx x ys D (Ex s)) :
  bV (Lx x ys D s) (skpF x k+Lx x ys D (Ex s)):=by
 have hcv:s.cov.toNat.testBit k=false:=by rw [h.cov k hk];grind
 rw [Od hc hD h.v h.ix hk ho hcv,if_pos hs]
 grind [P9]
theorem PP {x:Inst} {l ys:List Col} (hc:Ctx x l ys) {D:Nat} {a:List Int} {s:St} {k:Nat} (h:Nd x l a s k) (hk:k<x.orders.length) (ho:(nth x.orders k).off=true\/0<=nth a k):Lx x ys D s=Lx x ys D (Ex s):=by
 unfold Lx;rw [Du h.ix hk (ho.imp (fun e=>by rw [Fq hc.n4 hk,e];rfl) fun e=>by rw [BM h.v (by have:=hc.n4;omega),h.cov k hk];grind)]
theorem BZ {x:Inst} {l ys:List Col} (hc:Ctx x l ys) {D:Nat} (hD:10<D): ∀(d k:Nat) (s:St) (a b:List Int) (p:Int),k+d=x.orders.length->Nd x l a s k->Nd x l b s k->KE x.orders.length l a b-> ∀q∈Hv x l d b p,
  0<=Lx x ys D s/\p+Lx x ys D s<=q.2/\(q.2=p+Lx x ys D s->KL x.orders.length l (gr x l ys D d k s a) q.1)
 | 0,k,s,a,b,p,hd,ha,hb,he,q,hq=>by
  simp only [Hv,X2,Jz,or_false] at hq;subst hq;rw [cA (by rw [ha.ix];omega)];exact ⟨Za,Zb,fun _=> .inr he⟩
 | d+1,k,s,a,b,p,hd,ha,hb,he,q,hq=>by
  have hk:k<x.orders.length:=Za
  have hkd:x.orders.length-(d+1)=k:=Za
  have hneg: ∀t,t<x.orders.length->(0<=nth a t↔0<=nth b t):=fun t ht=>by
   have h1:=ha.cov t ht;rw [hb.cov t ht,decide_eq_decide] at h1;exact h1.symm
  rw [Hv,hkd] at hq;rw [gr]
  split at hq
  ·rename_i ho;have ho':(nth x.orders k).off=true\/0<=nth a k:=ho.imp id (hneg k hk).2;rw [if_pos ho',PP hc ha hk ho'];exact BZ hc hD d (k+1) (Ex s) a b p Za (ha.skip' hk) (hb.skip' hk) he q hq
  ·rename_i ho;have ho': ¬((nth x.orders k).off=true\/0<=nth a k):=fun g=>ho (g.imp id (hneg k hk).1);rw [if_neg ho']
   have hoff:(nth x.orders k).off=false:=by
    grind
   have hbk:nth b k<0:=Int.not_le.1 fun g=>ho (.inr g);have hak:nth a k<0:=Int.not_le.1 fun g=>ho' (.inr g)
   -- what was picked stands at k
   have hpick: ∀c,(Yr ys k).find? (KQ x ys D s)=some c->YE x s c=true/\c∈ys/\(∀t,t<k->nth (gr x l ys D d (k+1) (AB s c) (AT c.set.toNat a (Bm l c))) t=nth a t)/\nth (gr x l ys D d (k+1) (AB s c) (AT c.set.toNat a (Bm l c))) k=Bm l c/\nth l (Bm l c)=c:=fun c hf=>by
    have hsel:=Uv hf;simp only [KQ,Zy] at hsel;obtain ⟨p1,p2,p3⟩:=JO hc ha hk (VO hf) hsel.1;have hch:=ha.child hc hk p1 p3;obtain ⟨c1,c2⟩:=K9 ha.len p3;rw [p2] at hch c1 c2;have g2:=(C7 hc (D:=D) d (k+1) (AB s c) _ Za hch).2;refine ⟨hsel.1,(KJ hc hk (VO hf)).1,fun t ht=> ?_,?_,p2⟩
    ·grind
    ·rw [g2 k hk (.inl Za),XL (by rw [ha.len];exact hk),if_pos c1]
   rw [Xo,Ws] at hq;rcases hq with ⟨j,hj,hq⟩ | hq
   ·have hj:=ZP.1 hj
    split at hq
    ·rename_i hcan;obtain ⟨hy,htz⟩:=(II hc hb hk hj).1 hcan;have hjl:=ZF hj;obtain ⟨d',hd',hkd',hpr⟩:=eD hc.ch hjl
     have hst:d'.set=(nth l j).set/\d'.typ=(nth l j).typ:=by
      grind [kd]
     have hm:d'∈Yr ys k:=by
      simp_all [Yr]
     have hy':YE x s d'=true:=by grind [YE]
     have hnx:AB s d'=AB s (nth l j):=by grind [AB]
     have hcb:=hb.child hc hk hj hcan;obtain ⟨cb1,cb2⟩:=K9 hb.len hcan;have hqo:=(Az d _ _ Za (by rw [KR];exact hb.len) q hq).2
     have hqt: ∀t,t<k->nth q.1 t=nth b t:=fun t ht=>by rw [hqo t Za (.inl Za),cb2 t Za (.inl ht)]
     have hqk:nth q.1 k=j:=by rw [hqo k hk (.inl Za),XL (by rw [hb.len];exact hk),if_pos cb1]
     obtain ⟨i1,i2,_⟩:=BZ hc hD d (k+1) _ _ _ _ Za hcb hcb KE.refl q hq;rw [<- hnx] at i1 i2;have hle:=wW hc hD ha hk hoff hak hm hy' i1;have hp0:=(hc.typ (KJ hc hk hm).2.1).2
     have hL0:0<=Lx x ys D s/\Lx x ys D s<=d'.price+Lx x ys D (AB s d'):=by
      rcases hle with h | h
      ·-- the least price would be lacking: not so, azs the column leads on
       omega
      ·exact h
     refine ⟨hL0.1,Za,fun hqc=> ?_⟩
     have hpe:d'.price=(nth l j).price:=Za
     have hLe:d'.price+Lx x ys D (AB s d')=Lx x ys D s:=Za
     have hsel:KQ x ys D s d'=true:=by simp_all [KQ]
     have hpos:=R9 (hc.ch.bst d' hd')
     have hpj:Bm l d'<=j:=by
      rcases hpos.2.2 j hj hkd'.symm with h | h
      ·omega
      ·exact h.2
     cases hf:(Yr ys k).find? (KQ x ys D s) with
     | none=>rw [Am] at hf;simp_all
     | some c =>
      obtain ⟨k1,k2,k3,k4,k5⟩:=hpick c hf;simp only
      by_cases hcd:c=d'
      ·subst hcd;obtain ⟨p1,p2,p3⟩:=JO hc ha hk hm hy';have hca:=ha.child hc hk p1 p3;rw [p2] at hca;rw [<- hnx] at hcb;refine (BZ hc hD d (k+1) _ _ _ _ Za hca hcb (fun t ht=> ?_) q hq).2.2 Za;rw [hst.1,XL (by rw [ha.len];exact ht),XL (by rw [hb.len];exact ht)]
       cases hbt:(nth l j).set.toNat.testBit t with
       | true =>
        rw [if_pos rfl,if_pos rfl,Zjg,p2]
        grind
       | false =>
        rw [if_neg Zb,if_neg Zb];exact he t ht
      ·-- an earlier kind
       have hlt:cfK c d'<0:=by
        have hpw:(Yr ys k).Pairwise fun a b=>cfK a b<0:=hc.ch.asc.filter _;obtain ⟨_,u,w,hab,hno⟩:=List.find?_eq_some_iff_append.1 hf;rw [hab] at hpw hm;rw [El,List.pairwise_cons] at hpw;rcases Xo.1 hm with h | h
        ·have:=hno d' h
         grind
        ·rcases X2.1 h with h | h
         ·grind
         ·exact hpw.2.1.1 d' h
       rw [EY] at hlt;refine .inl ⟨k,hk,fun t ht=> ?_,?_⟩
       ·rw [k3 t ht,hqt t ht];exact (he t Za).1
       ·rw [k4,hqk,I2 Za,I2 Za,XO,XO,k5]
        right
        grind
    ·simp at hq
   ·split at hq
    ·rename_i hpen;obtain ⟨s1,s2⟩:=hc.sk k hk hoff;have hs0:=s1.1 hpen;have hse:=s2 hs0;rw [<- hse] at hq;have hqo:=(Az d _ _ Za hb.len q hq).2;obtain ⟨i1,i2,i3⟩:=BZ hc hD d (k+1) (Ex s) a b _ Za (ha.skip' hk) (hb.skip' hk) he q hq;have hle:=nO hc hD ha hk hoff hak hs0 i1;have hrg:=Oe hc (D:=D) ha.v
     have hL0:0<=Lx x ys D s/\Lx x ys D s<=skpF x k+Lx x ys D (Ex s):=by
      rcases hle with h | h
      ·omega
      ·exact h
     refine ⟨hL0.1,Za,fun hqc=> ?_⟩
     cases hf:(Yr ys k).find? (KQ x ys D s) with
     | none=>grind
     | some c =>
      obtain ⟨k1,k2,k3,k4,k5⟩:=hpick c hf;simp only;refine .inl ⟨k,hk,fun t ht=> ?_,?_⟩
      ·rw [k3 t ht,hqo t Za (.inl Za)];exact (he t Za).1
      ·rw [k4,hqo k hk (.inl Za),I2 Za,Zc1 hbk]
       left;omega
    ·simp at hq
theorem mU {x:Inst} {S:Nat} (hn:x.orders.length<=4) (hS:S<9223372036854775808):bI S (Yw x x.orders.length)=(decide (S<2^x.orders.length)&&(List.range x.orders.length).all fun i=> !(S.testBit i&&(nth x.orders i).off)):=by
 rw [Yj,Zy,Zp,bI,Zt,Zt]
 constructor
 ·intro h
  have key: ∀i,S.testBit i=true->i<x.orders.length/\(nth x.orders i).off=false:=fun i hi=>by
   have h63:i<63:=by
    rcases WS i 63 with h | h
    ·exact h
    ·have:2^63<=2^i:=Y1 Za h
     grind [Aj]
   grind [UD]
  refine ⟨Ec _ fun i hi=> ?_,fun i _=> ?_⟩
  ·grind
  grind
 ·rintro ⟨h1,h2⟩ i _
  cases hb:S.testBit i with
  | false=>rfl
  | true =>
   have hi:i<x.orders.length:=by
    rcases WS i x.orders.length with h | h
    ·exact h
    ·have:2^x.orders.length<=2^i:=Y1 Za h
     grind [Aj]
   have:=h2 i (ZP.2 hi)
   simp_all [UD]
theorem RZ {n i:Nat} (h:i<n):nth (List.replicate n (-1:Int)) i= -1:=by
 grind [Zi]
theorem Rw {x:Inst} {l ys:List Col} (hc:Ctx x l ys) {D:Nat} (hD:10<D): ∀(d k:Nat) (s:St) (a:List Int) (p:Int),k+d=x.orders.length->Nd x l a s k->0<=Lx x ys D s->(gr x l ys D d k s a,p+Lx x ys D s)∈Hv x l d a p
 | 0,k,s,a,p,hd,ha,h0=>by
  rw [cA (by rw [ha.ix];omega),Vz,gr,Hv];simp
 | d+1,k,s,a,p,hd,ha,h0=>by
  have hk:k<x.orders.length:=Za
  have hkd:x.orders.length-(d+1)=k:=Za
  rw [Hv,hkd,gr]
  split
  ·rename_i ho;rw [PP hc ha hk ho] at h0 ⊢;exact Rw hc hD d (k+1) _ a p Za (ha.skip' hk) h0
  ·rename_i ho
   have hoff:(nth x.orders k).off=false:=by
    cases e:(nth x.orders k).off with
    | false=>rfl
    | true=>exact absurd (.inl e) ho
   have hak:nth a k<0:=Int.not_le.1 fun g=>ho (.inr g)
   have hcv:s.cov.toNat.testBit k=false:=by rw [ha.cov k hk];exact XK Za
   rw [Xo,Ws]
   cases hf:(Yr ys k).find? (KQ x ys D s) with
   | some c =>
    left
    have hsel:=Uv hf;simp only [KQ,Zy,Zp] at hsel;obtain ⟨p1,p2,p3⟩:=JO hc ha hk (VO hf) hsel.1;have hch:=ha.child hc hk p1 p3;rw [p2] at hch;refine ⟨Bm l c,ZP.2 p1,?_⟩;rw [if_pos p3,p2];have:=Rw hc hD d (k+1) _ _ (p+c.price) Za hch hsel.2.1;rw [show p+c.price+Lx x ys D (AB s c)=p+Lx x ys D s by omega] at this;exact this
   | none =>
    right
    rw [Am] at hf;have hdec:=Od hc hD ha.v ha.ix hk hoff hcv;have hno: ∀c∈Yr ys k,YE x s c=true->0<=Lx x ys D (AB s c)->c.price+Lx x ys D (AB s c)≠Lx x ys D s:=fun c hm hy hL e=>hf c hm (by simp only [KQ,hy,Yk hL,Yk e,Bool.and_self]);obtain ⟨s1,s2⟩:=hc.sk k hk hoff;have hfold:=Hk (x:=x) (s:=s) (r:=fun c=>Lx x ys D (AB s c)) (l:=Yr ys k) (a:= -1)
    by_cases hs:0<=skpF x k
    ·rw [if_pos (s1.2 hs),<- s2 hs];rw [if_pos hs] at hdec;unfold YV at hdec
     split at hdec
     ·rename_i hb;have:=Rw hc hD d (k+1) _ a (p+skpF x k) Za (ha.skip' hk) hb.1;rw [show p+skpF x k+Lx x ys D (Ex s)=p+Lx x ys D s by omega] at this;exact this
     ·exfalso;rcases hfold with e | ⟨c,h1,h2,h3,h4⟩
      ·unfold YV at e;omega
      ·exact hno c h1 h2 h3 (by rw [hdec];exact h4.symm)
    ·exfalso;rw [if_neg hs] at hdec;rcases hfold with e | ⟨c,h1,h2,h3,h4⟩
     ·omega
     ·exact hno c h1 h2 h3 (by rw [hdec];exact h4.symm)
theorem E5 {α:Type} {p q:α->Bool} : ∀ {l:List α},(∀a∈l,p a=q a)->l.find? p=l.find? q
 | [],_=>rfl
 | a::l,h=>by
  rw [List.find?_cons,List.find?_cons,h a Zb,E5 fun a ha=>h a (YQ _ ha)]
def RA (l:List Col) (g:List Int):Nat->Nat->List Col
 | 0,_=> []
 | d+1,k=>(if 0<=nth g k/\A4 (nth l (nth g k).toNat).set.toNat=(k:Int) then [nth l (nth g k).toNat] else [])++RA l g d (k+1)
def UA (x:Inst) (g:List Int):Nat->Nat->List Int
 | 0,_=> []
 | d+1,k=>(if nth g k<0/\(nth x.orders k).off=false then [(k:Int)] else [])++UA x g d (k+1)
theorem sU {x:Inst} {l ys:List Col} (hc:Ctx x l ys) {D:Nat} (hD:D=20) {s:St} {k:Nat} (hv:StV x.orders.length s) (hk:s.ix=k) (hkn:k<x.orders.length) (ho:(nth x.orders k).off=false) (hcv:s.cov.toNat.testBit k=false) {c:Col} (hm:c∈Yr ys k) :
  Ls x.orders.length (mI x) x (fstF x.orders.length ys) (skF x x.orders.length) s c=KQ x ys D s c:=by
 have hn:=hc.n4;have e1:=Dv (n:=x.orders.length) hk (m:=mI x) (by grind [Fq]) (by grind [BM]);have e2:=Gm (m:=mI x) hk hkn hn (KJ hc hkn hm).2.2.2
 grind [Ls,KQ,Lx]
theorem Et {x:Inst} {l ys:List Col} (hc:Ctx x l ys) {D:Nat} (hD:D=20): ∀(d k:Nat) (s:St) (a:List Int) (f:Nat),k+d=x.orders.length->d<f->Nd x l a s k ->
  Yy x.orders.length (mI x) x (fstF x.orders.length ys) (skF x x.orders.length) f (Vp x.orders.length (mI x) s)=(RA l (gr x l ys D d k s a) d k,UA x (gr x l ys D d k s a) d k)
 | 0,k,s,a,0,_,hf,_=>Za
 | 0,k,s,a,f+1,hd,_,h=>by
  rw [Yy,if_pos,RA,UA];simp only [Vp];have:=CJ (n:=x.orders.length) (m:=mI x) (cov:=s.cov) (x.orders.length-s.ix.toNat) s.ix.toNat;have:=h.ix;omega
 | d+1,k,s,a,0,_,hf,_=>Za
 | d+1,k,s,a,f+1,hd,hf,h=>by
  have hk:k<x.orders.length:=Za
  have hn:=hc.n4;rw [gr]
  split
  ·rename_i ho;have hsk:=ho.imp (fun e=>show sHas (mI x) k=false by grind [Fq]) (fun e=>show sHas s.cov k=true by rw [BM h.v Za,h.cov k hk];grind);rw [Du h.ix hk hsk,Et hc hD d (k+1) (Ex s) a (f+1) Za Za (h.skip' hk)];have hg:=(C7 hc (D:=D) d (k+1) (Ex s) a Za (h.skip' hk)).2 k hk (.inl Za);rw [RA,UA,hg,if_neg,if_neg,ZM,ZM]
   ·grind
   ·rintro ⟨g1,g2⟩;obtain ⟨t,t1,t2⟩:=h.old k hk (Zv _) g1;have hr:=h.rng k hk;obtain ⟨_,s0,s1,_⟩:=hc.set (ZF (l:=l) (i:=(nth a k).toNat) Za);have:=((Ge s0 s1 hn hk).1 g2).2 t Za t2;omega
  ·rename_i ho
   have hoff:(nth x.orders k).off=false:=by
    grind
   have hak:nth a k<0:=Int.not_le.1 fun g=>ho (.inr g)
   have hcv:s.cov.toNat.testBit k=false:=by rw [h.cov k hk];grind
   rw [Dv h.ix (by grind [Fq]) (by rw [BM h.v Za,hcv]),Yy,if_neg (by rw [h.ix];omega)]
   have e2:nth (fstF x.orders.length ys) s.ix.toNat=Yr ys k:=by rw [h.ix,XO,Nc,if_pos hk]
   rw [e2,E5 (q:=KQ x ys D s) fun c hm=>sU hc hD h.v h.ix hk hoff hcv hm]
   cases hfd:(Yr ys k).find? (KQ x ys D s) with
   | some c =>
    have hsel:=Uv hfd;have hm:=VO hfd;simp only [KQ,Zy] at hsel;obtain ⟨p1,p2,p3⟩:=JO hc h hk hm hsel.1;have hch:=h.child hc hk p1 p3;obtain ⟨c1,c2⟩:=K9 h.len p3;rw [p2] at hch c1 c2;have hg:=(C7 hc (D:=D) d (k+1) (AB s c) _ Za hch).2 k hk (.inl Za);rw [XL (by rw [h.len];exact hk),if_pos c1] at hg;simp only;rw [Gm h.ix hk hn (KJ hc hk hm).2.2.2,Et hc hD d (k+1) (AB s c) _ f Za Za hch,RA,UA,hg,if_pos ⟨Za,by rw [XO,p2];exact (KJ hc hk hm).2.2.1⟩,if_neg Za,XO,p2]
    rfl
   | none =>
    have hg:=(C7 hc (D:=D) d (k+1) (Ex s) a Za (h.skip' hk)).2 k hk (.inl Za);simp only;have e3:Dh x.orders.length (mI x) s=Vp x.orders.length (mI x) (Ex s):=rfl;rw [e3,Et hc hD d (k+1) (Ex s) a f Za Za (h.skip' hk),RA,UA,hg,if_neg Za,if_pos ⟨hak,hoff⟩,h.ix]
    rfl
theorem A7 {l:List Col} {g:List Int} {c:Col} : ∀(d k:Nat),c∈RA l g d k↔ ∃i,k<=i/\i<k+d/\0<=nth g i/\A4 (nth l (nth g i).toNat).set.toNat=(i:Int)/\c=nth l (nth g i).toNat
 | 0,k=>by simp [RA];omega
 | d+1,k=>by
  rw [RA,Xo,A7 d (k+1)]
  constructor
  ·rintro (h | ⟨i,h1,h2,h3⟩)
   ·split at h
    ·grind
    ·simp at h
   grind
  grind
theorem cB {l:List Col} {g:List Int} : ∀(d k:Nat),(RA l g d k).Pairwise fun a b=>A4 a.set.toNat<A4 b.set.toNat
 | 0,k=> .nil
 | d+1,k=>by
  rw [RA,El];refine ⟨?_,cB d (k+1),fun a ha b hb=> ?_⟩
  ·split<;>simp
  ·split at ha
   ·rename_i hh;obtain ⟨i,h1,h2,h3,h4,rfl⟩:=(A7 _ _).1 hb
    grind
   ·simp at ha
theorem Zj2 {x:Inst} (hx:InstOk x) {k:Nat} (hk:k<x.orders.length) (ho:(nth x.orders k).off=false):(0<=(nth x.orders k).penalty↔0<=skpF x k)/\(0<=skpF x k->skpF x k=skR x k):=by
 have ha:=(hx.orders.2 k hk).arg;simp only [argOk,rng,Zy,Zp] at ha
 have e:XQ x k=if (nth x.orders k).penalty= -1 then (zSco,23) else (⟨(nth x.orders k).penalty,if (nth x.orders k).now= -1 then 0 else 1,0,0⟩,0):=by
  simp_all [XQ,if_neg]
 by_cases hp:(nth x.orders k).penalty= -1
 ·simp_all [skpF]
 ·have hm:(if (nth x.orders k).now= -1 then (0:Int) else 1)=0\/(if (nth x.orders k).now= -1 then (0:Int) else 1)=1:=Za
  have e2:skpF x k=skR x k/\0<=skR x k:=by
   rw [skpF,skR,e,if_neg hp];generalize (if (nth x.orders k).now= -1 then (0:Int) else 1)=m at hm
   have:Xn ⟨(nth x.orders k).penalty,m,0,0⟩=((((nth x.orders k).penalty*16+m)*16+0)*65536+0,0):=by
    rw [Xn,if_neg (by grind),if_neg (by grind)]
   grind
  omega
theorem eZ {x:Inst} {l ys:List Col} (hx:InstOk x) (hn:x.orders.length<=4) (hC:Cheap l ys) (hr: ∀c∈l,rightB x c=true) (hs: ∀c∈l,c.set<9223372036854775808):Ctx x l ys :=
 have hok:=Rf hx hn hC hr hs
 ⟨hn,hok.typ.1,hC,hr,hs,hok,fun _ hk ho=>Zj2 hx hk ho⟩
theorem LB {l:List Col} {n:Nat} {T:Int} : ∀m,m<=n->usdI l (List.replicate n (-1)) T m=0
 | 0,_=>rfl
 | m+1,h=>by
  rw [usdI,LB m Za,DZ,RZ Za,XK Za];rfl
theorem RW (x:Inst) (l:List Col):Nd x l (List.replicate x.orders.length (-1)) zSt 0:=by
 have hz: ∀i,i<x.orders.length->nth (List.replicate x.orders.length (-1:Int)) i= -1:=fun i hi=>RZ hi;refine ⟨Zb,rfl,wV _,fun i hi=> ?_,fun i hi=>by grind,fun T hT=> ?_,fun i hi h=>by grind,fun i hi _ h=>by grind,fun i hi h=>by grind⟩
 ·simp_all [zSt]
 ·rw [LB _ (Zv _)]
  have:T=0\/T=1\/T=2\/T=3\/T=4\/T=5:=Za
  rcases this with rfl | rfl | rfl | rfl | rfl | rfl<;>rfl
theorem Rx {x:Inst} {l ys:List Col} (hc:Ctx x l ys) {D:Nat} : ∀(d k:Nat) (s:St) (a:List Int),k+d=x.orders.length->Nd x l a s k-> ∃s',Nd x l (gr x l ys D d k s a) s' x.orders.length
 | 0,k,s,a,hd,h=>⟨s,by grind [gr]⟩
 | d+1,k,s,a,hd,h=>by
  have hk:k<x.orders.length:=Za
  rw [gr]
  split
  ·exact Rx hc d (k+1) _ _ Za (h.skip' hk)
  ·split
   ·rename_i c hf;have hsel:=Uv hf;simp only [KQ,Zy] at hsel;obtain ⟨p1,p2,p3⟩:=JO hc h hk (VO hf) hsel.1;have hch:=h.child hc hk p1 p3;rw [p2] at hch;exact Rx hc d (k+1) _ _ Za hch
   ·exact Rx hc d (k+1) _ _ Za (h.skip' hk)
theorem Mb {x:Inst} {ys:List Col} {D:Nat} (hD:D=20):Tz x ys=Lx x ys D zSt:=by subst hD;rfl
def hasC (l:List Col) (j t:Nat):Bool:=(nth l j).set.toNat.testBit t
def anyC (l:List Col) (j k:Nat):Bool:=(List.range k).any (hasC l j)
theorem WD {l:List Col} {j k:Nat} :anyC l j (k+1)=(anyC l j k||hasC l j k):=by
 grind [anyC]
theorem LV {l:List Col} {j k:Nat} :anyC l j k=true↔ ∃t,t<k/\hasC l j t=true:=by simp [anyC]
structure Prt (x:Inst) (l:List Col) (js:List Nat):Prop where
 lt: ∀j∈js,j<l.length
 set: ∀j∈js,∀t,hasC l j t=true->t<x.orders.length/\(nth x.orders t).off=false
 dis: ∀i∈js,∀j∈js,∀t,hasC l i t=true->hasC l j t=true->i=j
 nod:js.Nodup
 cnt: ∀j∈js,((js.filter fun i=>decide ((nth l i).typ=(nth l j).typ)).length:Int)<=(nth x.types (nth l j).typ.toNat).count
 srv: ∀k,k<x.orders.length->(nth x.orders k).off=false->(∃j∈js,hasC l j k=true)\/0<=(nth x.orders k).penalty
def DT (x:Inst) (l:List Col) (js:List Nat) (k:Nat):Int:=match js.find? (fun j=>hasC l j k) with
 | some j=>if anyC l j k=true then 0 else (nth l j).price
 | none=>if (nth x.orders k).off=true then 0 else skR x k
def IP (x:Inst) (l:List Col) (js:List Nat):Nat->Int
 | 0=>0
 | d+1=>DT x l js (x.orders.length-(d+1))+IP x l js d
structure PNd (x:Inst) (l:List Col) (js:List Nat) (a:List Int) (k:Nat):Prop where
 len:a.length=x.orders.length
 pos: ∀i,i<x.orders.length-> ∀j∈js,hasC l j i=true->nth a i=if anyC l j k=true then (j:Int) else-1
 neg: ∀i,i<x.orders.length->(∀j∈js,hasC l j i=false)->nth a i= -1
 used: ∀T,usdI l a T x.orders.length=(js.filter fun j=>decide ((nth l j).typ=T)&&anyC l j k).length
theorem PNd.same {x:Inst} {l:List Col} {js:List Nat} {a:List Int} {k:Nat} (h:PNd x l js a k) (hs: ∀j∈js,anyC l j (k+1)=anyC l j k):PNd x l js a (k+1) :=
 ⟨h.len,fun i hi j hj hb=>by rw [hs j hj];exact h.pos i hi j hj hb,h.neg,fun T=>by
  rw [h.used T]
  grind [Jw]⟩
theorem Be {α:Type} [DecidableEq α] {p q:α->Bool} {a:α} : ∀ {l:List α},l.Nodup->a∈l->p a=false->q a=true->(∀b∈l,b≠a->p b=q b)->(l.filter q).length=(l.filter p).length+1
 | [],_,h,_,_,_=>by simp at h
 | b::l,hn,h,hp,hq,he=>by
  rw [List.nodup_cons] at hn
  by_cases e:b=a
  ·grind [Jw]
  ·have ih:=Be hn.2 (by
    grind) hp hq fun c hc=>he c (YQ _ hc)
   grind
theorem FK {x:Inst} {l:List Col} {js:List Nat} (hp:Prt x l js): ∀(d:Nat) (a:List Int) (p:Int),d<=x.orders.length->PNd x l js a (x.orders.length-d)-> ∃q∈Hv x l d a p,q.2=p+IP x l js d
 | 0,a,p,_,_=>⟨(a,p),by simp [Hv],by simp [IP]⟩
 | d+1,a,p,hd,h=>by
  obtain ⟨k,hk⟩: ∃k,k=x.orders.length-(d+1):=⟨_,rfl⟩
  have hkn:k<x.orders.length:=Za
  have hk1:x.orders.length-d=k+1:=Za
  rw [<- hk] at h;rw [Hv,IP,<- hk];have goOn:(∀j∈js,anyC l j (k+1)=anyC l j k)-> ∀p',∃q∈Hv x l d a p',q.2=p'+IP x l js d:=fun hs p'=>FK hp d a p' Za (by rw [hk1];exact h.same hs)
  cases hf:js.find? (fun j=>hasC l j k) with
  | none =>
   have hno: ∀j∈js,hasC l j k=false:=fun j hj=>by
    grind
   have hs: ∀j∈js,anyC l j (k+1)=anyC l j k:=fun j hj=>by simp_all [WD]
   have hc:DT x l js k=if (nth x.orders k).off=true then 0 else skR x k:=by rw [DT,hf]
   have hneg:=h.neg k hkn hno
   by_cases ho:(nth x.orders k).off=true
   ·simp_all
   ·have hcond: ¬((nth x.orders k).off=true\/0<=nth a k):=fun g=>g.elim ho fun g=>Za
    rw [if_neg hcond,hc,if_neg ho]
    have ho:(nth x.orders k).off=false:=by grind
    have hpen:0<=(nth x.orders k).penalty:=by
     rcases hp.srv k hkn ho with ⟨j,hj,hb⟩ | h
     ·grind
     ·exact h
    obtain ⟨q,hq,e⟩:=goOn hs (p+skR x k)
    grind
  | some j =>
   have hj:=VO hf
   have hb:hasC l j k=true:=by grind
   have hc:DT x l js k=if anyC l j k=true then 0 else (nth l j).price:=by rw [DT,hf]
   have hpos:=h.pos k hkn j hj hb
   have hother: ∀i∈js,i≠j->hasC l i k=false:=fun i hi hne=>by
    cases hq:hasC l i k with
    | false=>rfl
    | true=>exact absurd (hp.dis i hi j hj k hq hb) hne
   have hoff:=(hp.set j hj k hb).2
   cases ha:anyC l j k with
   | true =>
    rw [if_pos (.inr (by grind)),hc,if_pos ha,Aw];refine goOn (fun i hi=> ?_) p
    by_cases e:i=j
    ·grind [WD]
    simp_all [WD]
   | false =>
    rw [ha,if_neg Zb] at hpos
    have hcond: ¬((nth x.orders k).off=true\/0<=nth a k):=fun g=>g.elim (fun g=>by grind) fun g=>Za
    have hc2:DT x l js k=(nth l j).price:=by grind
    rw [if_neg hcond,hc2]
    have hno: ∀t,t<k->hasC l j t=false:=fun t ht=>by
     grind [LV]
    have hneg: ∀i,i<x.orders.length->(nth l j).set.toNat.testBit i=true->nth a i<0/\k<=i:=fun i hi hbi=>by
     have:=h.pos i hi j hj hbi;rw [ha,if_neg Zb] at this
     grind [hasC]
    have hcnt:=hp.cnt j hj
    have hadd: ∀T,(js.filter fun i=>decide ((nth l i).typ=T)&&anyC l i (k+1)).length=(js.filter fun i=>decide ((nth l i).typ=T)&&anyC l i k).length+(if (nth l j).typ=T then 1 else 0):=fun T=>by
     by_cases e:(nth l j).typ=T
     ·rw [if_pos e];refine Be hp.nod hj (by grind) (by simp_all [WD]) fun i hi hne=> ?_
      simp_all [WD]
     ·rw [if_neg e,Wu]
      congr 1
      refine Jw fun i hi=> ?_
      by_cases e2:i=j
      ·grind
      simp_all [WD]
    have hle:(js.filter fun i=>decide ((nth l i).typ=(nth l j).typ)&&anyC l i (k+1)).length<=(js.filter fun i=>decide ((nth l i).typ=(nth l j).typ)).length:=by
     rw [<- B7,<- B7]
     simp_all [List.countP_mono_left]
    have hcan:EW x l a j k=true:=by
     simp only [EW,Zy,Zp,Cr,h.len];refine ⟨hb,?_,hneg⟩;have h1:=h.used (nth l j).typ;have h2:=hadd (nth l j).typ
     grind
    have hfr: ∀i,i<x.orders.length->(nth l j).set.toNat.testBit i=false->nth a i≠(j:Int):=fun i hi hbi e=>by
     by_cases hex: ∃i'∈js,hasC l i' i=true
     ·obtain ⟨i',hi',hbb⟩:=hex;have:=h.pos i hi i' hi' hbb
      grind
     ·have:=h.neg i hi fun i' hi'=>by
       grind
      omega
    have hch:PNd x l js (AT (nth l j).set.toNat a j) (k+1):=by
     refine ⟨by rw [KR];exact h.len,fun i hi i' hi' hbb=> ?_,fun i hi hn=> ?_,fun T=> ?_⟩
     ·rw [XL (by rw [h.len];exact hi)]
      by_cases e:i'=j
      ·subst e;have:(nth l i').set.toNat.testBit i=true:=hbb;rw [if_pos this,if_pos (by rw [WD,hb,Bool.or_true])]
      ·have:(nth l j).set.toNat.testBit i=false:=by
        cases hq:(nth l j).set.toNat.testBit i with
        | false=>rfl
        | true=>exact absurd (hp.dis i' hi' j hj i hbb hq) e
       rw [this,if_neg Zb,WD,hother i' hi' e,JD];exact h.pos i hi i' hi' hbb
     ·rw [XL (by rw [h.len];exact hi)];have:(nth l j).set.toNat.testBit i=false:=hn j hj;rw [this,if_neg Zb];exact h.neg i hi hn
     ·rw [AL h.len hkn hb hneg hfr T _ (Zv _),h.used T,hadd T];simp [hkn]
    obtain ⟨q,hq,e⟩:=FK hp d _ (p+(nth l j).price) Za (by rw [hk1];exact hch);exact ⟨q,Xo.2 (.inl (Ws.2 ⟨j,ZP.2 (hp.lt j hj),by grind⟩)),by rw [e];omega⟩
theorem Gh {ok:List Vis->Bool} {col:List Vis->Col} {better:Col->Col->Bool} (hb: ∀a b,(better a b=true->a.price<=b.price)/\(better a b=false->b.price<=a.price)): ∀(L:List (List Vis)) (b:Col×Bool),(b.2=true->(L.foldl (WB ok col better) b).2=true/\(L.foldl (WB ok col better) b).1.price<=b.1.price) /\
  ∀m∈L,ok m=true->(L.foldl (WB ok col better) b).2=true/\(L.foldl (WB ok col better) b).1.price<=(col m).price
 | [],b=>⟨fun h=>⟨h,Int.le_refl _⟩,fun m hm=>by simp at hm⟩
 | l::L,b=>by
  rw [Vb];obtain ⟨g1,g2⟩:=Gh hb L (WB ok col better b l)
  have hu:(b.2=true->(WB ok col better b l).2=true/\(WB ok col better b l).1.price<=b.1.price)/\(ok l=true->(WB ok col better b l).2=true/\(WB ok col better b l).1.price<=(col l).price):=by
   unfold WB
   split
   ·rename_i hc;refine ⟨fun h=>⟨rfl,?_⟩,fun _=>⟨rfl,Int.le_refl _⟩⟩;rcases hc.2 with h2 | h2
    ·rw [h2] at h;cases h
    ·exact (hb _ _).1 h2
   ·rename_i hc;refine ⟨fun h=>⟨h,Int.le_refl _⟩,fun h=> ?_⟩
    have h2:b.2=true:=by
     cases h3:b.2 with
     | true=>rfl
     | false=>exact absurd ⟨h,.inl h3⟩ hc
    have h4:better (col l) b.1=false:=by
     cases h3:better (col l) b.1 with
     | false=>rfl
     | true=>exact absurd ⟨h,.inr h3⟩ hc
    exact ⟨h2,(hb _ _).2 h4⟩
  refine ⟨fun h=> ?_,fun m hm hk=> ?_⟩
  ·obtain ⟨h1,h2⟩:=hu.1 h;obtain ⟨h3,h4⟩:=g1 h1;exact ⟨h3,Av h4 h2⟩
  grind
theorem KV {f:Nat->Int} : ∀ {js:List Nat},(∀i∈js,f i=0)->(js.map f).sum=0
 | [],_=>rfl
 | a::js,h=>by rw [Zs,VQ,h a Zb,KV fun i hi=>h i (YQ _ hi)];rfl
theorem Bv {f:Nat->Int} {j:Nat} : ∀ {js:List Nat},js.Nodup->j∈js->(∀i∈js,i≠j->f i=0)->(js.map f).sum=f j
 | [],_,h,_=>by simp at h
 | a::js,hn,h,h0=>by
  rw [List.nodup_cons] at hn;rw [Zs,VQ]
  by_cases e:a=j
  ·subst e
   have:(js.map f).sum=0:=by
    exact KV fun i hi=>h0 i (YQ _ hi) fun e=>hn.1 (e ▸ hi)
   omega
  ·rw [h0 a Zb e,Bv hn.2 (by
    rcases X2.1 h with h | h
    ·exact absurd h.symm e
    ·exact h) fun i hi=>h0 i (YQ _ hi)]
   omega
theorem CP {f g:Nat->Int} : ∀ {ks:List Nat},(ks.map fun k=>f k+g k).sum=(ks.map f).sum+(ks.map g).sum
 | []=>rfl
 | k::ks=>by
  rw [Zs,Zs,Zs,VQ,VQ,VQ,CP (ks:=ks)];omega
theorem NW {f:Nat->Nat->Int} {ks:List Nat} : ∀ {js:List Nat},(ks.map fun k=>(js.map fun j=>f j k).sum).sum=(js.map fun j=>(ks.map fun k=>f j k).sum).sum
 | []=>KV (js:=ks) (f:=fun _=>(([]:List Nat).map fun _=>(0:Int)).sum) fun _ _=>rfl
 | j::js=>by
  simp only [Zs,VQ];rw [CP,NW]
def BX (x:Inst) (l:List Col) (js:List Nat) (k:Nat):Bool:= !(nth x.orders k).off&&js.all fun j=> !hasC l j k
theorem pM {x:Inst} {l:List Col} {js:List Nat} (hp:Prt x l js) (k:Nat):DT x l js k=(js.map fun j=>if hasC l j k=true/\anyC l j k=false then (nth l j).price else 0).sum+(if BX x l js k=true then skR x k else 0):=by
 cases hf:js.find? (fun j=>hasC l j k) with
 | none =>
  have hno: ∀j∈js,hasC l j k=false:=fun j hj=>by
   grind
  rw [DT,hf,KV fun j hj=>if_neg fun h=>by grind]
  have X8:(js.all fun j=> !hasC l j k)=true:=Zt.2 fun j hj=>by grind
  simp only [BX,X8,US]
  grind
 | some j =>
  have hj:=VO hf
  have hb:hasC l j k=true:=by grind
  have X8:(js.all fun j=> !hasC l j k)=false:=by
   grind
  rw [DT,hf,Bv hp.nod hj fun i hi hne=>if_neg fun h=>hne (hp.dis i hi j hj k h.1 hb)];simp only [BX,X8,Jx,hb,VY]
  grind
theorem MZ {l:List Col} {j:Nat} : ∀m,((List.range m).map fun k=>if hasC l j k=true/\anyC l j k=false then (nth l j).price else 0).sum=if anyC l j m=true then (nth l j).price else 0
 | 0=>by simp [anyC]
 | m+1=>by
  rw [Yv,XA,Cl,MZ m,WD]
  cases h1:anyC l j m<;>cases h2:hasC l j m<;>simp [h1,h2]
theorem Ms {x:Inst} {l:List Col} {js:List Nat} : ∀d,d<=x.orders.length->((List.range (x.orders.length-d)).map (DT x l js)).sum+IP x l js d=((List.range x.orders.length).map (DT x l js)).sum
 | 0,_=>by simp [IP]
 | d+1,h=>by
  have ih:=Ms (x:=x) (l:=l) (js:=js) d Za;rw [<- ih,IP,show x.orders.length-d=(x.orders.length-(d+1))+1 by omega,Yv,XA,Cl];simp;omega
theorem pN {x:Inst} {l:List Col} {js:List Nat} (hp:Prt x l js) (hne: ∀j∈js,∃t,hasC l j t=true):IP x l js x.orders.length=(js.map fun j=>(nth l j).price).sum+((List.range x.orders.length).map fun k=>if BX x l js k=true then skR x k else 0).sum:=by
 have h:=Ms (x:=x) (l:=l) (js:=js) x.orders.length (Zv _);rw [Ay] at h;simp only [List.range_zero,Zn,List.sum_nil,Aw] at h;rw [h,show DT x l js=fun k=>(js.map fun j=>if hasC l j k=true/\anyC l j k=false then (nth l j).price else 0).sum+(if BX x l js k=true then skR x k else 0) from funext fun k=>pM hp k,CP,NW]
 congr 2
 refine YH fun j hj=> ?_;obtain ⟨t,ht⟩:=hne j hj;rw [MZ,if_pos (LV.2 ⟨t,(hp.set j hj t ht).1,ht⟩)]
theorem kX {x:Inst} {l:List Col} {js:List Nat} :PNd x l js (List.replicate x.orders.length (-1)) 0:=by
 have hz: ∀i,i<x.orders.length->nth (List.replicate x.orders.length (-1:Int)) i= -1:=fun i hi=>by grind [Zi]
 refine ⟨Zb,fun i hi j _ _=>by grind [anyC],fun i hi _=>hz i hi,fun T=> ?_⟩
 have h1: ∀m,m<=x.orders.length->usdI l (List.replicate x.orders.length (-1)) T m=0:=fun m=>by
  induction m with
  | zero=>intro _;rfl
  | succ m ih =>
   grind [usdI,DZ]
 rw [h1 _ (Zv _),List.filter_eq_nil_iff.2 (by simp [anyC])]
 rfl
def sD (x:Inst) (l:List Col) (js:List Nat):Int:=(js.map fun j=>(nth l j).price).sum+((List.range x.orders.length).map fun k=>if BX x l js k=true then skR x k else 0).sum
theorem sF {x:Inst} {l ys:List Col} (hc:Ctx x l ys) {js:List Nat} (hp:Prt x l js) (hne: ∀j∈js,∃t,hasC l j t=true) {D:Nat} (hD:10<D):0<=Lx x ys D zSt/\Lx x ys D zSt<=sD x l js:=by
 have hz:=RW x l;obtain ⟨q,hq,e⟩:=FK hp x.orders.length (List.replicate x.orders.length (-1)) 0 (Zv _) (by simp_all [kX]);obtain ⟨h1,h2,_⟩:=BZ hc hD x.orders.length 0 zSt _ _ 0 Za hz hz KE.refl q hq
 grind [pN,sD]
theorem sE {x:Inst} {l:List Col} {p:Pln} {c e:Int} (hx:InstOk x) (hn:x.orders.length<=4) (hs: ∀c∈l,c.set<9223372036854775808) (h:Oc x l p c e) (hl:l.length<=8192) (hr: ∀c∈l,rightB x c=true) {js:List Nat} (hp:Prt x l js) (hne: ∀j∈js,∃t,hasC l j t=true):e=0/\c<=sD x l js:=by
 rcases h with ⟨g1,_⟩ | ⟨g1,⟨c,gc,g2⟩,_⟩ | ⟨g1,g2,ys,g3,g4,g5⟩
 ·omega
 ·grind
 ·obtain ⟨D,hD⟩: ∃D:Nat,D=20:=⟨20,rfl⟩;have hc:=eZ hx hn g3 g2 hs;obtain ⟨q1,q2⟩:=sF hc hp hne (D:=D) Za;rw [Mb hD] at g5;omega
theorem Nn {x:Inst} {l:List Vis} (h:RightV x l):ordS l≠0:=fun e=>by
 obtain ⟨v,hv⟩: ∃v,v∈l:=by
  cases l with
  | nil=>exact absurd rfl h.ne
  | cons v l=>simp
 have hi:=h.inr v hv;have hb:=(h.bit v.order.toNat).2 ⟨v,hv,Za⟩
 grind
theorem oX (a b:Col):(Qq a b=true->a.price<=b.price)/\(Qq a b=false->b.price<=a.price):=by
 unfold Qq
 grind
theorem mN {g:FuncId} {args:List V} {R:Pln->Int->Int->Prop} {H:List AM.Obj} {K:V->List AM.Obj->Prop} (h:ACalls Tryz.prog g args [] fun y H'=> ∃p c e,R p c e/\y= .tup [.p (Wh p),.p (.int .i64 c),.p (.int .i64 e)]/\H'= []) (k: ∀p c e,R p c e->K (.tup [.p (Wh p),.p (.int .i64 c),.p (.int .i64 e)]) H) (ha:Z9 0 args=true:=by rfl):ACalls Tryz.prog g args H K :=
 (h.behind ha H).mono fun x H' hq=>by
  obtain ⟨y,H1,⟨p,c,e,hr,rfl,rfl⟩,rfl,rfl⟩:=hq
  grind [shV,shVs]
theorem Dz {ok:List Vis->Bool} {col:List Vis->Col} {better:Col->Col->Bool} : ∀(L:List (List Vis)) (b:Col×Bool),(L.foldl (WB ok col better) b).2=true->(b.2=true/\(L.foldl (WB ok col better) b).1=b.1)\/ ∃m∈L,ok m=true/\(L.foldl (WB ok col better) b).1=col m
 | [],b,h=> .inl ⟨h,rfl⟩
 | l::L,b,h=>by
  rw [Vb] at h ⊢;rcases Dz L _ h with ⟨h1,h2⟩ | ⟨m,h1,h2,h3⟩
  ·rw [h2];unfold WB at h1 ⊢
   grind
  grind
theorem FT {one:Nat->List Col} {c:Col} : ∀q,c∈GI one q↔ ∃S,1<=S/\S<=q/\c∈one S
 | 0=>by simp [GI];omega
 | q+1=>by
  rw [GI,Xo,FT q]
  grind
theorem rI {x:Inst} {t:Typ} {sp:List Stp} {k:Nat} {L:Lab} {b:Bool} (hT:TrpOk x t sp) (hk:k<sp.length) (he:(XX x t sp k L b).2=0):L.ready<=(XX x t sp k L b).1.ready:=by
 have hrs:=hT.rst
 have hd:L.ready<=ZJ t L b:=by grind [ZJ]
 have hgo:(YY x t sp k (ZJ t L b)).2.2=0->ZJ t L b<=(YY x t sp k (ZJ t L b)).1:=fun e=>IZ hT.net e;have hst:=hT.stp _ (ZF hk);unfold XX at he ⊢
 generalize YY x t sp k (ZJ t L b)=g at *
 generalize ZJ t L b=d at *
 generalize W0 L b=s at *
 generalize XF k d b L.she=m at *
 have hk2: ¬k=sp.length:=Za
 unfold Wm at he ⊢
 grind
theorem rG {x:Inst} {t:Typ} {sp:List Stp} {L:Lab} {b:Bool} (hT:TrpOk x t sp) (he:(XX x t sp sp.length L b).2=0):L.ready<=(XX x t sp sp.length L b).1.she.fin/\(XX x t sp sp.length L b).1.she.fin<=t.cls:=by
 have hrs:=hT.rst
 have hd:L.ready<=ZJ t L b:=by grind [ZJ]
 have hgo:(YY x t sp sp.length (ZJ t L b)).2.2=0->ZJ t L b<=(YY x t sp sp.length (ZJ t L b)).1:=fun e=>IZ hT.net e;unfold XX at he ⊢
 generalize YY x t sp sp.length (ZJ t L b)=g at *
 generalize ZJ t L b=d at *
 generalize W0 L b=s at *
 generalize XF sp.length d b L.she=m at *
 unfold Wm at he ⊢
 grind
theorem Sb {x:Inst} {t:Typ} {sp:List Stp} (hT:TrpOk x t sp): ∀(bs:List Bool) (k:Nat) (L:Lab),k+bs.length=sp.length+1->0<bs.length->(Xa x t sp k L bs).2=0->L.ready<=(Xa x t sp k L bs).1.she.fin/\(Xa x t sp k L bs).1.she.fin<=t.cls
 | [],k,L,_,h3,_=>by simp at h3
 | b::bs,k,L,h2,_,h=>by
  rw [Xa] at h ⊢
  by_cases h4:(XX x t sp k L b).2=0
  ·simp only [h4,if_true] at h ⊢
   cases bs with
   | nil =>
    simp_all [Xa,rG]
   | cons b2 bs =>
    simp at h2;have h5:=Sb hT (b2::bs) (k+1) _ (by simp;omega) Zb h;have h6:=rI hT (show k<sp.length by omega) h4;omega
  grind
theorem IV {x:Inst} {r:Rte} (hx:InstOk x) (h:evalE x r=0):(ZN x r).opn<=(ZY x r).fin/\(ZY x r).fin<=(ZN x r).cls:=by
 obtain ⟨hty,h0,hs⟩:=X3 (X7 h)
 have e:ZY x r=(Xh x r).1:=by rw [ZY,if_pos h]
 have ee:(Xh x r).2=0:=by rw [evalE,if_pos (X7 h)] at h;exact h
 have hT:=Q8 hx hty (W4 h0);obtain ⟨bs,hb1,hb2,hb3⟩:=G3 (by grind [X4]) ee;have hb3:(Xh x r).1=_:=hb3;rw [e,hb3];have h1:=Sb hT bs 0 _ Za Za hb2
 grind [Xk]
def U6 (l:List Vis) (N:Nat):Nat:=(List.range N).countP fun i:Nat=>hasO l (i:Int)
theorem S9 {l m:List Vis} {N:Nat} (h: ∀v∈l,v∈m):U6 l N<=U6 m N:=List.countP_mono_left fun i _ hi=>by
 grind [Z6]
theorem Rg {x:Inst} {l:List Vis} {t:Int} (hi:Inr x l): ∀n,n<=l.length->(0<=(chgF x l t n).1/\(chgF x l t n).1<=(U6 (l.take n) x.orders.length:Int))/\(0<=(chgF x l t n).2/\(chgF x l t n).2<=(U6 (l.take n) x.orders.length:Int))
 | 0,_=>by simp [chgF]
 | n+1,h=>by
  have ih:=Rg (t:=t) hi n Za
  have hn:n<l.length:=Za
  have hv:=hi _ (ZF hn)
  have htk:l.take (n+1)=l.take n++ [nth l n]:=by rw [Xl hn,Zi hn]
  have hmono:U6 (l.take n) x.orders.length<=U6 (l.take (n+1)) x.orders.length:=S9 fun v hv=>by grind
  have hap: ∀i:Int,hasO (l.take (n+1)) i=(hasO (l.take n) i||decide ((nth l n).order=i)):=fun i=>by grind [hasO]
  rw [chgF]
  split
  ·rename_i hf
   have hadd:U6 (l.take (n+1)) x.orders.length=U6 (l.take n) x.orders.length+1:=by
    unfold U6;rw [B7,B7]
    have ei:(((nth l n).order.toNat:Nat):Int)=(nth l n).order:=Za
    refine Be (a:=(nth l n).order.toNat) List.nodup_range (ZP.2 Za) ?_ ?_ fun b _ hb=> ?_
    ·rw [ei];simp only [Uf,XU] at hf;exact hf
    ·grind
    grind
   omega
  ·omega
theorem Jn {x:Inst} {r:Rte} (hx:InstOk x) (h:evalE x r=0):Ve (XG x r)/\(XG x r).cost<=22000000/\(XG x r).moved<=(U6 r.visits x.orders.length:Int)/\(XG x r).other<=(U6 r.visits x.orders.length:Int)/\(XG x r).work<=4096:=by
 have hg:=MB hx h;have hf:=IV hx h;obtain ⟨hty,_,_⟩:=X3 (X7 h);have hnum:=U0 hx (show r.typ.toNat<x.types.length by omega);have htyp:nth x.types r.typ.toNat=ZN x r:=rfl;rw [htyp] at hnum
 have e:(Xh x r).1=ZY x r:=by rw [ZY,if_pos h]
 have hch:=Rg (t:=r.typ) (YD h).inr r.visits.length (Zv _);rw [Xi] at hch;rw [XG,if_pos h,e];unfold Dt Ve
 generalize ZY x r=s at *
 generalize ZN x r=t at *
 have p1:0<=t.perMile*s.miles/\t.perMile*s.miles<=100*210000:=⟨Uj Za Za,Vy Za Za Za Za⟩
 have hW:0<=s.fin-t.opn/\s.fin-t.opn<=4096:=Za
 have p2:0<=t.perTick*(s.fin-t.opn)/\t.perTick*(s.fin-t.opn)<=100*4096:=⟨Uj Za Za,Vy Za Za Za Za⟩
 have p3:0<=(s.fin-t.opn).tdiv 64/\(s.fin-t.opn).tdiv 64<=64:=by
  grind
 have p4:0<=(s.fin-t.opn).tdiv 64*(s.fin-t.opn).tdiv 64/\(s.fin-t.opn).tdiv 64*(s.fin-t.opn).tdiv 64<=64*64:=⟨Uj p3.1 p3.1,Vy p3.2 p3.2 p3.1 Za⟩
 grind
theorem Sk {α:Type} {f:α->Nat} {p:α->Bool} : ∀l:List α,(l.map fun a=>f a+(if p a=true then 1 else 0)).sum=(l.map f).sum+l.countP p
 | []=>rfl
 | a::l=>by
  rw [Zs,Zs,VQ,VQ,Sk l,List.countP_cons];omega
theorem eW {rs:List Rte} {us:List Int} {N:Nat} (h: ∀i:Nat,i<N->rs.countP (fun r=>hasO r.visits (i:Int))+us.countP (fun u=>decide (u=(i:Int)))<=1): ∀n,n<=N->(rs.map fun r=>U6 r.visits n).sum+(us.map fun u=>(List.range n).countP fun i=>decide (u=((i:Nat):Int))).sum<=n
 | 0,_=>by
  have h1: ∀l:List Rte,(l.map fun r=>U6 r.visits 0).sum=0:=fun l=>by
   induction l with
   | nil=>rfl
   | cons a l ih=>grind [U6]
  have h2: ∀l:List Int,(l.map fun u=>(List.range 0).countP fun i=>decide (u=((i:Nat):Int))).sum=0:=fun l=>by
   induction l with
   | nil=>rfl
   | cons a l ih=>grind
  grind
 | n+1,hn=>by
  have ih:=eW h n Za;have hh:=h n Za
  have e1:(fun r:Rte=>U6 r.visits (n+1))=fun r=>U6 r.visits n+(if hasO r.visits (n:Int)=true then 1 else 0):=funext fun r=>by
   simp_all [U6,Yv]
  have e2:(fun u:Int=>(List.range (n+1)).countP fun i=>decide (u=((i:Nat):Int)))=fun u=>((List.range n).countP fun i=>decide (u=((i:Nat):Int)))+(if decide (u=(n:Int))=true then 1 else 0):=funext fun u=>by
   simp_all [Yv]
  grind [Sk]
theorem Fa {α:Type} {f:α->Sco} {g:α->Nat} : ∀(l:List α) (s:Sco),(∀a∈l,(f a).cost<=22000000/\(f a).moved<=(g a:Int)/\(f a).other<=(g a:Int)/\(f a).work<=4096) ->
  (l.foldl (fun s a=>Yp s (f a)) s).cost<=s.cost+22000000*(l.length:Int)/\(l.foldl (fun s a=>Yp s (f a)) s).moved<=s.moved+((l.map g).sum:Nat)/\(l.foldl (fun s a=>Yp s (f a)) s).other<=s.other+((l.map g).sum:Nat)/\(l.foldl (fun s a=>Yp s (f a)) s).work<=s.work+4096*(l.length:Int)
 | [],s,_=>Zb
 | a::l,s,h=>by
  have h1:=h a Zb;have h2:=Fa l (Yp s (f a)) fun b hb=>h b (YQ _ hb)
  grind [Yp]
theorem I5 {α:Type} {g:α->Nat} : ∀l:List α,(∀a∈l,1<=g a)->l.length<=(l.map g).sum
 | [],_=>Zb
 | a::l,h=>by
  have h1:=h a Zb;have h2:=I5 l fun b hb=>h b (YQ _ hb);rw [Zs,VQ,Zw];omega
theorem eV {x:Inst} {l:List Vis} (h:RightV x l):1<=U6 l x.orders.length:=by
 obtain ⟨v,hv⟩: ∃v,v∈l:=by
  cases l with
  | nil=>exact absurd rfl h.ne
  | cons v l=>simp
 have hi:=h.inr v hv;exact Va.2 ⟨v.order.toNat,ZP.2 Za,Z6.2 ⟨v,hv,Za⟩⟩
theorem Gf {x:Inst} (hx:InstOk x) (i:Int):Ve (XQ x i).1/\(XQ x i).1.cost<=22000000/\(XQ x i).1.moved<=1/\(XQ x i).1.other<=1/\(XQ x i).1.work<=4096:=by
 unfold XQ
 split
 ·simp [Ve,zSco]
 ·split
  ·simp [Ve,zSco]
  ·split
   ·simp [Ve,zSco]
   ·have ha:=(hx.orders.2 i.toNat Za).arg;simp only [argOk,rng,Zy,Zp] at ha
    grind [Ve]
theorem Ev {x:Inst} {p:Pln} (hx:InstOk x) (hn:x.orders.length<=4) (hk:chkP x p=0):(Xn (Uy x p)).2=0/\p.routes.length+p.unserved.length<=4:=by
 obtain ⟨hev,hun⟩:=VN hk;obtain ⟨k1,k2,k3,k4,k5⟩:=QL hk;have hc:=eW (rs:=p.routes) (us:=p.unserved) k2 x.orders.length (Zv _);have hR: ∀r∈p.routes,Ve (XG x r)/\(XG x r).cost<=22000000/\(XG x r).moved<=(U6 r.visits x.orders.length:Int)/\(XG x r).other<=(U6 r.visits x.orders.length:Int)/\(XG x r).work<=4096:=fun r hr=>Jn hx (hev r hr)
 have hU1: ∀u∈p.unserved,1<=(List.range x.orders.length).countP fun i=>decide (u=((i:Nat):Int)):=fun u hu=>by
  have:=k1 u hu;exact Va.2 ⟨u.toNat,ZP.2 Za,by simp;omega⟩
 have l1:=I5 p.routes fun r hr=>eV (YD (hev r hr));have l2:=I5 p.unserved hU1;have f1:=Fa (f:=fun r=>XG x r) (g:=fun r=>U6 r.visits x.orders.length) p.routes zSco fun r hr=>(hR r hr).2
 have f2:=Fa (f:=fun i=>(XQ x i).1) (g:=fun u=>(List.range x.orders.length).countP fun i=>decide (u=((i:Nat):Int))) p.unserved (WA x p.routes) fun u hu=>by
  have h1:=(Gf hx u).2;have h2:=hU1 u hu;omega
 have hpos: ∀ {α:Type} (f:α->Sco) (l:List α) (s:Sco),(∀a∈l,Ve (f a))->Ve s->Ve (l.foldl (fun s a=>Yp s (f a)) s):=fun f l=>by
  induction l with
  | nil=>simp
  | cons r l ih=>simp_all [KI]
 have q1:Ve (WA x p.routes):=hpos (fun r=>XG x r) p.routes zSco (fun r hr=>(hR r hr).1) (by simp [Ve,zSco]);have q2:Ve (Ke x (WA x p.routes) p.unserved):=hpos (fun i=>(XQ x i).1) p.unserved _ (fun u _=>(Gf hx u).1) q1
 have hsc:Uy x p=Ke x (WA x p.routes) p.unserved:=by rw [Uy,if_pos hk]
 rw [hsc,Q9 q2];have f1:(WA x p.routes).cost<=zSco.cost+_/\(WA x p.routes).moved<=zSco.moved+_/\(WA x p.routes).other<=zSco.other+_/\(WA x p.routes).work<=zSco.work+_:=f1;have f2:(Ke x (WA x p.routes) p.unserved).cost<=(WA x p.routes).cost+_/\(Ke x (WA x p.routes) p.unserved).moved<=(WA x p.routes).moved+_/\(Ke x (WA x p.routes) p.unserved).other<=(WA x p.routes).other+_/\(Ke x (WA x p.routes) p.unserved).work<=(WA x p.routes).work+_:=f2;simp only [zSco] at f1;omega
def AS (x:Inst) (S:Nat) (l:List Vis):List Vis:=(BB x S x.orders.length).filter fun v=>decide (v ∉ l)
theorem qY {x:Inst} {S:Nat} {l:List Vis} {v:Vis} :v∈AS x S l↔v∈BB x S x.orders.length/\v ∉ l:=by
 grind [AS]
theorem iS {nx:List Vis->List Vis} {m:List Vis} (hm:nx m= []) {k0:Nat} (h: ∀j,k0<=j->j<m.length->nth m j∈nx (m.take j)): ∀f k,k0<=k->k<=m.length->m.length<=k+f->m∈Co nx f (m.take k)
 | 0,k,_,h2,h3=>by
  grind [Co]
 | f+1,k,h1,h2,h3=>by
  by_cases hk:k<m.length
  ·have ha:=h k h1 hk;rw [Co,if_neg (fun e=>by grind),Ws];refine ⟨nth m k,ha,?_⟩
   have e:m.take k++ [nth m k]=m.take (k+1):=by rw [Xl hk,Zi hk]
   rw [e];exact iS hm h f (k+1) Za Za Za
  simp_all [Eg,Co]
theorem lL {x:Inst} (hf:IFacts x) {m:List Vis} (h:RightV x m):CW x (ordS m) m= []/\ ∀j,j<m.length->nth m j∈CW x (ordS m) (m.take j):=by
 have hg:=h.gr hf m.length (Zv _);rw [Xi] at hg;exact ⟨rE hg (h.len hf),fun j hj=>hg.at j hj⟩
def aO (b:Rte) (m:List Vis):Rte:=⟨b.typ,b.start,b.rests_c,b.rests,b.visits_c&&decide (m.length=b.visits.length),m⟩
def Bj (x:Inst) (b:Rte) (S:Nat) (m:List Vis):Bool:=decide ((ordR m).2=0)&&(decide ((ordR m).1=(S:Int))&&decide ((prcF x (aO b m)).2=0))
def V4 (x:Inst) (b:Rte) (S:Nat) (m:List Vis):Col:=⟨b.typ,S,(prcF x (aO b m)).1,aO b m⟩
theorem QZ {x:Inst} {r:Rte} (h:(prcF x r).2=0):evalE x r=0:=by
 grind [prcF]
theorem HF {x:Inst} (hf:IFacts x) {b:Rte} {S:Nat} {m:List Vis} (h:Bj x b S m=true):RightV x m/\ordS m=S:=by
 simp only [Bj,Zy,Zp] at h;have hr:RightV x m:=YD (QZ h.2.2);have e:=hr.ord hf
 grind
def E4 (b:Rte):Bool:=decide (b.visits.length<b.rests.length)
def S1 (x:Inst) (b:Rte) (S f:Nat) (z:Col×Bool):Col×Bool:=(if E4 b=true then [b.visits] else Co (CW x S) f b.visits).foldl (WB (Bj x b S) (V4 x b S) Qq) z
theorem Re {x:Inst} {b:Rte} {S f:Nat} {z:Col×Bool} (h:(ordR b.visits).2≠0\/ ∃i,(ordS b.visits).testBit i=true/\S.testBit i=false) (hf:IFacts x):S1 x b S f z=z:=H5 fun m hm=>by
 cases ho:Bj x b S m with
 | false=>rfl
 | true =>
  exfalso;obtain ⟨hr,rfl⟩:=HF hf ho
  obtain ⟨r,rfl⟩: ∃r,m=b.visits++r:=by
   split at hm
   ·simp_all
   grind [I6]
  rcases h with h | ⟨i,h1,h2⟩
  ·refine h ?_;rw [ordR,if_pos];rw [Zt];intro v hv;have:=hr.inr v (Cd _ hv);have:=hf.len;simp [DI];omega
  grind [YS]
theorem qL {n:Net} {pr f t τ σ:Int} :(Ug n pr f t τ).2=(Ug n pr f t σ).2:=by
 unfold Ug
 split
 ·rfl
 ·split
  ·rfl
  ·split<;>rfl
theorem R1 {x:Inst} {t:Typ} {sp:List Stp} {k:Nat} {L:Lab} {b:Bool} (h:(XX x t sp k L b).2=0):(XX x t sp k L b).1.she.miles=L.she.miles+(YY x t sp k 0).2.1:=by
 have e:(YY x t sp k (ZJ t L b)).2=(YY x t sp k 0).2:=qL
 have hm:(XF k (ZJ t L b) b L.she).miles=L.she.miles:=by unfold XF;split<;>rfl
 rw [<- e];unfold XX at h ⊢
 generalize YY x t sp k (ZJ t L b)=g at *
 generalize XF k (ZJ t L b) b L.she=m at *
 unfold Wm at h ⊢
 split at h
 ·cases h
 ·rename_i c1;rw [if_neg c1]
  split at h
  ·rename_i c2;rw [if_pos c2]
   split at h
   ·cases h
   ·split at h
    ·cases h
    ·rename_i c3 c4;rw [if_neg c3,if_neg c4,<- hm]
  ·rename_i c2;rw [if_neg c2]
   split at h
   ·cases h
   ·split at h
    ·cases h
    ·rename_i c3 c4;rw [if_neg c3,if_neg c4,<- hm]
theorem Sc {x:Inst} {t:Typ} {sp:List Stp} : ∀(bs cs:List Bool) (k:Nat) (L M:Lab),bs.length=cs.length->L.she.miles=M.she.miles->(Xa x t sp k L bs).2=0->(Xa x t sp k M cs).2=0->(Xa x t sp k L bs).1.she.miles=(Xa x t sp k M cs).1.she.miles
 | [],[],k,L,M,_,h,_,_=>by rw [Xa,Xa];exact h
 | [],_::_,_,_,_,h,_,_,_=>by simp at h
 | _::_,[],_,_,_,h,_,_,_=>by simp at h
 | b::bs,c::cs,k,L,M,hl,h,h1,h2=>by
  rw [Xa] at h1 h2 ⊢;rw [Xa]
  by_cases g1:(XX x t sp k L b).2=0
  ·by_cases g2:(XX x t sp k M c).2=0
   ·simp only [g1,g2,if_true] at h1 h2 ⊢;exact Sc bs cs (k+1) _ _ (by simpa using hl) (by rw [R1 g1,R1 g2,h]) h1 h2
   ·simp only [if_neg g2] at h2;exact absurd h2 g2
  ·simp only [if_neg g1] at h1;exact absurd h1 g1
theorem Fe : ∀(n:Nat) (l:List Bool),l.length=n->l∈YM (List.replicate n false)
 | 0,l,h=>by
  rw [Cb] at h;subst h;simp [YM]
 | n+1,[],h=>by simp at h
 | n+1,b::l,h=>by
  have ih:=Fe n l (by simpa using h);rw [Kt,YM];simp only [Yi,YA,Xo,Xv,List.length_replicate]
  cases b with
  | false=>exact .inl ⟨l,ih,rfl⟩
  | true=>exact .inr ⟨l,ih,rfl⟩
theorem AG {r q:List Bool} {n:Nat} (hr:r.length<=n):q∈XZ r n↔q.length=n/\ ∃s,q=r++s:=by
 rw [XZ,Xv]
 constructor
 ·rintro ⟨s,hs,rfl⟩;have:=bestF_len.fromB_len _ _ hs;simp only [List.length_replicate] at this;exact ⟨by rw [ZG];omega,s,rfl⟩
 ·rintro ⟨h,s,rfl⟩;rw [ZG] at h;exact ⟨s,Fe _ s Za,rfl⟩
theorem Rt {L:Type} {fin:L->Int} : ∀l:List L,W7 fin none l=none->l= []
 | [],_=>rfl
 | a::l,h=>by
  rw [W7] at h;obtain ⟨z,e,_⟩:=V5 fin l a;rw [e] at h;cases h
theorem gE {L:Type} {fin:L->Int} {l:List L} {m:L} (h:W7 fin none l=some m): ∀y∈l,fin m<=fin y:=by
 cases l with
 | nil=>simp [W7] at h
 | cons a l =>
  rw [W7] at h;obtain ⟨z,e,e1,e2⟩:=V5 fin l a;rw [e] at h;obtain rfl:=Vx h;intro y hy;rcases X2.1 hy with rfl | hy
  ·exact e1
  ·exact e2 y hy
theorem OC {x t sp} {st:Int} {r bs:List Bool} (hr:r.length<=sp.length+1) (hb:bs∈XZ r (sp.length+1)) (h:(Xa x t sp 0 (Xk t st) bs).2=0) :
  (Wn x t sp st r).2=0/\(Wn x t sp st r).1.fin<=(Xa x t sp 0 (Xk t st) bs).1.she.fin/\(Wn x t sp st r).1.miles=(Xa x t sp 0 (Xk t st) bs).1.she.miles:=by
 have hrun:WT (XP x t sp) 0 (Xk t st) bs=some (Xa x t sp 0 (Xk t st) bs).1:=by rw [Y9,if_pos h]
 have hmem:(Xa x t sp 0 (Xk t st) bs).1∈(XZ r (sp.length+1)).filterMap (WT (XP x t sp) 0 (Xk t st)):=JL.2 ⟨_,hb,hrun⟩;unfold Wn
 cases hf:W7 Wb none ((XZ r (sp.length+1)).filterMap (WT (XP x t sp) 0 (Xk t st))) with
 | none =>
  rw [Rt _ hf] at hmem;simp at hmem
 | some L =>
  simp only;refine ⟨trivial,gE hf _ hmem,?_⟩;have hm:=bestF_len.fmL_mem _ _ hf;obtain ⟨cs,hcs,hrun2⟩:=JL.1 hm;rw [Y9] at hrun2
  split at hrun2
  ·rename_i h5;obtain rfl:=Vx hrun2;have l1:=((AG hr).1 hb).1;have l2:=((AG hr).1 hcs).1;exact Sc cs bs 0 _ _ Za rfl h5 h
  ·cases hrun2
theorem dQ {x t sp} {st:Int} {r:List Bool} (hr:r.length<=sp.length+1) (h:(Wn x t sp st r).2=0): ∃bs:List Bool,bs∈XZ r (sp.length+1)/\(Xa x t sp 0 (Xk t st) bs).2=0/\(Wn x t sp st r).1=(Xa x t sp 0 (Xk t st) bs).1.she:=by
 unfold Wn at h ⊢
 cases hf:W7 Wb none ((XZ r (sp.length+1)).filterMap (WT (XP x t sp) 0 (Xk t st))) with
 | none =>
  exfalso;rw [hf] at h;simp only at h
  have hm:YZ r (sp.length+1)∈XZ r (sp.length+1):=by
   unfold XZ YZ;rw [fromB_next];simp
  have h2:WT (XP x t sp) 0 (Xk t st) (YZ r (sp.length+1))=some (Xa x t sp 0 (Xk t st) (YZ r (sp.length+1))).1:=by rw [Y9,if_pos h]
  have h3:=JL.2 ⟨_,hm,h2⟩;rw [Rt _ hf] at h3;simp at h3
 | some L =>
  simp only;have hm:=bestF_len.fmL_mem _ _ hf;obtain ⟨bs,hbs,hrun⟩:=JL.1 hm;rw [Y9] at hrun
  split at hrun
  ·rename_i h5;obtain rfl:=Vx hrun;exact ⟨bs,hbs,h5,rfl⟩
  ·cases hrun
theorem MF {x:Inst} {r q:Rte} (hx:InstOk x) (ht:q.typ=r.typ) (hs:q.start=r.start) (hv:q.visits=r.visits) {s:List Bool} (hr:r.rests=q.rests++s) (h:evalE x r=0) :
  evalE x q=0/\(ZY x q).fin<=(ZY x r).fin/\(ZY x q).miles=(ZY x r).miles:=by
 have hru:=X7 h;obtain ⟨_,_,hs3⟩:=X3 hru
 have hlen:r.rests.length<=(Xp x r.visits).length+1:=by rw [X4];exact hs3.2.2
 have htq:ZN x q=ZN x r:=by unfold ZN;rw [ht]
 have hb:(Xh x r).2=0:=by rw [evalE,if_pos hru] at h;exact h
 obtain ⟨bs,b1,b2,b3⟩:=dQ hlen hb
 have hq1:q.rests.length<=r.rests.length:=by rw [hr,ZG];omega
 obtain ⟨l1,s2,l2⟩:=(AG hlen).1 b1;have hbq:bs∈XZ q.rests ((Xp x r.visits).length+1):=(AG Za).2 ⟨l1,s++s2,by rw [l2,hr,Qz]⟩;obtain ⟨c1,c2,c3⟩:=OC (x:=x) (t:=ZN x r) (sp:=Xp x r.visits) (st:=r.start) (r:=q.rests) Za hbq b2
 have hruq:Yf x q=0:=by
  have hru2:=hru;unfold Yf at hru2 ⊢;rw [htq,ht,hs,hv]
  by_cases c1:(0<=r.typ/\r.typ<(x.types.length:Int))
  ·rw [if_neg (fun h=>h c1)] at hru2 ⊢
   by_cases c2:Xw x r.visits=0
   ·rw [if_neg (fun h=>h c2)] at hru2 ⊢
    by_cases c3:(r.visits.any fun v=> !WK (ZN x r) (nth x.orders v.order.toNat).skills)=true
    ·rw [if_pos c3] at hru2;cases hru2
    ·rw [if_neg c3] at hru2 ⊢
     by_cases c4:UT x (ZN x r).cap r.visits=false
     ·rw [if_pos c4] at hru2;cases hru2
     ·rw [if_neg c4];exact if_neg Za
   ·rw [if_pos c2] at hru2;exact absurd hru2 c2
  ·rw [if_pos c1] at hru2;cases hru2
 have hbe:Xh x q=Wn x (ZN x r) (Xp x r.visits) r.start q.rests:=by unfold Xh;rw [htq,hs,hv]
 have e1:evalE x q=0:=by rw [evalE,if_pos hruq,hbe];exact c1
 refine ⟨e1,?_,?_⟩
 ·rw [ZY,if_pos e1,ZY,if_pos h,hbe];have:(Xh x r).1=_:=b3;rw [this];exact c2
 ·rw [ZY,if_pos e1,ZY,if_pos h,hbe];have:(Xh x r).1=_:=b3;rw [this];exact c3
theorem mS {a b:Sco} (h:(Xn a).2=0) (hb:0<=b.cost/\0<=b.moved/\0<=b.other/\0<=b.work) (h1:b.cost<=a.cost) (h2:b.moved=a.moved) (h3:b.other=a.other) (h4:b.work<=a.work):(Xn b).2=0/\(Xn b).1<=(Xn a).1:=by
 unfold Xn at h ⊢
 split at h
 ·cases h
 ·split at h
  ·cases h
  ·rename_i c1 c2
   have d1: ¬(b.cost<0\/b.moved<0\/b.other<0\/b.work<0):=Za
   have d2: ¬(1073741824<b.cost\/16<=b.moved\/16<=b.other\/65536<=b.work):=Za
   rw [if_neg c1,if_neg c2,if_neg d1,if_neg d2];refine ⟨rfl,?_⟩;simp only;omega
theorem ME {x:Inst} {r q:Rte} (hx:InstOk x) (ht:q.typ=r.typ) (hs:q.start=r.start) (hv:q.visits=r.visits) {s:List Bool} (hr:r.rests=q.rests++s) (h:(prcF x r).2=0) :
  (prcF x q).2=0/\(prcF x q).1<=(prcF x r).1:=by
 have he:=QZ h;obtain ⟨e1,e2,e3⟩:=MF hx ht hs hv hr he
 have htq:ZN x q=ZN x r:=by unfold ZN;rw [ht]
 have f1:=IV hx e1;have f2:=IV hx he;obtain ⟨p1,_⟩:=Jn hx e1;obtain ⟨hty,_,_⟩:=X3 (X7 he);have hnum:=U0 hx (show r.typ.toNat<x.types.length by omega);have htyp:nth x.types r.typ.toNat=ZN x r:=rfl;rw [htyp] at hnum;rw [htq] at f1;rw [prcF,if_pos he] at h;rw [prcF,if_pos e1,prcF,if_pos he]
 have b1:(Xh x q).1=ZY x q:=by rw [ZY,if_pos e1]
 have b2:(Xh x r).1=ZY x r:=by rw [ZY,if_pos he]
 rw [XG,if_pos e1,b1] at p1 ⊢;rw [XG,if_pos he,b2] at h ⊢;unfold Ve at p1;refine mS h p1 ?_ ?_ ?_ ?_
 ·simp only [Dt,htq,e3];have:(ZN x r).perTick*((ZY x q).fin-(ZN x r).opn)<=(ZN x r).perTick*((ZY x r).fin-(ZN x r).opn):=Bg Za Za;omega
 ·simp only [Dt,hv,ht]
 ·simp only [Dt,hv,ht]
 ·simp only [Dt,htq]
  have t1:0<=((ZY x q).fin-(ZN x r).opn).tdiv 64/\((ZY x q).fin-(ZN x r).opn).tdiv 64<=((ZY x r).fin-(ZN x r).opn).tdiv 64:=by
   rw [Ea Za,Ea Za];omega
  exact Vy t1.2 t1.2 t1.1 Za
def Xf (l:List Rte):Nat:=ordS (l.flatMap fun r=>r.visits)
theorem UI {l:List Rte} {i:Nat} :(Xf l).testBit i=true↔ ∃r∈l,∃v∈r.visits,v.order.toNat=i:=by
 grind [Xf,YS]
def JZ (x:Inst) (b:Rte) (S:Nat):Col×Bool:=S1 x b S (KX x S) (QH,false)
def JQ (x:Inst) (b:Rte) (S:Nat):List Col:=if (JZ x b S).2=true then [(JZ x b S).1] else []
def Bf (need wout S:Nat):Bool:=decide (S&&&need=need)&&decide (S&&&wout=0)
def E6 (x:Inst) (b:Rte) (need wout S:Nat):List Col:=if Bf need wout S=true then JQ x b S else []
def J0 (x:Inst) (b:Rte) (need wout:Nat):List Col:=GI (E6 x b need wout) (2^x.orders.length-1)
def LI (x:Inst) (bs:List Rte):Nat->List Col
 | 0=> []
 | k+1=>LI x bs k++J0 x (nth bs k) (Xf [nth bs k]) (Xf (bs.take k++bs.drop (k+1)))
def Bh (k now:Int):Rte:=⟨k,now,true,[],true,[]⟩
def Pe (x:Inst) (bs:List Rte) (now:Int):Nat->List Col
 | 0=>LI x bs bs.length
 | k+1=>Pe x bs now k++J0 x (Bh (k:Int) now) 0 (Xf bs)
def Er (x:Inst) (bs:List Rte) (now:Int):List Col:=Pe x bs now x.types.length
def OS (bs:List Rte) (a:Int) (S:Nat):Bool:=(List.range bs.length).all fun i=>(nth bs i).visits.all fun v=>S.testBit v.order.toNat==decide ((i:Int)=a)
theorem nS {S T:Nat} :S&&&T=T↔ ∀i,T.testBit i=true->S.testBit i=true:=by
 constructor
 ·grind
 ·intro h;refine Jv fun i=> ?_
  grind
theorem P0 {S T:Nat} :S&&&T=0↔ ∀i,T.testBit i=true->S.testBit i=false:=by
 constructor
 ·intro h i hi;have:=Z5 (·.testBit i) h
  grind
 ·intro h;refine Jv fun i=> ?_
  grind
theorem BT {bs:List Rte} {a:Int} {S:Nat} :OS bs a S=true↔ ∀i,i<bs.length-> ∀v∈(nth bs i).visits,S.testBit v.order.toNat=decide ((i:Int)=a):=by
 simp_all [OS]
theorem RT {bs:List Rte} {a:Nat} {r:Rte} :r∈bs.take a++bs.drop (a+1)↔ ∃i,i<bs.length/\i≠a/\r=nth bs i:=by
 rw [Xo]
 constructor
 ·rintro (h | h)
  ·obtain ⟨i,hi,rfl⟩:=List.mem_take_iff_getElem.1 h;exact ⟨i,Za,Za,by grind [Zi]⟩
  ·obtain ⟨i,hi,rfl⟩:=ZU.1 h;rw [Z4] at hi;exact ⟨a+1+i,Za,Za,by grind [Zi]⟩
 ·rintro ⟨i,h1,h2,rfl⟩;rcases WS i a with h | h
  ·grind [List.mem_take_iff_getElem,Zi]
  ·right
   refine ZU.2 ⟨i-(a+1),by grind,?_⟩
   grind [Zi]
theorem Rp {bs:List Rte} {a S:Nat} (ha:a<bs.length):OS bs (a:Int) S=Bf (Xf [nth bs a]) (Xf (bs.take a++bs.drop (a+1))) S:=by
 rw [Yj,BT,Bf,Zy,Zp,Zp,nS,P0]
 constructor
 ·intro h
  constructor
  ·intro i hi;obtain ⟨r,hr,v,hv,rfl⟩:=UI.1 hi
   grind
  ·intro i hi;obtain ⟨r,hr,v,hv,rfl⟩:=UI.1 hi;obtain ⟨q,q1,q2,rfl⟩:=RT.1 hr
   grind
 ·rintro ⟨h1,h2⟩ i hi v hv
  by_cases c:i=a
  ·subst c;rw [h1 _ (UI.2 ⟨_,Zb,v,hv,rfl⟩)];simp
  ·rw [h2 _ (UI.2 ⟨_,RT.2 ⟨i,hi,c,rfl⟩,v,hv,rfl⟩),XK Za]
theorem Rq {bs:List Rte} {S:Nat} :OS bs (-1) S=Bf 0 (Xf bs) S:=by
 have e:Bf 0 (Xf bs) S=true↔S&&&Xf bs=0:=by simp [Bf]
 rw [Yj,BT,e,P0]
 constructor
 ·intro h i hi;obtain ⟨r,hr,v,hv,rfl⟩:=UI.1 hi;obtain ⟨q,hq,rfl⟩:=ZU.1 hr
  grind [Zi]
 ·intro h2 i hi v hv;rw [h2 _ (UI.2 ⟨_,Zo hi,v,hv,rfl⟩),XK Za]
def GQ (x:Inst) (p:Pln) (j:Nat):Ord:= { nth x.orders j with now:=nth (DV x p) j }
def tS (x:Inst) (p:Pln):Inst:= { x with orders_c:=false,orders:=Vo (GQ x p) x.orders.length }
def nN (x:Inst) (p:Pln):V:= .tup [.p (ZE (if Wq x p=0 then tS x p else Gt)),.p (.int .i64 (Wq x p))]
def vN (x:Inst) (p:Pln) (S j:Nat):Ord:=if S.testBit j=true then { GQ x p j with penalty:= -1 } else GQ x p j
def D2 (x:Inst) (p:Pln) (S:Nat):Inst:= { x with orders_c:=false,orders:=Vo (vN x p S) x.orders.length }
theorem dL {x:Inst} {p:Pln} {S j:Nat} : ∃v:Int,vN x p S j= { nth x.orders j with now:=nth (DV x p) j,penalty:=v } /\(v=(nth x.orders j).penalty\/v= -1):=by
 rw [vN]
 split
 ·exact ⟨_,rfl,.inr rfl⟩
 ·exact ⟨_,rfl,.inl rfl⟩
theorem dK {x:Inst} {p:Pln} {S:Nat} (hx:InstOk x) (h:Wq x p=0):InstOk (D2 x p S):=by
 have hlen:(D2 x p S).orders.length=x.orders.length:=VC;have hn: ∀i,i<x.orders.length->nth (D2 x p S).orders i=vN x p S i:=fun i hi=>KP hi;refine ⟨hx.net,hx.types,⟨by rw [hlen];exact hx.orders.1,fun i hi=> ?_⟩,by rw [hlen];exact hx.rules⟩;rw [hlen] at hi;have ho:=hx.orders.2 i hi;obtain ⟨v,e,hv⟩:=dL (x:=x) (p:=p) (S:=S) (j:=i)
 constructor
 ·rw [hn i hi,e];exact ho.name
 ·intro j hj;obtain ⟨v2,e2,_⟩:=dL (x:=x) (p:=p) (S:=S) (j:=j);rw [hn i hi,hn j Za,e,e2];exact ho.twin j hj
 ·rw [hn i hi,e];exact ho.load
 ·rw [hn i hi,e];exact ho.pick
 ·rw [hn i hi,e];exact ho.drp
 ·rw [hn i hi,e];exact ho.one
 ·rw [hn i hi,e];exact ho.pstp
 ·rw [hn i hi,e];exact ho.dstp
 ·rw [hn i hi,e];exact ho.skills
 ·rw [hn i hi,e];have ha:=ho.arg;have hk:=iM h hi
  show argOk _ (x.types.length:Int)=true
  simp only [argOk,rng,Zy,Zp] at ha ⊢;obtain ⟨⟨a1,a2⟩,a3,a4,a5,a6,a7⟩:=ha;refine ⟨⟨?_,a2⟩,a3,?_⟩
  ·omega
  omega
theorem AX (l:List Ord) (c:Bool) (hl:l.length<=1048576):ACalls Tryz.prog 58 [.p (.list c (l.map eOrd))] [] fun y H'=>y= .sl 0 0 l.length l.length/\H'= [.elems 16 (l.map eOrd)]:=by
 refine Zf [1] Tryz.func58 rfl ZiK ?_;simp (disch:=omega) only [Tryz.f58,go_sem,seval];refine Vs (L8 (e:=59) (cl:=c) (xs:=l.map eOrd) Tryz.underlying40 (by rfl) Zb fun b hb=> ?_);refine Zg [] _ _ _ _ (Zc ?_);refine cD ?_ ?_<;>intro h<;>simp (disch:=omega) only [Sh.out h,go_sem,seval]
 ·have:l= []:=by simp_all
  subst this;exact ⟨_,_,Weak.nil 0 16 rfl Zb,rfl,rfl⟩
 ·refine Zg [] _ _ _ _ (Zc ?_);exact we
theorem bJ (l:List Ord) (i:Nat) (k:Int) (hi:i<l.length):ACalls Tryz.prog 94 [.ep 0 i 0 l.length,.p (.int .i64 k)] [.elems 16 (l.map eOrd)] fun y H'=>y= .tup []/\H'= [.elems 16 ((l.set i { nth l i with now:=k }).map eOrd)]:=by
 have hel:Ut (l.map eOrd) i=eOrd (nth l i):=YC hi
 have hset:(l.map eOrd).set i (eOrd { nth l i with now:=k })=(l.set i { nth l i with now:=k }).map eOrd:=Zb
 simp only [D4] at hset;refine Zf [] Tryz.func94 rfl Zi9 ?_;simp (disch:=omega) only [Tryz.f94,go_sem,seval];exact ⟨.tup [],_,Weak.refl _ _ _,rfl,Z5 (fun q=> [AM.Obj.elems 16 q]) hset⟩
def bY (x:Inst) (p:Pln) (k:Nat):List Ord:=Vo (fun j=>if j<k then GQ x p j else nth x.orders j) x.orders.length
theorem Sp {x:Inst} {p:Pln} {k:Nat} :(bY x p k).length=x.orders.length:=VC
theorem mT {x:Inst} {p:Pln} :bY x p 0=x.orders:=(AH fun j _=>by rfl).trans aL
theorem tT {x:Inst} {p:Pln} :bY x p x.orders.length=Vo (GQ x p) x.orders.length:=AH fun j hj=>by grind
theorem tU {x:Inst} {p:Pln} {k:Nat} (h:k<x.orders.length):nth (bY x p k) k=nth x.orders k:=by simp_all [bY,KP]
theorem tV {x:Inst} {p:Pln} {k:Nat} :(bY x p k).set k (GQ x p k)=bY x p (k+1):=by
 rw [bY,Nz];refine AH fun i _=> ?_
 grind
theorem eA (x:Inst) (p:Pln) (ho:x.orders.length<=4) (ht:x.types.length<=1048576) (hr:p.routes.length<=1048576) (hv: ∀r∈p.routes,r.visits.length<=1048576) :
  ACalls Tryz.prog 93 [.p (ZE x),.p (Wh p),.fn (.func 94) [] []] [] fun y H'=>y=nN x p/\H'= []:=by
 have ck:=TF x p ho ht hr hv;have zI:ZE Gt= .agg [.list true [],.list true [],.list true [],.list true [],.list true [],.list true []]:=rfl;obtain ⟨T,hT⟩: ∃T,T=nN x p:=⟨_,rfl⟩;rw [<- hT];unfold nN at hT;refine Zf [10] Tryz.func93 rfl Zi8 ?_;simp (disch:=omega) only [Tryz.f93,go_sem,seval]
 by_cases h0:Wq x p=0
 ·rw [B4,if_pos h0] at ck;rw [if_pos h0,h0] at hT;have hkl:=Fm (x:=x) (p:=p);refine W1 ck (Zc ?_);refine (AX x.orders x.orders_c Za).useF (Zc ?_);refine ZO [10] [2,3,6,8,27] (fun k:Nat=> [(28,.p (.int .i64 k))]) (fun k=> [.cells (DU x 3 x.orders.length),Zu p,.cells (List.replicate 6 (.p (.list true []))),.elems 16 ((bY x p k).map eOrd)]) (fun k=>k<=x.orders.length) (fun k=>x.orders.length-k) 0 Zb (Weak.mk ?_) ?_
  ·simp (disch:=omega) only [DU,Zu,List.replicate,mT,go_sem,seval]
  ·intro k hk;have hrl:=Sp (x:=x) (p:=p) (k:=k);simp (disch:=omega) only [DU,Zu,List.replicate,go_sem,seval];refine cD ?_ ?_<;>intro h<;>simp (disch:=omega) only [Sh.out h,go_sem,seval,↓reduceIte]
   ·have hk2:k<x.orders.length:=Za
    have cw:=bJ (bY x p k) k (nth (DV x p) k) Za;rw [tU hk2,show ({ nth x.orders k with now:=nth (DV x p) k } :Ord)=GQ x p k from rfl,tV] at cw
    have hxl:((bY x p k).map eOrd).length=x.orders.length:=by grind
    rw [hrl,<- hxl] at cw;have ca:=fun H (hH:H[3]? =some (AM.Obj.elems 16 ((bY x p k).map eOrd)))=>ACalls.atE (o:=3) (ps:= [.int .i64 (nth (DV x p) k)]) (H:=H) hH cw (by simp [Sp]);simp only [hxl] at ca;refine ZV 9 mixed Ze Ze (Zc ?_);refine (ca _ (by rfl)).mono ?_;rintro y H' ⟨rfl,rfl⟩;simp (disch:=omega) only [XE,Xe,go_sem,seval];exact ⟨k+1,Za,Za,wk⟩
   ·have hkl:k=x.orders.length:=Za
    subst hkl;refine Zq (Weak.fz (o:=3) (by rfl)) ?_;refine Zg [] _ _ _ _ ?_;simp (disch:=omega) only [Zs,Zn,XE,Xe,ZK,hrl,eq_self,go_sem,seval];exact ⟨T,[],Weak.mk (by simp (disch:=omega) only [hT,tS,tT,go_sem,seval]),rfl,rfl⟩
 ·rw [B4,if_neg h0] at ck;rw [if_neg h0,zI] at hT;refine W1 ck (Zc ?_);refine cD ?_ ?_<;>intro h2<;>simp (disch:=omega) only [Sh.out h2,go_sem,seval,↓reduceIte]
  ·exact ⟨T,[],Weak.mk (by simp (disch:=omega) only [hT,go_sem,seval]),rfl,rfl⟩
  ·omega
theorem jA (x:Inst) (p:Pln) (ho:x.orders.length<=4) (ht:x.types.length<=1048576) (hr:p.routes.length<=1048576) (hv: ∀r∈p.routes,r.visits.length<=1048576) :
  ACalls Tryz.prog 57 [.p (ZE x),.p (Wh p)] [] fun y H'=>y=nN x p/\H'= []:=by
 have ck:=eA x p ho ht hr hv;unfold nN at ck ⊢;refine Zf [] Tryz.func57 rfl ZiJ ?_;simp (disch:=omega) only [Tryz.f57,go_sem,seval];refine W1 ck ?_;generalize (if Wq x p=0 then tS x p else Gt)=Z;refine Zc ?_;exact we
theorem mV (x:Inst) (p:Pln) (ho:x.orders.length<=1048576) (ht:x.types.length<=1048576) (hr:p.routes.length<=1048576) (hv: ∀r∈p.routes,r.visits.length<=1048576) :
  ACalls Tryz.prog 61 [.p (ZE x),.p (Wh p)] [] fun y H'=>y=nN x p/\H'= []:=by
 have ck:=Pn x p ho ht hr hv;have zI:ZE Gt= .agg [.list true [],.list true [],.list true [],.list true [],.list true [],.list true []]:=rfl;obtain ⟨T,hT⟩: ∃T,T=nN x p:=⟨_,rfl⟩;rw [<- hT];unfold nN at hT;refine Zf [6,12] Tryz.func61 rfl ZiN ?_;simp (disch:=omega) only [Tryz.f61,go_sem,seval]
 by_cases h0:Wq x p=0
 ·rw [B4,if_pos h0] at ck;rw [if_pos h0,h0] at hT;have hkl:=Fm (x:=x) (p:=p);refine W1 ck (Zc ?_);refine Zq (Weak.nilC (o:=3) (j:=3) 16 (by rfl) (by rfl) Zb) ?_;refine Zg [12] _ _ _ _ ?_;simp (disch:=omega) only [XE,Xe,ZW,ZM,Zw,Zz,go_sem,seval];refine ZO [12] [2,4,6,8] (fun q:Nat×List Ord=> [(9,.p (.int .i64 q.1))]) (fun q=> [Zh x,Zu p,.cells (List.replicate 6 (.p (.list true []))),.cells (DU x 4 q.2.length),.elems 16 (q.2.map eOrd)]) (fun q=>q.1<=x.orders.length/\q.2=Vo (GQ x p) q.1) (fun q=>x.orders.length-q.1) (0,[]) ⟨Zb,by simp [Vo]⟩ (Weak.mk ?_) ?_
  ·simp (disch:=omega) only [Zh,Zu,DU,List.replicate,Zz,Zn,go_sem,seval]
  ·rintro ⟨k,m⟩ ⟨hk,hm⟩;simp only at hk hm
   have hml:m.length=k:=by rw [hm];exact VC
   simp (disch:=omega) only [Zh,Zu,DU,List.replicate,go_sem,seval];refine ZI ?_ ?_<;>intro h
   ·have hk2:k<x.orders.length:=Za
    have hsn:Vo (GQ x p) (k+1)=m++ [GQ x p k]:=by rw [aM,hm]
    exact ⟨(k+1,m++ [GQ x p k]),⟨Za,hsn.symm⟩,Za,Weak.mk (by simp (disch:=omega) only [GQ,XA,ZG,Zs,Zn,Zw,Zz,D4,go_sem,seval])⟩
   ·have hkl:k=x.orders.length:=Za
    subst hkl;refine Zq (Weak.fz (o:=4) (by rfl)) ?_;refine Zg [] _ _ _ _ ?_;simp (disch:=omega) only [Zs,Zn,XE,Xe,eq_self,go_sem,seval];exact ⟨T,[],Weak.mk (by simp (disch:=omega) only [hT,tS,hm,go_sem,seval]),rfl,rfl⟩
 ·rw [B4,if_neg h0] at ck;rw [if_neg h0,zI] at hT;refine W1 ck (Zc ?_);refine cD ?_ ?_<;>intro h2<;>simp (disch:=omega) only [Sh.out h2,go_sem,seval,↓reduceIte]
  ·exact ⟨T,[],Weak.mk (by simp (disch:=omega) only [hT,go_sem,seval]),rfl,rfl⟩
  ·omega
theorem BI (l:List Vis) (c:Bool) (hl:l.length<=1048576):ACalls Tryz.prog 251 [.p (.list c (l.map Z1))] [] fun y H'=>y= .sl 0 0 l.length l.length/\H'= [.elems 2 (l.map Z1)]:=by
 refine Zf [1] Tryz.func251 rfl ZbR ?_;simp (disch:=omega) only [Tryz.f251,go_sem,seval];refine Vs (L8 (e:=126) (cl:=c) (xs:=l.map Z1) Tryz.underlying47 (by rfl) Zb fun b hb=> ?_);refine Zg [] _ _ _ _ (Zc ?_);refine cD ?_ ?_<;>intro h<;>simp (disch:=omega) only [Sh.out h,go_sem,seval]
 ·have:l= []:=by simp_all
  subst this;exact ⟨_,_,Weak.nil 0 2 rfl Zb,rfl,rfl⟩
 ·refine Zg [] _ _ _ _ (Zc ?_);exact we
def Vn (x:Inst) (b:Rte) (S:Nat) (z:Col×Bool):AM.Obj:= .cells [.p (.list x.net.places_c (x.net.places.map eS)),.p (.list x.net.arcs_c (x.net.arcs.map WV)),.p (.list x.types_c (x.types.map WW)),.p (.list x.orders_c (x.orders.map eOrd)),.p (.list x.apart_c (x.apart.map eP)),.p (.list x.before_c (x.before.map eP)),.p (.int .i64 b.typ),.p (.int .i64 b.start),.p (.list b.rests_c (b.rests.map eB)),.p (.list b.visits_c (b.visits.map Z1)),.p (.int .i64 S),.p (.bool z.2),.p (.int .i64 z.1.typ),.p (.int .i64 z.1.set),.p (.int .i64 z.1.price),.p (.int .i64 z.1.route.typ),.p (.int .i64 z.1.route.start),.p (.list z.1.route.rests_c (z.1.route.rests.map eB)),.p (.list z.1.route.visits_c (z.1.route.visits.map Z1))]
def ZqD (v:Vis):AM.Obj:= .cells [.p (.int .i64 v.order),.p (.bool v.drp)]
def BV (b:Rte) (l:List Vis):Bool:=b.visits_c&&decide (l.length=b.visits.length)
theorem vA (x:Inst) (hx:InstOk x) (b:Rte) (S:Nat) (l:List Vis) (z:Col×Bool) (hl:l.length<=1048576) (hr:b.rests.length<=1048576) (hz:z.1.route.visits.length<=1048576) :
  ACalls Tryz.prog 192 [.ptr 0 0,.p (.list (BV b l) (l.map Z1))] [Vn x b S z] fun y H'=>y= .tup []/\H'= [Vn x b S (WB (Bj x b S) (V4 x b S) Qq z l)]:=by
 obtain ⟨R,hR⟩: ∃R,R=Vn x b S (WB (Bj x b S) (V4 x b S) Qq z l):=⟨_,rfl⟩;rw [<- hR]
 have hno:Bj x b S l=false->R=Vn x b S z:=fun h=>by simp_all [WB]
 have hrt:aO b l=⟨b.typ,b.start,b.rests_c,b.rests,BV b l,l⟩:=rfl;have hpr:=Ns x (aO b l);obtain ⟨⟨zt,zs,zp,zr⟩,zf⟩:=z;refine Zf [] Tryz.func192 rfl Zbm ?_;simp (disch:=omega) only [Tryz.f192,Vn,go_sem,seval];refine W1 (Vl ⟨b.typ,b.start,b.rests_c,b.rests,BV b l,l⟩ hl) (Zc ?_);refine gF ?_ ?_<;>intro h1<;>simp (disch:=omega) only [Sh.out h1,go_sem,seval,↓reduceIte]
 ·have e:=hno (by simp_all [Bj]);exact ⟨.tup [],[R],Weak.mk (by simp (disch:=omega) only [e,Vn,go_sem,seval]),rfl,rfl⟩
 ·refine cD ?_ ?_<;>intro h2<;>simp (disch:=omega) only [Sh.out h2,go_sem,seval]
  ·have e:=hno (by simp_all [Bj]);exact ⟨.tup [],[R],Weak.mk (by simp (disch:=omega) only [e,Vn,go_sem,seval]),rfl,rfl⟩
  ·refine Xr (Zc ?_);refine Ac (aP x (aO b l) hx ⟨hl,hr⟩) (Zc ?_);refine cD ?_ ?_<;>intro h3<;>simp (disch:=omega) only [Sh.out h3,go_sem,seval]
   ·have e:=hno (by simp_all [Bj]);exact ⟨.tup [],[R],Weak.mk (by simp (disch:=omega) only [e,Vn,go_sem,seval]),rfl,rfl⟩
   ·have hok:Bj x b S l=true:=by
     simp_all [Bj]
    have hcol:(⟨b.typ,(S:Int),(prcF x (aO b l)).1,⟨b.typ,b.start,b.rests_c,b.rests,BV b l,l⟩⟩:Col)=V4 x b S l:=rfl;refine XI [9,10] 11 mixed Ze Ze Ze Zb (Zc ?_);refine ZL 9 _ _ Ze (by refine Zc ?_;exact ⟨rfl,rfl⟩) ?_;refine Zc ?_;refine ZL 10 _ _ Ze (by refine Zc ?_;exact ⟨rfl,rfl⟩) (Yo ?_);refine Zc ?_
    cases zf with
    | false =>
     have e:R=Vn x b S (V4 x b S l,true):=by rw [hR,WB,if_pos ⟨hok,.inl rfl⟩]
     refine Xr (KT ?_);exact ⟨.tup [],[R],Weak.mk (by simp (disch:=omega) only [e,Vn,V4,aO,BV,go_sem,seval]),rfl,rfl⟩
    | true =>
     refine Xr (J7 ?_);refine Zr (OE (V4 x b S l) ⟨zt,zs,zp,zr⟩ hl hz) (Zc ?_)
     cases hb:Qq (V4 x b S l) ⟨zt,zs,zp,zr⟩ with
     | true =>
      have e:R=Vn x b S (V4 x b S l,true):=by simp_all [WB]
      refine Zc ?_;exact ⟨.tup [],[R],Weak.mk (by simp (disch:=omega) only [e,Vn,V4,aO,BV,go_sem,seval]),rfl,rfl⟩
     | false =>
      have e:R=Vn x b S (⟨zt,zs,zp,zr⟩,true):=by simp_all [WB]
      refine Zc ?_;exact ⟨.tup [],[R],Weak.mk (by simp (disch:=omega) only [e,Vn,go_sem,seval]),rfl,rfl⟩
theorem O6 {x:Inst} {S:Nat} {l:List Vis} {v:Vis} (h:v∈CW x S l):v∈AS x S l:=by
 obtain ⟨i,h1,h2,h3,h4,h5⟩:=Kx.1 h
 grind [qY,Kw,JR]
theorem NB {x:Inst} {S:Nat} {l:List Vis} {v:Vis} (h:v∈AS x S l):(AS x S (l++ [v])).length+1<=(AS x S l).length:=by
 have e:AS x S (l++ [v])=(AS x S l).filter fun w=>decide (w≠v):=by
  simp_all [AS,Bool.and_comm]
 rw [e];exact List.length_filter_lt_length_iff_exists.2 ⟨v,h,Zb⟩
def PQ (x:Inst) (b:Rte) (S f:Nat):Prop:= ∀(l:List Vis) (z:Col×Bool),(AS x S l).length<=f->b.visits.length<=l.length->l.length+(AS x S l).length<=1048576->z.1.route.visits.length<=1048576 ->
  ACalls Tryz.prog 193 [.ptr 0 0,.p (.list (BV b l) (l.map Z1))] [Vn x b S z] fun y H'=>y= .tup []/\H'= [Vn x b S ((Co (CW x S) f l).foldl (WB (Bj x b S) (V4 x b S) Qq) z)]
theorem N1 {x:Inst} {b:Rte} {S N:Nat} : ∀(L:List (List Vis)) (z:Col×Bool),z.1.route.visits.length<=N->(∀m∈L,m.length<=N)->(L.foldl (WB (Bj x b S) (V4 x b S) Qq) z).1.route.visits.length<=N
 | [],z,h,_=>h
 | m::L,z,h,hL=>by
  rw [Vb];refine N1 L _ ?_ fun q hq=>hL q (YQ _ hq);unfold WB
  split
  ·exact hL m Zb
  ·exact h
theorem Fp {x:Inst} {S:Nat} : ∀(f:Nat) (l:List Vis),∀m∈Co (CW x S) f l,m.length<=l.length+(AS x S l).length
 | 0,l,m,hm=>by
  simp_all [Co]
 | f+1,l,m,hm=>by
  rw [Co] at hm
  split at hm
  ·grind
  ·obtain ⟨v,hv,hm⟩:=Ws.1 hm;have h1:=Fp f _ m hm;have h2:=NB (O6 hv)
   grind
theorem Gk (x:Inst) (hx:InstOk x) (b:Rte) (S:Nat) (hS:S<9223372036854775808) (hbl:x.before.length<=1048576) (hr:b.rests.length<=1048576) (l:List Vis) (z:Col×Bool) (hnx:CW x S l= []) (hl:l.length<=1048576) (hz:z.1.route.visits.length<=1048576) :
  ACalls Tryz.prog 193 [.ptr 0 0,.p (.list (BV b l) (l.map Z1))] [Vn x b S z] fun y H'=>y= .tup []/\H'= [Vn x b S (WB (Bj x b S) (V4 x b S) Qq z l)]:=by
 have hf:=YO hx
 have hn:x.orders.length<=60:=by have:=hf.len;omega
 have hsn:=HS x S l (BV b l) hS hl hn hbl (fun q hq=>by have:=(hf.val q hq);omega);rw [show nextU x S l x.orders.length= [] from hnx] at hsn;have ca:=vA x hx b S l z hl hr hz;obtain ⟨R,hR⟩: ∃R,R=Vn x b S (WB (Bj x b S) (V4 x b S) Qq z l):=⟨_,rfl⟩;rw [<- hR] at ca ⊢;refine Zf [] Tryz.func193 rfl iB ?_;simp (disch:=omega) only [Tryz.f193,Vn,go_sem,seval];refine Xr (Zc ?_);refine Zr (hsn) (Zc ?_);refine ca.useH (Zc ?_);exact ⟨.tup [],[R],Weak.refl _ _ _,rfl,rfl⟩
theorem tN (x:Inst) (hx:InstOk x) (b:Rte) (S:Nat) (hS:S<9223372036854775808) (hbl:x.before.length<=1048576) (hr:b.rests.length<=1048576):PQ x b S 0:=by
 intro l z h1 h2 h3 h4;simp only [Co,Vb,VW];refine Gk x hx b S hS hbl hr l z ?_ Za h4;refine List.eq_nil_iff_forall_not_mem.2 fun v hv=> ?_;have:=List.length_pos_of_mem (O6 hv);omega
theorem tO (x:Inst) (hx:InstOk x) (b:Rte) (S f:Nat) (hS:S<9223372036854775808) (hbl:x.before.length<=1048576) (hr:b.rests.length<=1048576) (ih:PQ x b S f):PQ x b S (f+1):=by
 intro l z g1 g2 g3 g4
 by_cases hnx:CW x S l= []
 ·rw [show Co (CW x S) (f+1) l= [l] by rw [Co,if_pos hnx]]
  grind [Gk]
 ·rw [show Co (CW x S) (f+1) l=(CW x S l).flatMap fun v=>Co (CW x S) f (l++ [v]) by rw [Co,if_neg hnx]];have hf:=YO hx
  have hn:x.orders.length<=60:=by have:=hf.len;omega
  have hsn:=HS x S l (BV b l) hS Za hn hbl (fun q hq=>by have:=(hf.val q hq);omega);have hnl:=Dg x S l x.orders.length;have hnv:nextU x S l x.orders.length=CW x S l:=rfl;rw [hnv] at hsn hnl;have hrs: ∀v∈CW x S l,(AS x S (l++ [v])).length+1<=(AS x S l).length:=fun v hv=>NB (O6 hv);generalize CW x S l=nx at hnx hsn hnl hrs ⊢;obtain ⟨B,hB⟩: ∃B:Nat->Col×Bool,B=fun q=>((nx.take q).flatMap fun v=>Co (CW x S) f (l++ [v])).foldl (WB (Bj x b S) (V4 x b S) Qq) z:=⟨_,rfl⟩
  have hB0:B 0=z:=by rw [hB];rfl
  have hBn:(nx.flatMap fun v=>Co (CW x S) f (l++ [v])).foldl (WB (Bj x b S) (V4 x b S) Qq) z=B nx.length:=by rw [hB];simp
  have hBs: ∀q,q<nx.length->B (q+1)=(Co (CW x S) f (l++ [nth nx q])).foldl (WB (Bj x b S) (V4 x b S) Qq) (B q):=fun q hq=>by
   rw [hB];simp only;rw [Xl hq,List.flatMap_append,List.foldl_append,<- Zi hq];simp
  have hBl: ∀q,(B q).1.route.visits.length<=1048576:=fun q=>by
   rw [hB];refine N1 _ _ g4 fun m hm=> ?_;obtain ⟨v,hv,hm⟩:=Ws.1 hm;have h1:=Fp _ _ m hm
   grind
  rw [hBn];clear hB hBn;have hne: ¬nx.length=0:=fun h=>hnx (Yt h);obtain ⟨R,hR⟩: ∃R,R=Vn x b S (B nx.length):=⟨_,rfl⟩;rw [<- hR];refine Zf [] Tryz.func193 rfl iB ?_;simp (disch:=omega) only [Tryz.f193,Vn,go_sem,seval];refine Xr (Zc ?_);refine Zr (hsn) (Zc ?_);refine cD ?_ ?_<;>intro h1<;>simp (disch:=omega) only [Sh.out h1,go_sem,seval]
  ·omega
  ·refine Zk [0,1,23,24] (fun q:Nat=> [(25,.p (.int .i64 q))]) (fun q=> [Vn x b S (B q)]) (fun q=>q<=nx.length) (fun q=>nx.length-q) 0 Zb (Weak.mk ?_) ?_
   ·simp (disch:=omega) only [Vn,hB0,go_sem,seval,↓reduceIte]
   ·intro q hq;simp (disch:=omega) only [Vn,go_sem,seval];refine cD ?_ ?_<;>intro h2<;>simp (disch:=omega) only [Sh.out h2,go_sem,seval,↓reduceIte]
    ·have hq2:q<nx.length:=Za
     have hBq:=hBs q hq2;have hmem:=ZF hq2;have hr1:=hrs _ hmem;have ihc:=ih (l++ [nth nx q]) (B q) Za (by simp;omega) (by simp;omega) (hBl q);rw [<- hBq,XA,show BV b (l++ [nth nx q])=false by rw [BV,XK (by simp;omega),Jx]] at ihc;refine XI [2,4,5] 6 mixed Ze Ze Ze Zb ?_;refine Zc ?_;refine QT 2 4 (.sl 2 0 l.length l.length) [.elems 2 (l.map Z1)] (.sl 2 0 1 1) [.elems 2 [Z1 (nth nx q)]] Ze (by refine Zc ?_;refine (BI l _ Za).useF ?_;exact ⟨rfl,rfl⟩) (by simp (disch:=omega) only [go_sem,seval,↓reduceIte]) ?_ ?_
     ·refine ZL 4 (.sl 3 0 1 1) [.elems 2 (l.map Z1),.elems 2 [Z1 (nth nx q)]] Ze (by simp (disch:=omega) only [ZW,ZM,go_sem,seval,↓reduceIte]) ?_;refine ZL 5 (.sl 2 0 (l.length+1) (l.length+1)) [.elems 2 (l.map Z1++ [Z1 (nth nx q)]),.elems 2 [Z1 (nth nx q)]] Ze (by simp (disch:=omega) only [ZW,ZM,go_sem,seval,↓reduceIte]) (Yo ?_);simp (disch:=omega) only [ZW,ZM,go_sem,seval];refine ACalls.weakA (Weak.fz (o:=2) (by rfl)) ?_;simp (disch:=omega) only [Zs,Zn,XE,Xe,eq_self,go_sem,seval]
      refine ihc.useP (L:= [_,_,_]) (by rfl) ?_ (by rfl) (by rfl);simp (disch:=omega) only [Vn,ZW,ZM,go_sem,seval];exact ⟨q+1,Za,Za,wk⟩
     ·refine ZL 2 (.sl 3 0 l.length l.length) [.elems 2 [Z1 (nth nx q)],.elems 2 (l.map Z1)] Ze (by simp (disch:=omega) only [ZW,ZM,go_sem,seval];refine (BI l _ Za).useF ?_;exact ⟨rfl,rfl⟩) ?_;refine ZL 5 (.sl 3 0 (l.length+1) (l.length+1)) [.elems 2 [Z1 (nth nx q)],.elems 2 (l.map Z1++ [Z1 (nth nx q)])] Ze (by simp (disch:=omega) only [ZW,ZM,go_sem,seval,↓reduceIte]) (Yo ?_);simp (disch:=omega) only [ZW,ZM,go_sem,seval];refine ACalls.weakA (Weak.fz (o:=3) (by rfl)) ?_;simp (disch:=omega) only [Zs,Zn,XE,Xe,eq_self,go_sem,seval]
      refine ihc.useP (L:= [_,_,_]) (by rfl) ?_ (by rfl) (by rfl);simp (disch:=omega) only [Vn,ZW,ZM,go_sem,seval];exact ⟨q+1,Za,Za,wk⟩
    ·have hql:q=nx.length:=Za
     subst hql;exact ⟨.tup [],[R],Weak.mk (by simp (disch:=omega) only [hR,Vn,go_sem,seval]),rfl,rfl⟩
theorem So (x:Inst) (hx:InstOk x) (b:Rte) (S:Nat) (hS:S<9223372036854775808) (hbl:x.before.length<=1048576) (hr:b.rests.length<=1048576): ∀f,PQ x b S f
 | 0=>tN x hx b S hS hbl hr
 | f+1=>tO x hx b S f hS hbl hr (So x hx b S hS hbl hr f)
theorem OM (x:Inst) (S:Nat) (hn:x.orders.length<=60) (h0:0<S) (hS:S<9223372036854775808):PC 190 [.p (ZE x),.p (.int .i64 S)] (.bool (decide (S / pw x.orders.length=0))):=by
 refine Zd Tryz.func190 rfl Zbk ?_;simp (disch:=omega) only [Tryz.f190,go_sem,seval];refine gT ?_ ?_<;>intro h1<;>simp (disch:=omega) only [Sh.out h1,go_sem,seval,↓reduceIte]
 ·refine Z5 (fun q=>V.p (PV.bool q)) ?_
  grind
 ·omega
theorem OQ (b:Rte) (hv:b.visits.length<=1048576) (hr:b.rests.length<=1048576):PC 191 [.p (Z0 b)] (.bool (E4 b)):=by
 refine Zd Tryz.func191 rfl Zbl ?_;simp (disch:=omega) only [Tryz.f191,go_sem,seval];refine Z5 (fun q=>V.p (PV.bool q)) ?_
 simp_all [E4]
def Mi (x:Inst) (b:Rte) (S:Nat):Col×Int:=if (JZ x b S).2=true then ((JZ x b S).1,0) else (QH,24)
theorem lN {x:Inst} {S:Nat} {l:List Vis} :(AS x S l).length<=KX x S:=by
 have:=List.length_filter_le (fun v=>decide (v ∉ l)) (BB x S x.orders.length);rw [Kh] at this;exact this
theorem SV (x:Inst) (hx:InstOk x) (b:Rte) (S:Nat) (hk:0<=b.typ/\b.typ<x.types.length) (hv:b.visits.length<=1000000) (hr:b.rests.length<=1000000) (hbl:x.before.length<=1048576) (hS0:0<S) (hS1:S<2^x.orders.length) :
  PT 147 [.p (ZE x),.p (Z0 b),.p (.int .i64 S)] [.p (Yn (Mi x b S).1),.p (.int .i64 (Mi x b S).2)]:=by
 have hf:=YO hx;have hn:=KF hx;have ht:=N0 hx;have hp2:2^x.orders.length<=2^10:=Y1 Za hn;have hdiv:S / pw x.orders.length=0:=Cg hS1
 have htot:KX x S<=20:=by grind [Lz,KX]
 have hrl:=lN (x:=x) (S:=S) (l:=b.visits);have cw:=So x hx b S Za hbl Za (KX x S) b.visits (QH,false) hrl (Zv _) Za (by simp [QH]);have ca:=vA x hx b S b.visits (QH,false) Za Za (by simp [QH]);rw [show BV b b.visits=b.visits_c by simp [BV]] at cw ca;obtain ⟨Z,hZ⟩: ∃Z,Z=Mi x b S:=⟨_,rfl⟩
 have hZ2: ∀B,JZ x b S=B->Z=if B.2=true then (B.1,0) else (QH,24):=fun B h=>by rw [hZ,Mi,h]
 rw [<- hZ];refine Zf [] Tryz.func147 rfl ZaQ ?_;simp (disch:=omega) only [Tryz.f147,go_sem,seval];refine gF ?_ ?_<;>intro h1<;>simp (disch:=omega) only [Sh.out h1,go_sem,seval,↓reduceIte]
 ·omega
 ·refine gF ?_ ?_<;>intro h2<;>simp (disch:=omega) only [Sh.out h2,go_sem,seval,↓reduceIte]
  ·omega
  ·refine (OM x S Za hS0 Za).use (Zc ?_);simp (disch:=omega) only [hdiv,eq_self,Vd,go_sem,seval];refine W1 (Vl b Za) (Zc ?_)
   have none:JZ x b S=(QH,false)->Z=(QH,24):=fun h=>by grind
   refine gF ?_ ?_<;>intro h3<;>simp (disch:=omega) only [Sh.out h3,go_sem,seval,↓reduceIte]
   ·have e:=none (Re (.inl h3) hf);exact ⟨.tup [.p (Yn Z.1),.p (.int .i64 Z.2)],[],Weak.mk (by simp (disch:=omega) only [e,QH,Zn,go_sem,seval]),rfl,rfl⟩
   ·have h3':(ordR b.visits).2=0:=Xs.1 h3
    have X8:b.visits.all DI=true:=by
     grind [ordR]
    have ho:(ordR b.visits).1=((ordS b.visits:Nat):Int):=by rw [ordR,if_pos X8]
    have hlt:=Qi b.visits.length (l:=b.visits) (Zv _) (fun v hv=>Zt.1 X8 v (by grind));rw [Xi] at hlt;simp (disch:=omega) only [ho,go_sem,seval];refine cD ?_ ?_<;>intro h4<;>simp (disch:=omega) only [go_sem,seval,↓reduceIte]
    ·have h4':((fB (ordS b.visits) S:Nat):Int)≠0:=by
      rw [<- Rl hlt (show S<9223372036854775808 by omega)];exact h4
     have e:=none (Re (.inr (fC Za)) hf);exact ⟨.tup [.p (Yn Z.1),.p (.int .i64 Z.2)],[],Weak.mk (by simp (disch:=omega) only [e,QH,Zn,go_sem,seval]),rfl,rfl⟩
    ·refine (OQ b Za Za).use (Zc ?_)
     cases hfin:E4 b with
     | true =>
      have hk:JZ x b S=WB (Bj x b S) (V4 x b S) Qq (QH,false) b.visits:=by simp_all [JZ,S1]
      have hZ3:=hZ2 _ hk;generalize WB (Bj x b S) (V4 x b S) Qq (QH,false) b.visits=B at ca hZ3;refine Zc ?_;refine ACalls.mono (ca.back [Zh x,ZA b,pL] (by rfl)) ?_;rintro y H' ⟨y1,H1,⟨rfl,rfl⟩,rfl,rfl⟩;simp (disch:=omega) only [AM.shV,AM.shVs,AM.shO,Zh,ZA,pL,yP,QH,Vn,Zs,Zn,ZW,ZM,go_sem,seval];obtain ⟨C,f⟩:=B
      cases f with
      | false =>
       rw [if_neg Zb] at hZ3;refine KT ?_;exact ⟨.tup [.p (Yn Z.1),.p (.int .i64 Z.2)],[],Weak.mk (by simp (disch:=omega) only [hZ3,QH,Zn,go_sem,seval]),rfl,rfl⟩
      | true =>
       rw [if_pos rfl] at hZ3;refine J7 ?_;exact ⟨.tup [.p (Yn Z.1),.p (.int .i64 Z.2)],[],Weak.mk (by simp (disch:=omega) only [hZ3,go_sem,seval]),rfl,rfl⟩
     | false =>
      have hk:JZ x b S=(Co (CW x S) (KX x S) b.visits).foldl (WB (Bj x b S) (V4 x b S) Qq) (QH,false):=by simp_all [JZ,S1]
      have hZ3:=hZ2 _ hk;generalize (Co (CW x S) (KX x S) b.visits).foldl (WB (Bj x b S) (V4 x b S) Qq) (QH,false)=B at cw hZ3;refine Zc ?_;refine ACalls.mono (cw.back [Zh x,ZA b,pL] (by rfl)) ?_;rintro y H' ⟨y1,H1,⟨rfl,rfl⟩,rfl,rfl⟩;simp (disch:=omega) only [AM.shV,AM.shVs,AM.shO,Zh,ZA,pL,yP,QH,Vn,Zs,Zn,ZW,ZM,go_sem,seval];obtain ⟨C,f⟩:=B
      cases f with
      | false =>
       rw [if_neg Zb] at hZ3;refine KT ?_;exact ⟨.tup [.p (Yn Z.1),.p (.int .i64 Z.2)],[],Weak.mk (by simp (disch:=omega) only [hZ3,QH,Zn,go_sem,seval]),rfl,rfl⟩
      | true =>
       rw [if_pos rfl] at hZ3;refine J7 ?_;exact ⟨.tup [.p (Yn Z.1),.p (.int .i64 Z.2)],[],Weak.mk (by simp (disch:=omega) only [hZ3,go_sem,seval]),rfl,rfl⟩
theorem jU {x:Inst} {b:Rte} {S:Nat} :(JQ x b S).length<=1:=by grind [JQ]
theorem MJ {x:Inst} {b:Rte} {need wout:Nat} (S:Nat):(E6 x b need wout S).length<=1:=by
 grind [E6,jU]
theorem PX (x:Inst) (hx:InstOk x) (b:Rte) (need wout:Nat) (hk:0<=b.typ/\b.typ<x.types.length) (hv:b.visits.length<=1000000) (hr:b.rests.length<=1000000) (hbl:x.before.length<=1048576) (h1:need<9223372036854775808) (h2:wout<9223372036854775808) :
  PC 98 [.p (ZE x),.p (Z0 b),.p (.int .i64 need),.p (.int .i64 wout)] (.list false ((J0 x b need wout).map Yn)):=by
 have hn:=KF hx;have ht:=N0 hx;have hp:pw x.orders.length=2^x.orders.length:=rfl;have hp1:1<=2^x.orders.length:=Nat.one_le_two_pow;have hp2:2^x.orders.length<=2^10:=Y1 Za hn;obtain ⟨N,hN⟩: ∃N,N=2^x.orders.length-1:=⟨_,rfl⟩
 have hcf:J0 x b need wout=GI (E6 x b need wout) N:=by rw [hN];rfl
 rw [hcf];obtain ⟨W,hW⟩: ∃W:Nat->List Col,W=fun q=>GI (E6 x b need wout) (q-1):=⟨_,rfl⟩
 have hW1:W 1= []:=by rw [hW];rfl
 have hWn:GI (E6 x b need wout) N=W (N+1):=by rw [hW];rfl
 have hWl: ∀q,(W q).length<=q:=fun q=>by
  grind [FS,MJ]
 have hWs: ∀q,1<=q->W (q+1)=W q++E6 x b need wout q:=fun q h=>by
  obtain ⟨p,rfl⟩: ∃p,q=p+1:=⟨q-1,Za⟩;rw [hW];rfl
 rw [hWn];clear hW hcf hWn;refine Zf [9] Tryz.func98 rfl Zjd ?_;simp (disch:=omega) only [Tryz.f98,go_sem,seval];refine ZO [9] [2,3,4,5] (fun q:Nat=> [(9,.sl 2 0 (W q).length (W q).length),(10,.p (.int .i64 q))]) (fun q=> [Zh x,ZA b,.elems 7 ((W q).map Yn)]) (fun q=>1<=q/\q<=N+1) (fun q=>N+1-q) 1 Za (Weak.ofNil 9 7 (by simp (disch:=omega) only [go_sem,seval]) Zb (Weak.mk ?_)) ?_
 ·have e0:((1:Nat):Int)=1:=rfl;simp (disch:=omega) only [Zh,ZA,hW1,e0,Zn,Zz,go_sem,seval]
 ·rintro q ⟨hq0,hq⟩;have hql:=hWl q;have hqs:=hWs q hq0;refine J8 ?_;refine cD ?_ ?_<;>intro g1<;>simp (disch:=omega) only [Sh.out g1,go_sem,seval,↓reduceIte]
  ·have hq2:q<2^x.orders.length:=Za
   have hfc:E6 x b need wout q=if Bf need wout q=true then JQ x b q else []:=rfl;rw [hfc] at hqs;refine Go.AM.BJ ?_ ?_<;>intro g2
   ·have:Bf need wout q=false:=by rw [Bf,XK Za,UR]
    rw [this,if_neg Zb,Vw] at hqs;exact ⟨q+1,Za,Za,Weak.mk (by simp (disch:=omega) only [hqs,go_sem,seval])⟩
   ·refine ZI ?_ ?_<;>intro g3
    ·have:Bf need wout q=false:=by simp_all [Bf]
     rw [this,if_neg Zb,Vw] at hqs;exact ⟨q+1,Za,Za,Weak.mk (by simp (disch:=omega) only [hqs,go_sem,seval])⟩
    ·have:Bf need wout q=true:=by rw [Bf,Yk (p:=q&&&need=need) Za,Yk (p:=q&&&wout=0) Za];rfl
     rw [this,if_pos rfl] at hqs;refine W1 (SV x hx b q hk hv hr hbl Za hq2) ?_
     have ho:JQ x b q=if (Mi x b q).2=0 then [(Mi x b q).1] else []:=by
      unfold JQ Mi
      split
      ·simp
      ·simp
     rw [ho] at hqs;generalize Mi x b q=Z at hqs ⊢;refine Zc ?_;refine ZI ?_ ?_<;>intro g4
     ·rw [if_pos g4] at hqs;exact ⟨q+1,Za,Za,Weak.mk (by simp (disch:=omega) only [hqs,XA,Zs,Zn,ZG,Zw,Zz,XV,go_sem,seval])⟩
     ·rw [if_neg g4,Vw] at hqs;exact ⟨q+1,Za,Za,Weak.mk (by simp (disch:=omega) only [hqs,go_sem,seval])⟩
  ·have hqn:q=N+1:=Za
   subst hqn;refine Zq (Weak.fz (o:=2) (by rfl)) ?_;refine Zg [] _ _ _ _ ?_;simp (disch:=omega) only [Zs,Zn,XE,Xe,eq_self,go_sem,seval];exact ⟨.p (.list false ((W (N+1)).map Yn)),[],wk,rfl,rfl⟩
theorem kD (a b:List Vis):ordS (a++b)=ordS a|||ordS b:=Jv fun i=>by
 rw [Ar,Yj,Wc,YS,YS,YS]
 grind
theorem Le {l:List Vis} (h: ∀v∈l,0<=v.order/\v.order<62):ordS l<4611686018427387904:=by
 refine Ec (n:=62) _ fun i hi=> ?_
 grind [YS]
theorem C0 {l:List Rte} {k:Nat} (hk:k<l.length):Xf (l.take (k+1))=Xf (l.take k)|||ordS (nth l k).visits:=by
 grind [Xf,Xl,kD,Zi]
theorem OB (l:List Rte) (c:Bool) (hl:l.length<=1048576) (hv: ∀r∈l,r.visits.length<=1048576/\ ∀v∈r.visits,0<=v.order/\v.order<62) :
  PC 96 [.p (.list c (l.map Z0))] (.int .i64 (Xf l:Nat)):=by
 refine Zd Tryz.func96 rfl Zjb ?_;simp (disch:=omega) only [Tryz.f96,go_sem,seval];refine Zk [8,9] (fun k:Nat=> [(3,.p (.int .i64 (Xf (l.take k):Nat))),(10,.p (.int .i64 k))]) (fun _=> []) (fun k=>k<=l.length) (fun k=>l.length-k) 0 Zb (Weak.mk ?_) ?_
 ·simp (disch:=omega) only [Ya,Xf,List.flatMap_nil,ordS,VW,go_sem,seval]
 ·intro k hk
  have hbk:Xf (l.take k)<4611686018427387904:=Le fun v h=>by
   grind
  refine Zc ?_;refine cD ?_ ?_<;>intro h<;>simp (disch:=omega) only [Sh.out h,go_sem,seval,↓reduceIte]
  ·have hk2:k<l.length:=Za
   obtain ⟨v1,v2⟩:=hv _ (Zo hk2);have hs:=C0 hk2;refine Zk [8,9,10,15,16] (fun q:Nat=> [(3,.p (.int .i64 (Xf (l.take k)|||ordS ((nth l k).visits.take q):Nat))),(17,.p (.int .i64 q))]) (fun _=> [ZA (nth l k)]) (fun q=>q<=(nth l k).visits.length) (fun q=>(nth l k).visits.length-q) 0 Zb (Weak.mk ?_) ?_
   ·have e0:Xf (l.take k)|||ordS []=Xf (l.take k):=by rw [show ordS []=0 from rfl,Nat.or_zero]
    simp (disch:=omega) only [e0,ZA,go_sem,seval]
   ·intro q hq;have hq1:ordS ((nth l k).visits.take q)<4611686018427387904:=Le fun v h=>v2 v (JJ h);have hq3:Xf (l.take k)|||ordS ((nth l k).visits.take q)<4611686018427387904:=Qc (n:=62) hbk hq1;refine Bu ?_;refine ZI ?_ ?_<;>intro h2
    ·have hq2:q<(nth l k).visits.length:=Za
     have hvq:=v2 _ (Zo hq2);have ht:=AE hq2;have hpo:pw (nth (nth l k).visits q).order.toNat<=pw 61:=DN Za;have h61:pw 61=2305843009213693952:=rfl;refine Bb ?_ ?_<;>intro h3
     ·refine ZI ?_ ?_<;>intro h4
      ·exact ⟨q+1,Za,Za,Weak.mk (by simp (disch:=omega) only [ht,Nat.or_assoc,go_sem,seval])⟩
      ·omega
     ·omega
    ·have hql:q=(nth l k).visits.length:=Za
     subst hql;rw [Xi,<- hs];exact ⟨k+1,Za,Za,wk⟩
  grind
def Jb (x:Inst) (p:Pln) (P:Nat->Bool):List Ord:=Vo (fun j=>if P j=true then { GQ x p j with penalty:= -1 } else GQ x p j) x.orders.length
section
variable {x : Inst} {p : Pln} {P Q : Nat -> Bool} {v : Nat}
theorem D3 : (Jb x p P).length=x.orders.length:=VC
theorem dW : Jb x p (fun _=>false)=Vo (GQ x p) x.orders.length:=AH fun j _=>Zb
theorem Jl (h: ∀j,j<x.orders.length->P j=Q j):Jb x p P=Jb x p Q:=AH fun j hj=>by rw [h j hj]
theorem Rc (hv:v<x.orders.length):(Jb x p P).set v { nth (Jb x p P) v with penalty:= -1 } =Jb x p (fun j=>P j||decide (j=v)):=by
 have e:({ nth (Jb x p P) v with penalty:= -1 } :Ord)= { GQ x p v with penalty:= -1 } :=by
  grind [Jb,KP]
 rw [e,Jb,Nz];refine AH fun j _=> ?_
 grind
end
def vO (x:Inst) (p:Pln) (S:Nat):V:= .tup [.p (ZE (if Wq x p=0 then D2 x p S else Gt)),.p (.int .i64 (Wq x p))]
theorem SQ (x:Inst) (p:Pln) (l:List Rte) (c:Bool) (ho:x.orders.length<=4) (ht:x.types.length<=1048576) (hr:p.routes.length<=1048576) (hv: ∀r∈p.routes,r.visits.length<=1048576)
  (hl:l.length<=1048576) (hb: ∀r∈l,r.visits.length<=1048576/\ordR r.visits=(((ordS r.visits:Nat):Int),0)/\ ∀v∈r.visits,0<=v.order/\v.order<62) :
  ACalls Tryz.prog 22 [.p (ZE x),.p (Wh p),.p (.list c (l.map Z0))] [] fun y H'=>y=vO x p (Xf l)/\H'= []:=by
 have ck:=jA x p ho ht hr hv;have zI:ZE Gt= .agg [.list true [],.list true [],.list true [],.list true [],.list true [],.list true []]:=rfl;obtain ⟨T,hT⟩: ∃T,T=vO x p (Xf l):=⟨_,rfl⟩;rw [<- hT];unfold vO at hT;unfold nN at ck;refine Zf [18] Tryz.func22 rfl Zir ?_;simp (disch:=omega) only [Tryz.f22,go_sem,seval]
 by_cases h0:Wq x p=0
 ·rw [if_pos h0,h0] at ck;rw [if_pos h0,h0] at hT;have hwl:(Vo (GQ x p) x.orders.length).length=x.orders.length:=VC;refine W1 ck ?_;simp (disch:=omega) only [tS,go_sem,seval];refine (AX (Vo (GQ x p) x.orders.length) false Za).useF (Zc ?_);refine ZO [18] [6,8,30,31] (fun k:Nat=> [(32,.p (.int .i64 k))]) (fun k=> [Zh x,Zu p,.cells (List.replicate 6 (.p (.list true []))),.cells (DU x 4 x.orders.length),.elems 16 ((Jb x p (fun j=>(Xf (l.take k)).testBit j)).map eOrd)]) (fun k=>k<=l.length) (fun k=>l.length-k) 0 Zb (Weak.mk ?_) ?_
  ·have e0:Jb x p (fun j=>(Xf ([]:List Rte)).testBit j)=Vo (GQ x p) x.orders.length:=(Jl fun j _=>by simp [Xf,ordS]).trans dW;simp (disch:=omega) only [DU,Zh,Zu,List.replicate,hwl,Ya,e0,go_sem,seval]
  ·intro k hk;have hrl:(Jb x p (fun j=>(Xf (l.take k)).testBit j)).length=x.orders.length:=D3;simp (disch:=omega) only [DU,Zh,Zu,List.replicate,go_sem,seval];refine cD ?_ ?_<;>intro h<;>simp (disch:=omega) only [Sh.out h,go_sem,seval,↓reduceIte]
   ·have hk2:k<l.length:=Za
    obtain ⟨v1,v2,v3⟩:=hb _ (Zo hk2);have hs:=C0 hk2;have co:=Vl (nth l k) v1;rw [v2] at co;refine W1 co (Zc ?_);refine ((HB ((ordS (nth l k).visits:Nat):Int)).frozen Zb).use (Zc ?_)
    generalize hS:ordS (nth l k).visits=S at *
    generalize hB:Xf (l.take k)=B at *
    refine Zk [6,8,30,31,32,46,47] (fun m:Nat=> [(48,.p (.int .i64 m))]) (fun m=> [Zh x,Zu p,.cells (List.replicate 6 (.p (.list true []))),.cells (DU x 4 x.orders.length),.elems 16 ((Jb x p (fun j=>B.testBit j||decide ((j:Int)∈(X1 (S:Int) 63).take m))).map eOrd),ZA (nth l k)]) (fun m=>m<=(X1 (S:Int) 63).length) (fun m=>(X1 (S:Int) 63).length-m) 0 Zb (Weak.mk ?_) ?_
    ·simp (disch:=omega) only [DU,Zh,Zu,List.replicate,ZA,Ya,Jz,JG,JD,go_sem,seval]
    ·intro m hm;have hrl2:(Jb x p (fun j=>B.testBit j||decide ((j:Int)∈(X1 (S:Int) 63).take m))).length=x.orders.length:=D3;have hml:=Ft (S:Int) 63;simp (disch:=omega) only [DU,Zh,Zu,List.replicate,ZA,go_sem,seval];refine ZI ?_ ?_<;>intro h2
     ·have hm2:m<(X1 (S:Int) 63).length:=Za
      obtain ⟨i,hvi,hi63,hbit⟩:=M9.1 (ZF hm2)
      have htk:(X1 (S:Int) 63).take (m+1)=(X1 (S:Int) 63).take m++ [(i:Int)]:=by grind [Xl,Zi]
      have hse: ∀j:Nat,j<x.orders.length->(B.testBit j||decide ((j:Int)∈(X1 (S:Int) 63).take (m+1)))=((B.testBit j||decide ((j:Int)∈(X1 (S:Int) 63).take m))||decide (j=i)):=fun j _=>by
       grind
      simp (disch:=omega) only [hrl2,eq_self,hvi,go_sem,seval]
      by_cases h3:i<x.orders.length
      ·have hset:=Rc (x:=x) (p:=p) (P:=fun j=>B.testBit j||decide ((j:Int)∈(X1 (S:Int) 63).take m)) h3;rw [<- Jl hse] at hset;have hel:Ut ((Jb x p (fun j=>B.testBit j||decide ((j:Int)∈(X1 (S:Int) 63).take m))).map eOrd) i=eOrd (nth (Jb x p (fun j=>B.testBit j||decide ((j:Int)∈(X1 (S:Int) 63).take m))) i):=YC Za
       have hxl:((Jb x p (fun j=>B.testBit j||decide ((j:Int)∈(X1 (S:Int) 63).take m))).map eOrd).length=x.orders.length:=by simp_all
       have hstp:=Z5 (List.map eOrd) hset;rw [Vc] at hstp;simp only [D4] at hstp;refine ZI ?_ ?_<;>intro h4
       ·simp (disch:=omega) only [hrl2,eq_self,Vd,go_sem,seval];exact ⟨m+1,Za,Za,Weak.mk (by simp (disch:=omega) only [hstp,go_sem,seval])⟩
       ·omega
      ·have hset:Jb x p (fun j=>B.testBit j||decide ((j:Int)∈(X1 (S:Int) 63).take (m+1)))=Jb x p (fun j=>B.testBit j||decide ((j:Int)∈(X1 (S:Int) 63).take m)):=Jl fun j hj=>by
        rw [hse j hj,XK (show ¬j=i by omega),JD]
       refine ZI ?_ ?_<;>intro h4
       ·omega
       ·exact ⟨m+1,Za,Za,Weak.mk (by simp (disch:=omega) only [hset,go_sem,seval])⟩
     ·have hkl:m=(X1 (S:Int) 63).length:=Za
      subst hkl
      have hend:Jb x p (fun j=>B.testBit j||decide ((j:Int)∈X1 (S:Int) 63))=Jb x p (fun j=>(Xf (l.take (k+1))).testBit j):=Jl fun j hj=>by
       rw [hs,Ar];refine Z5 _ ?_;rw [Yj,Zp,M9];exact ⟨fun ⟨i,e,_,hi⟩=>by rw [show j=i by omega];exact hi,fun hi=>⟨j,rfl,Za,hi⟩⟩
      exact ⟨k+1,Za,Za,Weak.mk (by simp (disch:=omega) only [Xi,hend,go_sem,seval])⟩
   ·have hkl:k=l.length:=Za
    subst hkl;rw [Xi] at hrl ⊢;refine Zq (Weak.fz (o:=4) (by rfl)) ?_;refine Zg [] _ _ _ _ ?_;simp (disch:=omega) only [Zs,Zn,XE,Xe,ZK,hrl,eq_self,go_sem,seval];have hb2:Vo (vN x p (Xf l)) x.orders.length=Jb x p (fun j=>(Xf l).testBit j):=rfl;exact ⟨T,[],Weak.mk (by simp (disch:=omega) only [hT,D2,hb2,go_sem,seval]),rfl,rfl⟩
 ·rw [if_neg h0,zI] at ck;rw [if_neg h0,zI] at hT;refine W1 ck (Zc ?_);refine cD ?_ ?_<;>intro h2<;>simp (disch:=omega) only [Sh.out h2,go_sem,seval,↓reduceIte]
  ·exact ⟨T,[],Weak.mk (by simp (disch:=omega) only [hT,go_sem,seval]),rfl,rfl⟩
  ·omega
theorem dR (S i:Nat):IntKind.i64.wrap ((BitVec.ofInt 64 ((S / pw i:Nat):Int)&&&1#64).toNat:Int)=if S.testBit i=true then 1 else 0:=by
 have h1:=Il ((S / pw i:Nat):Int);rw [show BitVec.ofInt 64 1=1#64 from rfl] at h1;rw [h1,Da];unfold pw
 grind
theorem SR (x:Inst) (p:Pln) (l:List Rte) (c:Bool) (ho:x.orders.length<=4) (ht:x.types.length<=1048576) (hr:p.routes.length<=1048576) (hv: ∀r∈p.routes,r.visits.length<=1048576)
  (hl:l.length<=1048576) (hb: ∀r∈l,r.visits.length<=1048576/\ordR r.visits=(((ordS r.visits:Nat):Int),0)/\ ∀v∈r.visits,0<=v.order/\v.order<62) :
  ACalls Tryz.prog 23 [.p (ZE x),.p (Wh p),.p (.list c (l.map Z0))] [] fun y H'=>y=vO x p (Xf l)/\H'= []:=by
 have ck:=mV x p Za ht hr hv;have zI:ZE Gt= .agg [.list true [],.list true [],.list true [],.list true [],.list true [],.list true []]:=rfl;obtain ⟨T,hT⟩: ∃T,T=vO x p (Xf l):=⟨_,rfl⟩;rw [<- hT];unfold vO at hT;unfold nN at ck;refine Zf [5,17] Tryz.func23 rfl Zis ?_;simp (disch:=omega) only [Tryz.f23,go_sem,seval]
 by_cases h0:Wq x p=0
 ·rw [if_pos h0,h0] at ck;rw [if_pos h0,h0] at hT;have hwl:(Vo (GQ x p) x.orders.length).length=x.orders.length:=VC;refine W1 ck ?_;simp (disch:=omega) only [tS,go_sem,seval];refine Zq (Weak.ofNil 10 16 (by simp (disch:=omega) only [go_sem,seval]) Zb (Weak.refl _ _ _)) ?_;refine Zg [17] _ _ _ _ ?_;simp (disch:=omega) only [hwl,go_sem,seval];refine ZO [17] [2,6,8,10] (fun k:Nat=> [(11,.p (.int .i64 k))]) (fun k=> [Zh x,Zu p,.cells (List.replicate 6 (.p (.list true []))),.cells ([.p (.list x.net.places_c (x.net.places.map eS)),.p (.list x.net.arcs_c (x.net.arcs.map WV)),.p (.list x.types_c (x.types.map WW)),.p (.list false ((tS x p).orders.map eOrd)),.p (.list x.apart_c (x.apart.map eP)),.p (.list x.before_c (x.before.map eP))]),.elems 16 ((Jb x p (fun j=>(Xf (l.take k)).testBit j)).map eOrd)]) (fun k=>k<=l.length) (fun k=>l.length-k) 0 Zb (Weak.mk ?_) ?_
  ·have e0:Jb x p (fun j=>(Xf ([]:List Rte)).testBit j)=Vo (GQ x p) x.orders.length:=(Jl fun j _=>by simp [Xf,ordS]).trans dW;simp (disch:=omega) only [Zh,Zu,tS,List.replicate,Ya,e0,go_sem,seval]
  ·intro k hk;have hrl:(Jb x p (fun j=>(Xf (l.take k)).testBit j)).length=x.orders.length:=D3;simp (disch:=omega) only [Zh,Zu,List.replicate,go_sem,seval];refine cD ?_ ?_<;>intro h<;>simp (disch:=omega) only [Sh.out h,go_sem,seval,↓reduceIte]
   ·have hk2:k<l.length:=Za
    obtain ⟨v1,v2,v3⟩:=hb _ (Zo hk2);have hs:=C0 hk2;have co:=Ds (nth l k) v1;rw [v2] at co;refine W1 co (Zc ?_)
    generalize hS:ordS (nth l k).visits=S at *
    generalize hB:Xf (l.take k)=B at *
    refine Zk [2,6,8,10,11,12] (fun m:Nat=> [(14,.p (.int .i64 m))]) (fun m=> [Zh x,Zu p,.cells (List.replicate 6 (.p (.list true []))),.cells ([.p (.list x.net.places_c (x.net.places.map eS)),.p (.list x.net.arcs_c (x.net.arcs.map WV)),.p (.list x.types_c (x.types.map WW)),.p (.list false ((tS x p).orders.map eOrd)),.p (.list x.apart_c (x.apart.map eP)),.p (.list x.before_c (x.before.map eP))]),.elems 16 ((Jb x p (fun j=>B.testBit j||(S.testBit j&&decide (j<m)))).map eOrd)]) (fun m=>m<=x.orders.length) (fun m=>x.orders.length-m) 0 Zb (Weak.mk ?_) ?_
    ·have e0:Jb x p (fun j=>B.testBit j||(S.testBit j&&decide (j<0)))=Jb x p (fun j=>B.testBit j):=Jl fun j _=>Zb
     simp (disch:=omega) only [Zh,Zu,List.replicate,e0,go_sem,seval]
    ·intro m hm;have hrl2:(Jb x p (fun j=>B.testBit j||(S.testBit j&&decide (j<m)))).length=x.orders.length:=D3
     have hxl:((Jb x p (fun j=>B.testBit j||(S.testBit j&&decide (j<m)))).map eOrd).length=x.orders.length:=by grind
     simp (disch:=omega) only [Zh,Zu,List.replicate,go_sem,seval];simp (disch:=omega) only [hrl2,eq_self,go_sem,seval];refine ZI ?_ ?_<;>intro h2
     ·have hm2:m<x.orders.length:=Za
      have hbt:=dR S m
      have hse: ∀j:Nat,j<x.orders.length->(B.testBit j||(S.testBit j&&decide (j<m+1)))=((B.testBit j||(S.testBit j&&decide (j<m)))||(S.testBit m&&decide (j=m))):=fun j _=>by
       rw [Bool.or_assoc];refine Z5 _ ?_
       by_cases c:j=m
       ·subst c;simp
       ·rw [XK (p:=j=m) c,Jx,JD]
        grind
      erw [hbt]
      cases hbm:S.testBit m with
      | true =>
       rw [if_pos rfl];have hset:=Rc (x:=x) (p:=p) (P:=fun j=>B.testBit j||(S.testBit j&&decide (j<m))) hm2
       have hq:Jb x p (fun j=>(B.testBit j||(S.testBit j&&decide (j<m)))||decide (j=m))=Jb x p (fun j=>B.testBit j||(S.testBit j&&decide (j<m+1))):=Jl fun j hj=>by simp_all
       rw [hq] at hset;have hel:Ut ((Jb x p (fun j=>B.testBit j||(S.testBit j&&decide (j<m)))).map eOrd) m=eOrd (nth (Jb x p (fun j=>B.testBit j||(S.testBit j&&decide (j<m)))) m):=YC Za;have hstp:=Z5 (List.map eOrd) hset;rw [Vc] at hstp;simp only [D4] at hstp;refine ZI ?_ ?_<;>intro h4
       ·simp (disch:=omega) only [hrl2,eq_self,Vd,go_sem,seval];exact ⟨m+1,Za,Za,Weak.mk (by simp (disch:=omega) only [hstp,go_sem,seval])⟩
       grind
      | false =>
       rw [if_neg Zb]
       have hset:Jb x p (fun j=>B.testBit j||(S.testBit j&&decide (j<m+1)))=Jb x p (fun j=>B.testBit j||(S.testBit j&&decide (j<m))):=Jl fun j hj=>by
        simp_all
       refine ZI ?_ ?_<;>intro h4
       ·omega
       ·exact ⟨m+1,Za,Za,Weak.mk (by simp (disch:=omega) only [hset,go_sem,seval])⟩
     ·have hkl:m=x.orders.length:=Za
      subst hkl
      have hend:Jb x p (fun j=>B.testBit j||(S.testBit j&&decide (j<x.orders.length)))=Jb x p (fun j=>(Xf (l.take (k+1))).testBit j):=Jl fun j hj=>by
       grind
      exact ⟨k+1,Za,Za,Weak.mk (by simp (disch:=omega) only [hend,go_sem,seval])⟩
   ·have hkl:k=l.length:=Za
    subst hkl;rw [Xi] at hrl ⊢;have hb2:Vo (vN x p (Xf l)) x.orders.length=Jb x p (fun j=>(Xf l).testBit j):=rfl;refine Zq (Weak.fz (o:=4) (by rfl)) ?_;refine Zg [] _ _ _ _ ?_;simp (disch:=omega) only [Zs,Zn,XE,Xe,ZK,hrl,eq_self,go_sem,seval];exact ⟨T,[],Weak.mk (by simp (disch:=omega) only [hT,D2,hb2,go_sem,seval]),rfl,rfl⟩
 ·rw [if_neg h0,zI] at ck;rw [if_neg h0,zI] at hT;refine W1 ck (Zc ?_);refine cD ?_ ?_<;>intro h2<;>simp (disch:=omega) only [Sh.out h2,go_sem,seval,↓reduceIte]
  ·exact ⟨T,[],Weak.mk (by simp (disch:=omega) only [hT,go_sem,seval]),rfl,rfl⟩
  ·omega
theorem Kk {α:Type} {p:α->Bool} : ∀ {l:List α},l.countP p<=1->l.Pairwise fun a b=> ¬(p a=true/\p b=true)
 | [],_=> .nil
 | a::l,h=>by
  rw [List.countP_cons] at h;rw [List.pairwise_cons];refine ⟨fun b hb hh=> ?_,Kk Za⟩
  simp_all
theorem kW {x:Inst} {l:List Col} {rs:List Rte} {f:Rte->Nat} (hf:IFacts x)
  (hj: ∀r∈rs,f r<l.length/\(nth l (f r)).typ=r.typ/\(nth l (f r)).set=((ordS r.visits:Nat):Int))
  (hr: ∀r∈rs,RightV x r.visits) (ht: ∀r∈rs,0<=r.typ)
  (htw: ∀i:Nat,i<x.orders.length->rs.countP (fun r=>hasO r.visits (i:Int))<=1)
  (hoff: ∀r∈rs,∀i:Nat,i<x.orders.length->hasO r.visits (i:Int)=true->(nth x.orders i).off=false)
  (hcr: ∀r∈rs,((rs.countP fun s=>decide (s.typ=r.typ):Nat):Int)<=(nth x.types r.typ.toNat).count)
  (hsv: ∀k:Nat,k<x.orders.length->(nth x.orders k).off=false->(∃r∈rs,hasO r.visits (k:Int)=true)\/0<=(nth x.orders k).penalty) :
  Prt x l (rs.map f)/\(∀j∈rs.map f,∃t,hasC l j t=true)/\ ∀r∈rs,∀t,hasC l (f r) t=hasO r.visits (t:Int):=by
 have hb: ∀r∈rs,∀t:Nat,hasC l (f r) t=hasO r.visits (t:Int):=fun r h t=>by
  rw [Yj,hasC,(hj r h).2.2,XO,(hr r h).bit,Z6]
 have hlt: ∀r∈rs,∀t:Nat,hasO r.visits (t:Int)=true->t<x.orders.length:=fun r h t e=>by
  obtain ⟨v,hv,e⟩:=Z6.1 e;have:=(hr r h).inr v hv;omega
 have hpw:rs.Pairwise fun a b=> ∀t:Nat,¬(hasO a.visits (t:Int)=true/\hasO b.visits (t:Int)=true):=by
  rw [Ui];intro i j hi hj' hij t hh;have htl:=hlt _ (QA hi) t hh.1;exact Ui.1 (Kk (htw t htl)) i j hi hj' hij hh
 have hne: ∀r∈rs,∃t:Nat,hasO r.visits (t:Int)=true:=fun r h=>by
  obtain ⟨v,hv⟩: ∃v,v∈r.visits:=by
   cases e:r.visits with
   | nil=>exact absurd e (hr r h).ne
   | cons v m=>simp
  have:=(hr r h).inr v hv;exact ⟨v.order.toNat,Z6.2 ⟨v,hv,Za⟩⟩
 have hinj: ∀a∈rs,∀b∈rs,∀t:Nat,hasO a.visits (t:Int)=true->hasO b.visits (t:Int)=true->a=b:=fun a ha b hb' t h1 h2=>by
  obtain ⟨i,hi,rfl⟩:=List.getElem_of_mem ha;obtain ⟨j,hj',rfl⟩:=List.getElem_of_mem hb';rcases Nat.lt_trichotomy i j with h | h | h
  ·exact absurd ⟨h1,h2⟩ (Ui.1 hpw i j hi hj' h t)
  ·subst h;rfl
  ·exact absurd ⟨h2,h1⟩ (Ui.1 hpw j i hj' hi h t)
 refine ⟨⟨fun j h=> ?_,fun j h t e=> ?_,fun i hi j hj' t h1 h2=> ?_,?_,fun j h=> ?_,fun k hk ho=> ?_⟩,fun j h=> ?_,hb⟩
 ·grind
 ·grind
 ·obtain ⟨a,ha,rfl⟩:=Xv.1 hi;obtain ⟨b,hb',rfl⟩:=Xv.1 hj'
  grind
 ·rw [List.Nodup,List.pairwise_map];refine hpw.imp_of_mem fun {a b} ha hb' h e=> ?_;obtain ⟨t,ht⟩:=hne a ha;refine h t ⟨ht,?_⟩;rw [<- hb b hb',<- e,hb a ha];exact ht
 ·obtain ⟨r,hq,rfl⟩:=Xv.1 h;rw [<- B7,List.countP_map,(hj r hq).2.1]
  have:rs.countP ((fun i=>decide ((nth l i).typ=r.typ))∘f)=rs.countP fun s=>decide (s.typ=r.typ):=List.countP_congr fun s hs=>by
   grind
  grind
 ·rcases hsv k hk ho with ⟨r,h,e⟩ | h
  ·exact .inl ⟨f r,Xv.2 ⟨r,h,rfl⟩,by grind⟩
  omega
 ·obtain ⟨r,hq,rfl⟩:=Xv.1 h
  simp_all
theorem mK {n:Nat} {us:List Int} (h: ∀u∈us,0<=u/\u<(n:Int)) (ht: ∀i:Nat,i<n->us.countP (fun u=>decide (u=(i:Int)))<=1):us.Nodup:=by
 rw [List.Nodup,Ui];intro i j hi hj hij e;have hu:=h _ (QA hi)
 have e1:us[i]=((us[i].toNat:Nat):Int):=Za
 refine Ui.1 (Kk (ht us[i].toNat Za)) i j hi hj hij ⟨Yk e1,Yk ?_⟩;omega
theorem mL {n:Nat} {g:Int->Int} : ∀ {us:List Int},(∀u∈us,0<=u/\u<(n:Int))->us.Nodup->((List.range n).map fun k:Nat=>if (k:Int)∈us then g (k:Int) else 0).sum=(us.map g).sum
 | [],_,_=>KV fun k _=>Zb
 | u::us,h,hn=>by
  rw [List.nodup_cons] at hn;have hu:=h u Zb;have ih:=mL (g:=g) (fun v hv=>h v (YQ _ hv)) hn.2
  have e:(fun k:Nat=>if (k:Int)∈u::us then g (k:Int) else 0)=fun k:Nat=>(if (k:Int)=u then g (k:Int) else 0)+(if (k:Int)∈us then g (k:Int) else 0):=funext fun k=>by
   grind
  rw [e,CP,ih,Zs,VQ];rw [Bv (j:=u.toNat) List.nodup_range (ZP.2 Za) fun i _ hne=>if_neg fun e=>hne Za]
  grind
theorem qJ {x:Inst} {l:List Col} {rs:List Rte} {us:List Int} {f:Rte->Nat} (hb: ∀r∈rs,∀t:Nat,hasC l (f r) t=hasO r.visits (t:Int))
  (hu: ∀u∈us,0<=u/\u<(x.orders.length:Int))
  (htw: ∀i:Nat,i<x.orders.length->rs.countP (fun r=>hasO r.visits (i:Int))+us.countP (fun u=>decide (u=(i:Int)))<=1)
  (hst: ∀i:Nat,i<x.orders.length->(i:Int)∈us->(nth x.orders i).off=false)
  (hms: ∀i:Nat,i<x.orders.length->(nth x.orders i).off=false->1<=rs.countP (fun r=>hasO r.visits (i:Int))+us.countP (fun u=>decide (u=(i:Int)))) :
  ((List.range x.orders.length).map fun k=>if BX x l (rs.map f) k=true then skR x k else 0).sum=(us.map fun u=>skR x u.toNat).sum:=by
 have hn:=mK hu fun i hi=>by grind
 rw [<- mL (n:=x.orders.length) (g:=fun u=>skR x u.toNat) hu hn]
 congr 1
 refine YH fun k hk=> ?_;have hk:=ZP.1 hk
 have e:BX x l (rs.map f) k=true↔(k:Int)∈us:=by
  simp only [BX,Zy,XU,Zt]
  constructor
  ·rintro ⟨ho,hno⟩
   have hz:rs.countP (fun r=>hasO r.visits (k:Int))=0:=Ce.2 fun r hr=>by
    simp_all
   have h1:=hms k hk ho;obtain ⟨u,h2,h3⟩:=Va.1 (show 0<us.countP (fun u=>decide (u=(k:Int))) by omega)
   grind
  ·intro h;refine ⟨hst k hk h,fun j hj=> ?_⟩;obtain ⟨r,hr,rfl⟩:=Xv.1 hj;rw [hb r hr];have h1:0<us.countP (fun u=>decide (u=(k:Int))):=Va.2 ⟨k,h,Zb⟩;have h2:=htw k hk
   cases hc:hasO r.visits (k:Int) with
   | false=>rfl
   | true =>
    have:0<rs.countP (fun r=>hasO r.visits (k:Int)):=Va.2 ⟨r,hr,hc⟩;omega
 simp_all
theorem mF {α:Type} {f g:α->Int} : ∀ {l:List α},(∀a∈l,f a<=g a)->(l.map f).sum<=(l.map g).sum
 | [],_=>Zb
 | a::l,h=>by
  have h1:=h a Zb;have h2:=mF (l:=l) fun b hb=>h b (YQ _ hb)
  grind
theorem Dn {x:Inst} {p:Pln} (hx:InstOk x) (hn:x.orders.length<=4) (hk:chkP x p=0):(∀r∈p.routes,prcF x r=Xn (XG x r)/\(prcF x r).2=0)/\(Xn (Uy x p)).1=(p.routes.map fun r=>(prcF x r).1).sum+(p.unserved.map fun u=>skR x u.toNat).sum:=by
 have hw:=(Ev hx hn hk).1;have hpos: ∀r∈p.routes,Ve (XG x r):=fun r hr=>(Jn hx ((VN hk).1 r hr)).1;obtain ⟨hev,hun⟩:=VN hk;obtain ⟨k1,k2,k3,k4,k5⟩:=QL hk
 have hsc:Uy x p=Ke x (WA x p.routes) p.unserved:=by rw [Uy,if_pos hk]
 rw [hsc] at hw ⊢
 have hsR:Ve (WA x p.routes):=by
  have: ∀(l:List Rte) (s:Sco),(∀r∈l,Ve (XG x r))->Ve s->Ve (l.foldl (fun s r=>Yp s (XG x r)) s):=fun l=>by
   induction l with
   | nil=>simp
   | cons r l ih=>simp_all [KI]
  exact this _ _ hpos (by simp [Ve,zSco])
 obtain ⟨w1,w2,w3⟩:=Gl (f:=fun i=>(XQ x i).1) p.unserved (WA x p.routes) (fun u _=>(Gf hx u).1) hsR hw;obtain ⟨_,v2,v3⟩:=Gl (f:=fun r=>XG x r) p.routes zSco hpos (by simp [Ve,zSco]) w1
 have hpr: ∀r∈p.routes,prcF x r=Xn (XG x r):=fun r hr=>by simp_all [prcF]
 refine ⟨fun r hr=>⟨hpr r hr,by grind⟩,?_⟩
 have s1:(p.routes.map fun r=>(prcF x r).1)=p.routes.map fun r=>(Xn (XG x r)).1:=YH fun r hr=>by rw [hpr r hr]
 have s2:(p.unserved.map fun u=>skR x u.toNat)=p.unserved.map fun u=>(Xn (XQ x u).1).1:=YH fun u hu=>by
  rw [skR,show ((u.toNat:Nat):Int)=u by have:=k1 u hu;omega]
 have z0:(Xn zSco).1=0:=by decide
 grind [Ke,WA]
theorem jK {F:Nat->Prop} {H:List AM.Obj} {ι:List (Option Nat)} {w:World} {v:Value} (h:RV F H ι w (.p (.list true [])) v): ∃ad,v= .slice ad 0 0:=by
 cases h with | p _ _ h =>
 cases h with
 | nils=>simp
 | emp _ ad cap hc hm ha=>simp_all
 | list _ _ b off cap S' u hX hb hc hm hcl =>
  simp_all
theorem mJ {vs:Array Value} {a b:Value} (h1:vs.size=2) (e0:vs.getD 0 undef=a) (e1:vs.getD 1 undef=b):vs= #[a,b]:=by
 apply Array.ext
 ·omega
 ·intro i h3 h4
  have:i=0\/i=1:=Za
  rcases this with rfl | rfl
  ·simp_all
  simp_all
theorem qO (n:Nat) (h0:0<n) (hn:n<=1048576):ACalls Tryz.prog 146 [.p (.list true []),.p (.int .i64 (n:Int))] [] fun y H'=>y= .sl 0 0 0 0/\H'= [.elems 4 []]:=by
 obtain ⟨i0,hi0⟩: ∃i0,Tryz.prog.info? 49=some i0:=Ca.1 Ze
 have hsz:i0.size=4:=by
  have:(Tryz.prog.info? 49).map (·.size)=some 4:=Ze
  grind
 have hby:i0.bytes=64:=by
  have:(Tryz.prog.info? 49).map (·.bytes)=some 64:=Ze
  grind
 obtain ⟨z,hz⟩: ∃z,i0.zero=some z:=by
  have:((Tryz.prog.info? 49).bind (·.zero)).isSome=true:=Ze
  grind [Ca]
 refine ⟨iA,fun F ι w vs hr hv=> ?_⟩;obtain ⟨h1,h2⟩:=hv;obtain ⟨ad,e0⟩: ∃ad,vs.getD 0 undef= .slice ad 0 0:=jK (h2 0 _ rfl)
 have e1:vs.getD 1 undef= .int .i64 n:=by
  have h:=h2 1 _ rfl
  cases h with | p _ _ h=>exact h.int_inv
 rw [mJ h1 e0 e1]
 have hzc:z.cells.size=4:=by
  have:((Tryz.prog.info? 49).bind (·.zero)).map (·.cells.size)=some 4:=Ze
  grind
 have hG:=Any8.slices_Grow_grow HT i0 z hi0 hz Za ad 0 0 n [] w (Zv _) Za (by grind) Za Zb (fun _=>rfl) (fun a _ j v hj=>by simp at hj);have hι:ι= []:=Yt hr.len;subst hι;have c1:=grownCap_ge w (0+n) 0 (sortGrowR_ren.t 25);have c2:=grownCap_le_maxLen w (0+n) 0 (sortGrowR_ren.t 25) (by unfold maxLen;omega);refine hG.mono ?_;rintro e w' ⟨rfl,rfl⟩;generalize grownCap w (0+n) 0 (sortGrowR_ren.t 25)=C at c1 c2 ⊢;obtain ⟨arr,harr⟩: ∃arr,arr=([]:List Value).toArray++Builtin.zeroCells z.cells (0+n-0)++Builtin.zeroCells z.cells (C-(0+n)):=⟨_,rfl⟩
 rw [<- harr]
 have hs:arr.size=C*4:=by
  grind [size_zeroCells]
 have g:=Vi hr (Pushed.drewAlloc w arr (sortGrowR_ren.t 25)) (.elems 4 []) ⟨C,hs,Zb,c2,fun i q hi=>by simp at hi,fun i q j c hi hj=>by simp at hi⟩;refine ⟨_,_,_,_,rfl,⟨rfl,rfl⟩,g,?_⟩;have:=RV.sl (F:=F) (w:=w.drew.alloc (.cells arr (sortGrowR_ren.t 25))) (H:= [.elems 4 []]) (ι:= [some w.heap.size]) 0 0 0 0 w.heap.size 4 C (sortGrowR_ren.t 25) [] arr Zb Zb Zb (Pushed.new (Pushed.drewAlloc w arr (sortGrowR_ren.t 25))) Za Za Za Za
 grind
theorem growR0_c : PC 146 [.p (.list true []),.p (.int .i64 0)] (.list true []):=by
 refine ⟨iA,fun F ι w vs hr hv=> ?_⟩;obtain ⟨h1,h2⟩:=hv;have r0:=h2 0 _ rfl;obtain ⟨ad,e0⟩: ∃ad,vs.getD 0 undef= .slice ad 0 0:=jK r0
 have e1:vs.getD 1 undef= .int .i64 0:=by
  have h:=h2 1 _ rfl
  cases h with | p _ _ h=>exact h.int_inv
 rw [mJ h1 e0 e1];refine (Any8.slices_Grow_room HT ad 0 0 0 w (Zv _) Za Za Za).mono ?_;rintro e w' ⟨rfl,rfl⟩;exact ⟨_,_,ι,_,rfl,⟨rfl,rfl⟩,Good.refl hr,by grind⟩
def Kj (l1 l2:List Rte) (q:Nat):List Rte:=(if 0<q then l1 else [])++if 1<q then l2 else []
theorem eY (l1 l2:List Rte) (c0 c1 c2:Bool) (h1:l1.length<=500000) (h2:l2.length<=500000) :
  PC 97 [.p (.list c0 [.list c1 (l1.map Z0),.list c2 (l2.map Z0)])] (.list false ((l1++l2).map Z0)):=by
 have k0:Kj l1 l2 0= []:=rfl
 have k2:Kj l1 l2 2=l1++l2:=by simp [Kj]
 obtain ⟨lF,cF,hlF⟩: ∃(lF:Nat->List Rte) (cF:Nat->Bool),∀k,k<2->(Ut [PV.list c1 (l1.map Z0),PV.list c2 (l2.map Z0)] k=PV.list (cF k) ((lF k).map Z0)/\Kj l1 l2 (k+1)=Kj l1 l2 k++lF k/\(lF k).length<=500000) :=
  ⟨fun k=>if k=0 then l1 else l2,fun k=>if k=0 then c1 else c2,fun k hk=>by
   obtain rfl | rfl:k=0\/k=1:=Za
   ·exact ⟨rfl,by simp [Kj],h1⟩
   ·exact ⟨rfl,by simp [Kj],h2⟩⟩
 have hcl: ∀k,(Kj l1 l2 k).length<=1000000:=fun k=>by
  grind [Kj]
 have hLl: [PV.list c1 (l1.map Z0),PV.list c2 (l2.map Z0)].length=2:=rfl;generalize [PV.list c1 (l1.map Z0),PV.list c2 (l2.map Z0)]=L at hlF hLl ⊢;refine Zf [9] Tryz.func97 rfl Zjc ?_;simp (disch:=omega) only [Tryz.f97,hLl,go_sem,seval];refine ZO [9] [0,9,10] (fun k:Nat=> [(3,.p (.int .i64 ((Kj l1 l2 k).length:Nat))),(11,.p (.int .i64 k))]) (fun _=> []) (fun k=>k<=2) (fun k=>2-k) 0 Zb (Weak.mk ?_) ?_
 ·simp (disch:=omega) only [k0,Zz,go_sem,seval,↓reduceIte]
 ·intro k hk;refine Zc ?_;refine cD ?_ ?_<;>intro h<;>simp (disch:=omega) only [Sh.out h,go_sem,seval,↓reduceIte]
  ·have hk2:k<2:=Za
   obtain ⟨e1,e2,e3⟩:=hlF k hk2
   have e4:((Kj l1 l2 (k+1)).length:Int)=((Kj l1 l2 k).length:Int)+((lF k).length:Int):=by grind
   have e5:=hcl k
   have e6:(Ut L k).cells= [.list (cF k) ((lF k).map Z0)]:=by rw [e1];rfl
   simp (disch:=omega) only [Jf,XO,e6,eq_self,Zw,Zz,XV,List.take,Zs,Zn,go_sem,seval];refine cD ?_ ?_<;>intro g<;>simp (disch:=omega) only [Sh.out g,go_sem,seval,↓reduceIte]
   ·omega
   ·exact ⟨k+1,Za,Za,Weak.mk (by simp (disch:=omega) only [e4,go_sem,seval])⟩
  ·have hk2:k=2:=Za
   subst hk2;rw [k2];refine ZD [0] (fun _:Unit=> [(6,.sl 0 0 0 0)]) (fun _=> [.elems 4 []]) (fun _=>True) ?_ ?_
   ·refine Zc ?_
    by_cases hz:l1.length+l2.length=0
    ·rw [show ((l1.length+l2.length:Nat):Int)=0 by omega];refine growR0_c.use ?_;refine Zc ?_;exact ⟨(),Weak.ofNil 6 4 (by simp (disch:=omega) only [go_sem,seval]) Zb (wk)⟩
    ·refine (qO (l1.length+l2.length) Za Za).useF (Zc ?_);exact ⟨(),wk⟩
   ·intro _ _;refine Zg [15] _ _ _ _ (Zc ?_);refine ZO [15] [25,26] (fun k:Nat=> [(6,.sl 0 0 (Kj l1 l2 k).length (Kj l1 l2 k).length),(27,.p (.int .i64 k))]) (fun k=> [.elems 4 ((Kj l1 l2 k).map Z0)]) (fun k=>k<=2) (fun k=>2-k) 0 Zb (Weak.mk ?_) ?_
    ·simp (disch:=omega) only [k0,Zz,Zn,go_sem,seval]
    ·intro k hk;have e5:=hcl k;refine Zc ?_;refine cD ?_ ?_<;>intro h<;>simp (disch:=omega) only [Sh.out h,go_sem,seval,↓reduceIte]
     ·have hk2:k<2:=Za
      obtain ⟨e1,e2,e3⟩:=hlF k hk2
      have e6:(Ut L k).cells= [.list (cF k) ((lF k).map Z0)]:=by rw [e1];rfl
      have e4:(Kj l1 l2 (k+1)).length=(Kj l1 l2 k).length+(lF k).length:=by grind
      simp (disch:=omega) only [Jf,XO,e6,eq_self,Zw,Zz,XV,List.take,Zs,Zn,go_sem,seval];exact ⟨k+1,Za,Za,Weak.mk (by simp (disch:=omega) only [e2,XA,go_sem,seval])⟩
     ·have hk2:k=2:=Za
      subst hk2;rw [k2];refine Zq (Weak.fz (o:=0) (by rfl)) ?_;refine Zg [] _ _ _ _ ?_;simp (disch:=omega) only [Zs,Zn,Xe,eq_self,go_sem,seval];exact we
theorem Aa {x:Inst} {b:Rte} {need wout:Nat} :(J0 x b need wout).length<=2^x.orders.length-1:=FS MJ _
theorem oV {l:List Rte} (h: ∀r∈l,∀v∈r.visits,0<=v.order/\v.order<62):Xf l<4611686018427387904:=Le fun v hv=>by
 grind
theorem Ep {x:Inst} {bs:List Rte} : ∀k,(LI x bs k).length<=k*(2^x.orders.length-1)
 | 0=>by simp [LI]
 | k+1=>by
  have h1:=Ep (x:=x) (bs:=bs) k;have h2:=Aa (x:=x) (b:=nth bs k) (need:=Xf [nth bs k]) (wout:=Xf (bs.take k++bs.drop (k+1)));rw [LI,ZG,Yb];omega
theorem Lh {x:Inst} {bs:List Rte} {now:Int} : ∀k,(Pe x bs now k).length<=(bs.length+k)*(2^x.orders.length-1)
 | 0=>Ep bs.length
 | k+1=>by
  have h1:=Lh (x:=x) (bs:=bs) (now:=now) k;have h2:=Aa (x:=x) (b:=Bh (k:Int) now) (need:=0) (wout:=Xf bs);rw [Pe,ZG,<- As,Yb (bs.length+k)];omega
structure BsOk (x:Inst) (bs:List Rte):Prop where
 len:bs.length<=8
 typ: ∀r∈bs,0<=r.typ/\r.typ<(x.types.length:Int)
 bnd: ∀r∈bs,r.visits.length<=1000000/\r.rests.length<=1000000
 ord: ∀r∈bs,∀v∈r.visits,0<=v.order/\v.order<62
theorem zP {l:List Rte} {k:Nat} (h:k<l.length):(l.take (k+1)).drop k= [nth l k]:=by
 grind [UO,Zi]
theorem cY (x:Inst) (hx:InstOk x) (bs:List Rte) (c:Bool) (now:Int) (hb:BsOk x bs) (hn:0<=now/\now<=4096) (hbl:x.before.length<=1048576) :
  PT 63 [.p (ZE x),.p (.list c (bs.map Z0)),.p (.int .i64 now)] [.p (.list false ((Er x bs now).map Yn)),.p (.int .i64 0)]:=by
 have ho:=KF hx;have ht:=N0 hx;have hl8:=hb.len;have hp2:2^x.orders.length<=2^10:=Y1 Za ho;have hbg: ∀l:List Rte,(∀r∈l,r∈bs)->Xf l<4611686018427387904:=fun l h=>oV fun r hr=>hb.ord r (h r hr)
 have hbc: ∀(l:List Rte) (c:Bool),(∀r∈l,r∈bs)->l.length<=8->PC 96 [.p (.list c (l.map Z0))] (.int .i64 (Xf l:Nat)):=fun l c h hl =>
  OB l c Za fun r hr=>⟨by have:=(hb.bnd r (h r hr)).1;omega,hb.ord r (h r hr)⟩
 refine Zf [10] Tryz.func63 rfl ZiP ?_;simp (disch:=omega) only [Tryz.f63,go_sem,seval];refine gF ?_ ?_<;>intro h1<;>simp (disch:=omega) only [Sh.out h1,go_sem,seval,↓reduceIte]
 ·omega
 ·refine cD ?_ ?_<;>intro h2<;>simp (disch:=omega) only [Sh.out h2,go_sem,seval]
  ·omega
  ·refine ZO [10] [1,2,3,22,23] (fun k:Nat=> [(24,.p (.int .i64 k))]) (fun _=> [Zh x]) (fun k=>k<=bs.length) (fun k=>bs.length-k) 0 Zb (Weak.mk ?_) ?_
   ·simp (disch:=omega) only [Zh,go_sem,seval]
   ·intro k hk;refine VI ?_;refine cD ?_ ?_<;>intro h<;>simp (disch:=omega) only [Sh.out h,go_sem,seval,↓reduceIte]
    ·have hk2:k<bs.length:=Za
     have hty:=hb.typ _ (Zo hk2);refine gF ?_ ?_<;>intro h3<;>simp (disch:=omega) only [Sh.out h3,go_sem,seval,↓reduceIte]
     ·omega
     ·refine ZI ?_ ?_<;>intro h4
      ·omega
      ·exact ⟨k+1,Za,Za,wk⟩
    ·refine Zq (Weak.ofNil 10 7 (by simp (disch:=omega) only [go_sem,seval]) Zb (Weak.refl _ _ _)) ?_;refine Zg [13,14,16,22] _ _ _ _ (Zc ?_);refine ZO [14,16] [1,2,3,40,41] (fun k:Nat=> [(10,.sl 1 0 (LI x bs k).length (LI x bs k).length),(42,.p (.int .i64 k))]) (fun k=> [Zh x,.elems 7 ((LI x bs k).map Yn)]) (fun k=>k<=bs.length) (fun k=>bs.length-k) 0 Zb (Weak.mk ?_) ?_
     ·simp (disch:=omega) only [Zh,LI,Zz,Zn,go_sem,seval]
     ·intro k hk;have hal:=Ep (x:=x) (bs:=bs) k;have hkN:k*(2^x.orders.length-1)<=8*1024:=Nat.mul_le_mul Za Za;refine VI ?_;refine cD ?_ ?_<;>intro g1<;>simp (disch:=omega) only [Sh.out g1,go_sem,seval,↓reduceIte]
      ·have hk2:k<bs.length:=Za
       have hty:=hb.typ _ (Zo hk2);obtain ⟨b1,b2⟩:=hb.bnd _ (Zo hk2)
       have hin1: ∀r∈bs.take k++bs.drop (k+1),r∈bs:=fun r hr=>by
        grind
       have hin2: ∀r∈ [nth bs k],r∈bs:=fun r hr=>by
        grind [Zo]
       have hbl1:(bs.take k++bs.drop (k+1)).length<=8:=by simp;omega
       have hsA:LI x bs (k+1)=LI x bs k++J0 x (nth bs k) (Xf [nth bs k]) (Xf (bs.take k++bs.drop (k+1))):=rfl;have hcl:=Aa (x:=x) (b:=nth bs k) (need:=Xf [nth bs k]) (wout:=Xf (bs.take k++bs.drop (k+1)));have ca:=PX x hx (nth bs k) (Xf [nth bs k]) (Xf (bs.take k++bs.drop (k+1))) hty b1 b2 hbl (by grind) (by grind);have hd1:=zP hk2;have c1:=fun f=>hbc [nth bs k] f hin2 Zb;have c2:=hbc (bs.take k++bs.drop (k+1)) false hin1 hbl1;rw [XA] at c2;generalize Xf [nth bs k]=need at hsA hcl ca c1;generalize Xf (bs.take k++bs.drop (k+1))=wout at hsA hcl ca c2
       refine ZV 7 mixed Ze Ze (Zc ?_);refine ACalls.weakA (Weak.fz (o:=3) (by rfl)) ?_;simp (disch:=omega) only [Zs,Zn,XE,Xe,eq_self,Xi,go_sem,seval];refine (eY (bs.take k) (bs.drop (k+1)) _ _ _ (by simp;omega) (by simp;omega)).use (Zc ?_);refine (c2).use (Zc ?_);refine ZV 11 mixed Ze Ze (Zc ?_);rw [hd1];refine Zr (c1 _) (Zc ?_);refine Zr (ca) (Zc ?_);exact ⟨k+1,Za,Za,Weak.mk (by simp (disch:=omega) only [hsA,XA,ZG,go_sem,seval])⟩
      ·have hkl:k=bs.length:=Za
       subst hkl;refine Zg [22] _ _ _ _ (Zc ?_);refine (hbc bs c (fun r h=>h) hl8).use (Zc ?_);have hal:=Ep (x:=x) (bs:=bs) bs.length;have hw:=hbg bs fun r h=>h;generalize hwS:Xf bs=S at hw ⊢;refine ZO [22] [2,3,14,74] (fun q:Nat=> [(10,.sl 1 0 (Pe x bs now q).length (Pe x bs now q).length),(75,.p (.int .i64 q))]) (fun q=> [Zh x,.elems 7 ((Pe x bs now q).map Yn)]) (fun q=>q<=x.types.length) (fun q=>x.types.length-q) 0 Zb (Weak.mk ?_) ?_
       ·simp (disch:=omega) only [Zh,Pe,go_sem,seval]
       ·intro q hq;have htl:=Lh (x:=x) (bs:=bs) (now:=now) q;have hqN:(bs.length+q)*(2^x.orders.length-1)<=14*1024:=Nat.mul_le_mul Za Za;refine VI ?_;refine cD ?_ ?_<;>intro g2<;>simp (disch:=omega) only [Sh.out g2,go_sem,seval,↓reduceIte]
        ·have hq2:q<x.types.length:=Za
         have hsT:Pe x bs now (q+1)=Pe x bs now q++J0 x (Bh (q:Int) now) 0 S:=by rw [<- hwS];rfl
         have hcl:=Aa (x:=x) (b:=Bh (q:Int) now) (need:=0) (wout:=S);have ca:=PX x hx (Bh (q:Int) now) 0 S ⟨by grind [Bh],by grind [Bh]⟩ (by simp [Bh]) (by simp [Bh]) hbl Za Za;refine (ca).use ?_;refine Zc ?_;exact ⟨q+1,Za,Za,Weak.mk (by simp (disch:=omega) only [hsT,XA,ZG,go_sem,seval])⟩
        ·have hql:q=x.types.length:=Za
         subst hql;refine Zq (Weak.fz (o:=1) (by rfl)) ?_;refine Zg [] _ _ _ _ ?_;simp (disch:=omega) only [Zs,Zn,XE,Xe,eq_self,go_sem,seval];exact ⟨.tup [.p (.list false ((Er x bs now).map Yn)),.p (.int .i64 0)],[],Weak.mk (by simp (disch:=omega) only [Er,go_sem,seval]),rfl,rfl⟩
theorem Ib {x:Inst} {b:Rte} {S:Nat} (h:(JZ x b S).2=true): ∃m,(m=b.visits\/m∈Co (CW x S) (KX x S) b.visits)/\Bj x b S m=true/\(JZ x b S).1=V4 x b S m:=by
 unfold JZ S1 at h ⊢;rcases Dz _ _ h with ⟨h1,_⟩ | ⟨m,h1,h2,h3⟩
 ·cases h1
 grind
theorem Ha {x:Inst} {b:Rte} {need wout:Nat} {c:Col} (h:c∈J0 x b need wout): ∃S m,0<S/\S<2^x.orders.length/\Bf need wout S=true/\(m=b.visits\/m∈Co (CW x S) (KX x S) b.visits)/\Bj x b S m=true/\c=V4 x b S m:=by
 have hp1:1<=2^x.orders.length:=Nat.one_le_two_pow;obtain ⟨S,h1,h2,h3⟩:=(FT _).1 h
 grind [E6,JQ,Ib]
theorem R7 {x:Inst} {bs:List Rte} {c:Col} : ∀k,k<=bs.length->c∈LI x bs k-> ∃b need wout,b∈bs/\c∈J0 x b need wout
 | 0,_,h=>by simp [LI] at h
 | k+1,hk,h=>by
  rw [LI,Xo] at h;rcases h with h | h
  ·exact R7 k Za h
  ·exact ⟨_,_,_,Zo Za,h⟩
theorem Li {x:Inst} {bs:List Rte} {now:Int} {c:Col} : ∀k,c∈Pe x bs now k-> ∃b need wout,(b∈bs\/ ∃j:Nat,j<k/\b=Bh (j:Int) now)/\c∈J0 x b need wout
 | 0,h=>by
  obtain ⟨b,n,w,h1,h2⟩:=R7 _ (Zv _) h
  grind
 | k+1,h=>by
  rw [Pe,Xo] at h;rcases h with h | h
  ·obtain ⟨b,n,w,h1,h2⟩:=Li k h;exact ⟨b,n,w,h1.imp id fun ⟨j,hj,e⟩=>⟨j,Za,e⟩,h2⟩
  grind
theorem kV {x:Inst} {bs:List Rte} {now:Int} (hn:x.orders.length<=4) (h6:x.types.length<=6) (hb:bs.length<=8):(Er x bs now).length<=1000/\ ∀c∈Er x bs now,c.set<9223372036854775808:=by
 have hp2:2^x.orders.length<=2^4:=Y1 Za hn;refine ⟨?_,fun c hc=> ?_⟩
 ·have h1:=Lh (x:=x) (bs:=bs) (now:=now) x.types.length;have h2:(bs.length+x.types.length)*(2^x.orders.length-1)<=14*16:=Nat.mul_le_mul Za Za;unfold Er;omega
 ·obtain ⟨b,_,_,_,h⟩:=Li _ hc;obtain ⟨S,m,_,h3,_,_,_,rfl⟩:=Ha h
  show ((S:Nat):Int)<_
  omega
def Zg3 (R:Pln->Int->Int->Prop) (k:Int) (q:Pln) (n e:Int):Prop:=(k=0->R q n e)/\(k≠0->q=⟨true,[],true,[]⟩/\n=0/\e=k)
theorem aC (x:Inst) (p:Pln) (l:List Rte) (c:Bool) (now:Int) (hx:InstOk x) (ho:x.orders.length<=4) (hbl:x.before.length<=1048576) (hr:p.routes.length<=1048576) (hv: ∀r∈p.routes,r.visits.length<=1048576)
  (hb: ∀r∈l,ordR r.visits=(((ordS r.visits:Nat):Int),0)) (hbs:BsOk x l) (hn:0<=now/\now<=4096) :
  ACalls Tryz.prog 25 [.p (ZE x),.p (Wh p),.p (.list c (l.map Z0)),.p (.int .i64 now)] [] fun y H'=> ∃q n e,Zg3 (Oc (D2 x p (Xf l)) (Er (D2 x p (Xf l)) l now)) (Wq x p) q n e/\y= .tup [.p (Wh q),.p (.int .i64 n),.p (.int .i64 e)]/\H'= []:=by
 have h6:=N0 hx;have hl8:=hbs.len;have cb:=SQ x p l c ho Za hr hv Za fun r h=>⟨by have:=(hbs.bnd r h).1;omega,hb r h,hbs.ord r h⟩;have hol:(D2 x p (Xf l)).orders.length=x.orders.length:=VC;unfold vO at cb;refine Zf [] Tryz.func25 rfl Zit ?_;simp (disch:=omega) only [Tryz.f25,go_sem,seval];refine (mG now).use ?_;refine Zc ?_;simp (disch:=omega) only [hn,Vd,go_sem,seval]
 by_cases h0:Wq x p=0
 ·rw [if_pos h0,h0] at cb;have hx2:=dK (S:=Xf l) hx h0;have hb2:BsOk (D2 x p (Xf l)) l:=⟨hbs.len,hbs.typ,hbs.bnd,hbs.ord⟩;obtain ⟨o1,o2⟩:=kV (x:=D2 x p (Xf l)) (bs:=l) (now:=now) Za h6 hl8;have ca:=cY (D2 x p (Xf l)) hx2 l c now hb2 hn hbl;have cc:=TY (D2 x p (Xf l)) (Er (D2 x p (Xf l)) l now) false hx2 Za (show x.types.length<=1048576 by omega) o2 Za;generalize D2 x p (Xf l)=y at cb ca cc ⊢;generalize Er y l now=L at ca cc ⊢;refine W1 cb (Zc ?_);refine W1 ca (Zc ?_);refine mN cc fun q n e hR=> ?_
  refine Zc ?_;exact ⟨.tup [.p (Wh q),.p (.int .i64 n),.p (.int .i64 e)],[],wk,q,n,e,⟨fun _=>hR,fun h=>absurd h0 h⟩,rfl,rfl⟩
 ·rw [if_neg h0] at cb;refine W1 cb (Zc ?_);refine cD ?_ ?_<;>intro h2<;>simp (disch:=omega) only [Sh.out h2,go_sem,seval,↓reduceIte]
  ·exact ⟨.tup [.p (Wh ⟨true,[],true,[]⟩),.p (.int .i64 0),.p (.int .i64 (Wq x p))],[],wk,⟨true,[],true,[]⟩,0,Wq x p,⟨fun h=>absurd h h0,fun _=>⟨rfl,rfl,rfl⟩⟩,rfl,rfl⟩
  ·omega
theorem zN {c:Cas} {l:List Rte} (h:DayOk48 c l) (hr: ∀r∈l,WH r):BsOk c.y l/\(∀r∈l,ordR r.visits=(((ordS r.visits:Nat):Int),0))/\ ∀r∈l,r.visits.length<=8/\r.rests.length<=9:=by
 obtain ⟨p1,p2,p3⟩:=Lu h.sm;have hx:=h.x.2.2.2.2.2.2
 have hy1:c.y.orders.length<=3:=by have:=h.y.1;omega
 have key: ∀b∈l,(0<=b.typ)/\b.visits.length<=8/\b.rests.length<=9:=fun b hb=>by
  rw [h.eq] at hb;obtain ⟨r,hrm,rfl,_⟩:=FF _ (Zv _) hb;have h0:=Mz.1 h.err r hrm;have hp:=p3 r hrm;have hs:=(E9 hx h0 Za).len;have h2:=Nr (x:=c.x) (now:=c.now) hs
  have hre:Yf c.x r=0:=by
   grind [evalE]
  exact ⟨(X3 hre).1.1,Za,Za⟩
 have hor: ∀r∈l,r.visits.all DI=true:=fun r hrm=>by
  have g1:=(h.beg r hrm).ord
  grind [ordR]
 refine ⟨⟨?_,fun r hrm=>⟨(key r hrm).1,(h.beg r hrm).typ⟩,fun r hrm=> ?_,fun r hrm v hv=> ?_⟩,fun r hrm=>by rw [ordR,if_pos (hor r hrm)],fun r hrm=>(key r hrm).2⟩
 ·have:=Cw (x:=c.x) (now:=c.now) (l:=c.p.routes) c.p.routes.length;rw [h.eq];omega
 ·grind
 ·have h1:=Zt.1 (hor r hrm) v hv;simp only [DI,Zp] at h1;have h2:=((h.beg r hrm).sub v.order.toNat ((YS _ _).2 ⟨v,hv,rfl⟩)).1;omega
theorem rW {x:Inst} {bs:List Rte} {now:Int} (hn:x.orders.length<=4) (hb: ∀r∈bs,r.visits.length<=8/\r.rests.length<=9) {c:Col} (hc:c∈Er x bs now):WH c.route:=by
 obtain ⟨b,_,_,hbm,h⟩:=Li _ hc;obtain ⟨S,m,_,_,_,hm,_,rfl⟩:=Ha h
 have hb2:b.visits.length<=8/\b.rests.length<=9:=by
  rcases hbm with h | ⟨j,_,rfl⟩
  ·exact hb _ h
  ·simp [Bh]
 have h1:(AS x S b.visits).length<=KX x S:=lN;have h2:=Lz x S x.orders.length;unfold KX at h1
 show m.length<=1048576/\b.rests.length<=1048576
 rcases hm with rfl | hm
 ·omega
 ·have:=Fp _ _ _ hm;omega
end Go.Proofs.YtiigdaohjanidaaGreatDoor.K
