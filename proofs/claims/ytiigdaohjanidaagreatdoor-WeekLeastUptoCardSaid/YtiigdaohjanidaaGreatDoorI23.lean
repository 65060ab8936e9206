/- Declarations that the closing texts need, part 23: joined by tools/slim.py. -/
import Derived.Test.YtiigdaohjanidaaGreatDoorI22
import Derived.Shelf.SlSortCmp.NoneTotal
set_option linter.unusedVariables false
set_option linter.unusedSimpArgs false
namespace Go.AM
open Go.RowKit Go.Shelf Go.Lib Go.Sort Go.Proofs
theorem dL {W w':World} {H':List AM.Obj} {ι':List (Option Nat)} (g:Good JY [] [] W H' ι' w'): ∃q os',w'=grow (W.drewN q) os':=by
 refine ⟨w'.drawn-W.drawn,w'.heap.extract W.heap.size w'.heap.size,?_⟩
 have h1:w'.heap=W.heap++w'.heap.extract W.heap.size w'.heap.size:=by
  apply Array.ext_getElem?;intro i
  by_cases hi:i<W.heap.size
  ·rw [CF hi];exact g.keep i hi Zb
  ·rw [Array.getElem?_append_right Za];have:=g.size;rw [Array.getElem?_extract]
   split
   ·congr 1;omega
   ·rw [Array.getElem?_eq_none Za]
 have h2:W.drawn<=w'.drawn:=g.tape.2.resolve_right fun h=>h;have h3:=g.tape.1;have h4:=g.os;have h5:=g.output
 cases w'
 simp only [grow,World.drewN] at *
 congr 1
 omega
def Oa (c:Array Value) (k i:Nat):List Value:=(List.range k).map fun j=>c.getD (i*k+j) undef
theorem E1 (c k i):(Oa c k i).length=k:=by simp [Oa]
theorem B4 {c k i j} (h:j<k):(Oa c k i)[j]! =c.getD (i*k+j) undef:=by
 rw [List.getElem!_eq_getElem?_getD,Oa,XH,List.getElem?_range h];rfl
theorem ACalls.sortFunc {P : Program} {ρ : Ren} (L : SlLaysF0.n6 P ρ) (hg : Zi P (ρ.f 6)) (k : Nat) (aE : ∀ w, (isAgg (ρ.t 24)).run P w = .ok true w) (zE : ∀ w, (Go.sizeOf (ρ.t 24)).run P w = .ok k w)
    {β : Type} [Inhabited β] (f : β -> PV) (hf : ∀ x, ∃ cs, f x = .agg cs /\ cs.length = k /\ cs.all (·.one) = true) (cf : β -> β -> Int) (hO : SWO (ltOf cf)) (g : FuncId)
    (hcmp : ∀ x y, ACalls P g [.p (f x), .p (f y)] [] fun r H' => r = .p (.int .i64 (cf x y)) /\ H' = []) (xs : List β) (hlen : xs.length < 4611686018427387904) {H : List AM.Obj} {o : Nat} (hHo : H[o]? = some (.elems k (xs.map f))) :
    ACalls P (ρ.f 6) [.sl o 0 xs.length xs.length, .fn (.func g) [] []] H fun y H' => y = .tup [] /\ ∃ ys : List β, ys.Perm xs /\ ys.Pairwise (fun a b => ¬ cf b a < 0) /\ H' = H.set o (.elems k (ys.map f)) := by
  refine ⟨hg, fun F ι w vs hr hv => ?_⟩;obtain ⟨hv1, hv2⟩ := hv;have h0 := hv2 0 _ rfl;have h1 := hv2 1 _ rfl
  have hvs : vs = #[vs.getD 0 undef, vs.getD 1 undef] := by
    apply Array.ext
    · simpa using hv1
    · intro i h2 h3
      have : i = 0 \/ i = 1 := by simp at hv1; omega
      rcases this with rfl | rfl <;> simp [Array.getD, h2]
  rw [hvs];generalize vs.getD 0 undef = v0 at h0 ⊢;generalize vs.getD 1 undef = v1 at h1 ⊢;clear hvs hv1 hv2
  cases h1 with | fn _ _ _ a e hs ht _ _ =>
  have ea : a = #[] := DD (by simpa using hs);have ee : e = #[] := DD (by simpa using ht);subst ea; subst ee;generalize hL : xs.length = n at h0 hlen
  by_cases hz : n = 0
  · subst hz
    obtain rfl : xs = [] := List.length_eq_zero_iff.1 hL
    have e1 : H.set o (.elems k (([] : List β).map f)) = H := by
      apply JD;intro i;rw [UL]
      split
      · rename_i hi; subst hi; rw [hHo]; simp [(ZT.1 hHo).1]
      · rfl
    obtain ⟨ad, cap, rfl⟩ : ∃ ad cap, v0 = .slice ad 0 cap := by
      cases h0 with
      | slNil => exact ⟨_, _, rfl⟩
      | sl => exact ⟨_, _, rfl⟩
      | slD _ _ _ _ _ hd => rw [hHo] at hd; cases hd
      | slS _ _ _ _ _ S2 xs2 hd hne => rw [hHo] at hd; simp at hd; obtain ⟨_, rfl⟩ := hd; simp at hne
      | slC _ _ _ _ _ _ hd => rw [hHo] at hd; cases hd
    refine (AnyF.slices_SortFunc_none L ad cap _ w).mono ?_;rintro e w' ⟨rfl, rfl⟩;exact ⟨.tup [], _, ι, _, rfl, ⟨rfl, [], .refl _, .nil, e1.symm⟩, Good.refl hr, .tup [] #[] Zb Zb⟩
  have hn : 0 < n := Za
  cases h0 with
  | slNil => omega
  | slD _ _ _ _ _ hd => rw [hHo] at hd; cases hd
  | slS _ _ _ _ _ S ys hd hlt => rw [hHo] at hd; simp at hd; obtain ⟨_, rfl⟩ := hd; simp at hlt; omega
  | slC _ _ _ _ _ _ hd => rw [hHo] at hd; cases hd
  | sl _ _ _ _ b S cap t ys c hι hH ht2 hw hcap hl hle hm =>
  rw [hHo] at hH;simp at hH;obtain ⟨rfl, rfl⟩ := hH;rcases hr.elm o k (xs.map f) hHo with ⟨e1, _⟩ | ⟨b2, c2, t2, cap2, e1, e2, e3, e4, e5, e6, e7⟩
  · rw [hι] at e1; cases e1
  rw [hι] at e1;simp at e1; subst e1;rw [hw] at e2;simp at e2;obtain ⟨rfl, rfl⟩ := e2;have hbs : b < w.heap.size := (hr.avo o b hι).2;have hbF : ¬ F b := (hr.avo o b hι).1
  -- an index, made one that there is
  let ix : Nat -> Nat := fun i => if i < n then i else 0
  have hix : ∀ i, ix i < n := fun i => by simp only [ix]; split <;> omega
  have hixe : ∀ i, i < n -> ix i = i := fun i hi => by simp only [ix]; rw [if_pos hi]
  let enc : Nat -> List Value := fun i => Oa c k (ix i)
  have hk : ∀ x, (enc x).length = k := fun x => E1 _ _ _
  -- one cell of an element
  have cell : ∀ i, i < n -> ∃ cs, f (nth xs i) = .agg cs /\ cs.length = k /\ ∀ (j : Nat) (y : PV), cs[j]? = some y -> y.one = true /\ RP (Own F ι) w y (c.getD (i * k + j) undef) := fun i hi => by
    obtain ⟨cs, q1, q2, q3⟩ := hf (nth xs i);refine ⟨cs, q1, q2, fun j y hj => ⟨Zv.1 q3 y (Z5 hj), ?_⟩⟩;refine e7 i (f (nth xs i)) j y ?_ (by rw [q1]; exact hj);rw [XH, Vw Za, Ze Za]; rfl
  have one : ∀ x, ∀ v ∈ enc x, v.oneCell' = true := fun x v hv => by
    obtain ⟨j, hj, rfl⟩ := ZP.1 hv
    have hjk : j < k := by rw [hk] at hj; exact hj
    obtain ⟨cs, q1, q2, q3⟩ := cell (ix x) (hix x);have hg := q3 j (cs[j]'(Za)) Zb
    have e9 : (enc x)[j] = c.getD (ix x * k + j) undef := by
      have := B4 (c := c) (i := ix x) hjk;rw [List.getElem!_eq_getElem?_getD, Vw (by rw [E1]; exact hjk)] at this;exact this
    rw [e9];exact hg.2.oneCell hg.1
  let d : Array Nat := Array.range n
  have hd : d.size = n := by simp [d]
  let cf' : Nat -> Nat -> Int := fun i j => cf (nth xs (ix i)) (nth xs (ix j))
  have hO' : SWO (ltOf cf') := ⟨fun x => hO.irrefl _, fun x y z h1 h2 => hO.trans _ _ _ h1 h2, fun x y z h1 h2 => hO.ntrans _ _ _ h1 h2⟩
  have hsz : n * k <= c.size := by
    rw [e3]; exact XB k (by simpa [hL] using e4)
  have hcell : ∀ j, j < c.size -> w.cell? ⟨b, j, none⟩ = some (c.getD j undef) := fun j hj => by
    simp [World.cell?, hw, hj]
  have hHolds : HoldsK enc k w b (0 * k) d := fun j hj => by
    have hj2 : j < n * k := by simpa [hd] using hj
    have k0 : 0 < k := by rcases Nat.eq_zero_or_pos k with h | h; · subst h; simp at hj2
                          · exact h
    rw [get_flatK enc k d j (by rw [hd]; exact hj2)];have hdj : j / k < n := Nat.div_lt_of_lt_mul (by rw [Aa]; exact hj2)
    have hde : d[j / k]! = j / k := by simp [d, hdj]
    rw [hde]
    have e9 : (enc (j / k))[j % k]! = c.getD j undef := by
      show (Oa c k (ix (j / k)))[j % k]! = _
      rw [hixe _ hdj, B4 (Jx _ k0), Nat.div_add_mod']
    rw [e9, Nat.zero_mul, XJ];exact ⟨hcell j Za, by simp [World.frozen?, hw]⟩
  have hcmp' : CmpLays P g #[] enc k cf' b (0 * k) d.size w := fun m os dk hdk x y => by
    generalize hW : sortWorldK enc k w b (0 * k) m dk os = W
    have hKeep : Keeps (Own F ι) w JY W := fun b' hb' hs' => by
      have hne : b' ≠ b := fun e => hb' (.inr (e ▸ Z5 hι));refine ⟨fun h => h, ?_, ?_⟩
      · rw [<- hW]; simp [sortWorldK, grow, putRowK, putRow, mapBlock, ahead]; omega
      · rw [<- hW]
        simp only [sortWorldK, grow, putRowK, putRow, mapBlock, ahead];rw [CF (by simpa using hs'), K6, if_neg (fun e => hne e.symm)]
        rfl
    have heW : Env JY [] W := (hr.env.of (w' := W) (ι' := ι) (by rw [<- hW]; simp [sortWorldK, grow, putRowK, putRow, mapBlock, ahead]) (fun b' hb' hni => by
      have hne : b' ≠ b := fun e => hni (e ▸ Z5 hι);rw [<- hW];simp only [sortWorldK, grow, putRowK, putRow, mapBlock, ahead];rw [CF (by simpa using hb'), K6, if_neg (fun e => hne e.symm)]
      rfl) (fun _ _ h => h)).noth
    have arg : ∀ i, RV JY [] [] W (.p (f (nth xs (ix i)))) (.agg (enc i).toArray) := fun i => by
      obtain ⟨cs, q1, q2, q3⟩ := cell (ix i) (hix i);refine .p _ _ ?_;rw [q1]
      refine (RP.agg cs (enc i).toArray (by simp [hk, q2]) fun j y hj => ?_ : RP JY W _ _).weaker fun b hb => by
        rcases hb with hb | hb
        · exact hb
        · simp at hb
      have hjk : j < k := by rw [<- q2]; exact (ZT.1 hj).1
      have e9 : (enc i).toArray.getD j undef = c.getD (ix i * k + j) undef := by
        have := B4 (c := c) (i := ix i) hjk;rw [List.getElem!_eq_getElem?_getD, Vw (by rw [E1]; exact hjk)] at this;simp only [ZI, Kg];rw [Vw (by rw [hk]; exact hjk), Js];rw [Js] at this;simpa only [ZI] using this
      rw [e9];exact (q3 j y hj).2.ext hKeep
    refine ((hcmp (nth xs (ix x)) (nth xs (ix y))).2 JY [] W _ (B5 heW) ⟨rfl, fun j q hj => ?_⟩).mono ?_
    · cases j with
      | zero => simp at hj; subst hj; exact arg x
      | succ j => cases j with
        | zero => simp at hj; subst hj; exact arg y
        | succ j => simp at hj
    · rintro e' w' ⟨x', H', ι', v, rfl, ⟨rfl, rfl⟩, gd, rv⟩
      cases rv with | p _ _ rp =>
      rw [rp.int_inv];exact ⟨rfl, dL gd⟩
  have eg := (hcmp default default).1;have main := AnyQ.slices_SortFunc L k aE zE enc hk one cf' hO' g #[] b (0 * k) cap d w (fun args w => eg args w) hcmp' hHolds hbs (by rw [hd]; exact hlen);rw [hd] at main;refine main.mono ?_;rintro e' w' ⟨rfl, d', m, os, hp, hso, rfl⟩;obtain ⟨p1, _, p3⟩ := hp;rw [hd] at p1
  have hperm : d'.toList.Perm (List.range n) := by
    have e8 : (d'.extract 0 n).toList = d'.toList := by rw [<- p1]; simp
    have e9 : (d.extract 0 n).toList = List.range n := by
      have : d.extract 0 n = d := by rw [<- hd]; simp
      rw [this]; simp [d]
    rw [e8, e9] at p3; exact p3
  have hlt : ∀ i ∈ d'.toList, i < n := fun i hi => by simpa using hperm.mem_iff.1 hi
  have hlt2 : ∀ i, i < n -> d'.toList[i]?.isSome = true := fun i hi => by simp [p1, hi]
  have hget : ∀ i (hi : i < n), d'[i]! = d'.toList[i]'(by simp [p1, hi]) := fun i hi => by
    rw [getElem!_pos d' i Za]; simp
  let ys : List β := d'.toList.map (nth xs)
  have hyl : ys.length = n := by simp [ys, p1]
  have hys : ∀ i (hi : i < n), ys[i]'(Za) = nth xs d'[i]! := fun i hi => by
    simp only [ys, List.getElem_map]; rw [hget i hi]
  have hdl : ∀ i, i < n -> d'[i]! < n := fun i hi => by rw [hget i hi]; exact hlt _ (UN _)
  have yperm : ys.Perm xs := by
    have h9 : (List.range n).map (nth xs) = xs := by
      refine VE (by simp [hL]) fun i h1 h2 => ?_;simp only [List.getElem_map, List.getElem_range];rw [Ze h2]
    have := hperm.map (nth xs);rw [h9] at this; exact this
  have ysort : ys.Pairwise fun a b => ¬ cf b a < 0 := by
    rw [UH];intro i j hi hj hij;rw [hys i Za, hys j Za];have h9 := hso i j (Nat.zero_le _) hij Za;simp only [ltOf, cf', XM] at h9;rwa [hixe _ (hdl j Za), hixe _ (hdl i Za)] at h9
  let c' : Array Value := putCells id (0 * k) (flatK enc k d') c
  have hcs : c'.size = c.size := by simp [c', putCells]
  have hat : (sortWorldK enc k w b (0 * k) m d' os).heap[b]? = some (.cells c' t (0, 0)) := by
    simp only [sortWorldK, grow, putRowK, putRow, mapBlock, ahead];rw [CF (by simpa using hbs), K6, if_pos rfl]
    show Option.map _ w.heap[b]? = _
    rw [hw]; rfl
  have hoth : ∀ q, q < w.heap.size -> q ≠ b -> (sortWorldK enc k w b (0 * k) m d' os).heap[q]? = w.heap[q]? := fun q hq hne => by
    simp only [sortWorldK, grow, putRowK, putRow, mapBlock, ahead];rw [CF (by simpa using hq), K6, if_neg (fun e => hne e.symm)]
    rfl
  have hc' : ∀ i j, i < n -> j < k -> c'.getD (i * k + j) undef = c.getD (d'[i]! * k + j) undef := fun i j hi hj => by
    have hb1 : i * k + j < n * k := by
      have := XB k (show i + 1 <= n from hi);rw [XP, UP] at this; omega
    have e8 : (flatK enc k d')[i * k + j]! = c.getD (d'[i]! * k + j) undef := by
      rw [get_flatK enc k d' _ (by rw [p1]; exact hb1)]
      have q1 : (i * k + j) / k = i := by rw [Aa, Nat.mul_add_div Za, KZ hj]; omega
      have q2 : (i * k + j) % k = j := by rw [Aa, Nat.mul_add_mod, BG hj]
      rw [q1, q2]
      show (Oa c k (ix d'[i]!))[j]! = _
      rw [B4 hj, hixe _ (hdl i hi)]
    have e9 : c'[i * k + j]? = some ((flatK enc k d')[i * k + j]!) := by
      simp only [c', putCells, Array.getElem?_mapIdx];rw [Array.getElem?_eq_getElem Za];simp only [K5, Nat.zero_mul, Nat.zero_le, true_and, XJ, size_flatK, p1, hb1, if_true, Nat.sub_zero, id]
    rw [ZI, e9, Js, e8]
  have good := XS (w' := sortWorldK enc k w b (0 * k) m d' os) (c := c') (t := t) (xs' := ys.map f) (cap := cap2) (b' := b) hr (o := o) (S := k) (xs := xs.map f) hHo rfl (Tp.of rfl (by simp [sortWorldK, grow, putRowK, putRow, mapBlock, ahead])) rfl
    (fun c0 t0 h => by rw [hw] at h; simp at h; obtain ⟨rfl, rfl⟩ := h; exact ⟨rfl, hcs⟩) (by simp [sortWorldK, grow, putRowK, putRow, mapBlock, ahead]) hat hoth (.inl ⟨hι, .inl ⟨by simp [hyl, hL], fun c0 t0 h => by rw [hw] at h; simp at h; obtain ⟨rfl, rfl⟩ := h; exact ⟨rfl, hcs⟩⟩⟩)
    (by rw [hcs]; exact e3) (by simp only [Zx, hyl]; simpa [hL] using e4) e5
    (fun i x hi => by
      rw [XH, ZA] at hi;obtain ⟨y, _, rfl⟩ := hi;obtain ⟨cs, q1, q2, _⟩ := hf y
      rw [q1]; exact q2)
    (fun i x j y hi hj => by
      rw [XH, ZA] at hi;obtain ⟨z, hz, rfl⟩ := hi
      have hin : i < n := by have := (ZT.1 hz).1; omega
      have e8 : z = nth xs d'[i]! := by
        obtain ⟨h9, h10⟩ := ZT.1 hz;rw [<- h10]; exact hys i hin
      obtain ⟨cs, q1, q2, q3⟩ := cell _ (hdl i hin);rw [e8, q1] at hj
      have hjk : j < k := by rw [<- q2]; exact (ZT.1 hj).1
      rw [hc' i j hin hjk]
      exact (q3 j y hj).2)
  have ZE : ι.set o (some b) = ι := by
    refine JD fun i => ?_;rw [UL]
    split
    · rename_i e; subst e
      have := (ZT.1 hι).1;rw [if_pos this, hι]
    · rfl
  rw [ZE] at good;exact ⟨.tup [], _, ι, .tuple #[], rfl, ⟨rfl, ys, yperm, ysort, rfl⟩, good, .tup [] #[] rfl (fun j c hj => by simp at hj)⟩
end Go.AM
namespace Go.Proofs.YtiigdaohjanidaaGreatDoor.K
open Go Go.AM Go.Proofs
set_option maxRecDepth 60000
set_option maxHeartbeats 8000000
theorem PG {α:Type} [Inhabited α] {l:List α} {i j:Nat} {a:α} (h:i<l.length):nth (l.set i a) j=if i=j then a else nth l j:=by
 grind [nth]
theorem nV {α:Type} [Inhabited α] {l:List α} {j:Nat} {a:α} (h:j<l.length):nth (l++ [a]) j=nth l j:=by
 grind [nth]
theorem H6 {α:Type} [Inhabited α] {l:List α} {a:α} :nth (l++ [a]) l.length=a:=by
 grind [nth]
def cfK (a b:Col):Int:=oE [Qm a.typ b.typ,Qm a.set b.set]
theorem bD {a b:Int} :Qm a b<0↔a<b:=by grind [Qm]
theorem bE {a b:Int} :Qm a b=0↔a=b:=by grind [Qm]
theorem Ek {a b:Col} :cfK a b<0↔a.typ<b.typ\/(a.typ=b.typ/\a.set<b.set):=by
 grind [cfK,H8,bE,bD]
theorem lV : Go.Sort.SWO (ltOf cfK) where
 irrefl x:=by grind [ltOf,Ek]
 trans x y z h1 h2:=by simp only [ltOf,Zl,Ek] at *;omega
 ntrans x y z h1 h2:=by grind [ltOf,Ek]
theorem I6 (a b:Col):PC 197 [.p (Yn a),.p (Yn b)] (.int .i64 (cfK a b)):=by
 refine Zc Tryz.func197 rfl zD ?_;simp (disch:=omega) only [Tryz.f197,go_sem,seval];refine XR (Wt ?_);refine Zp (Ga a.typ b.typ) (Wt ?_);refine Zp (Ga a.set b.set) (Wt ?_);refine Zp (ZbH [Qm a.typ b.typ,Qm a.set b.set] false Zb) (Wt ?_)
 rfl
theorem pQ (xs:List Col) (hl:xs.length<=1048576) {H:List AM.Obj} {o:Nat} (hH:H[o]? =some (.elems 7 (xs.map Yn))) :
  ACalls Tryz.prog 103 [.sl o 0 xs.length xs.length,.fn (.func 197) [] []] H fun y H'=>y= .tup []/\ ∃ys:List Col,ys.Perm xs/\ys.Pairwise (fun a b=> ¬cfK b a<0)/\H'=H.set o (.elems 7 (ys.map Yn)) :=
 ACalls.sortFunc MB dQ 7 Tryz.isAgg158 Tryz.sizeOf158 Yn (fun x=>⟨_,rfl,rfl,rfl⟩) cfK lV 197 I6 xs Za hH
def kd (c:Col):Kd:=⟨c.typ,c.set⟩
def Bst (l:List Col) (k:Nat) (d:Col):Prop:= ∃j,j<k/\nth l j=d/\ ∀i,i<k->kd (nth l i)=kd d->d.price<(nth l i).price\/(d.price=(nth l i).price/\j<=i)
structure Chp (l:List Col) (k:Nat) (m:List (Kd×Int)) (out:List Col):Prop where
 len:out.length<=k
 at1: ∀i,i<out.length->mq m (kd (nth out i))=some (i:Int)
 at2: ∀q v,mq m q=some v-> ∃i,i<out.length/\v=i/\kd (nth out i)=q
 bst: ∀i,i<out.length->Bst l k (nth out i)
 all: ∀j,j<k-> ∃i,i<out.length/\kd (nth out i)=kd (nth l j)
theorem aX (l:List Col):Chp l 0 [] []:=⟨Zb,fun i h=>by simp at h,fun q v h=>by simp [mq] at h,fun i h=>by simp at h,fun j h=>by simp at h⟩
theorem mB {l:List Col} {k:Nat} {m m':List (Kd×Int)} {out:List Col} (h:Chp l k m out) (hn:mq m (kd (nth l k))=none) (hm: ∀q,mq m' q=if q=kd (nth l k) then some (out.length:Int) else mq m q):Chp l (k+1) m' (out++ [nth l k]):=by
 have hno: ∀i,i<out.length->kd (nth out i)≠kd (nth l k):=fun i hi e=>by
  have:=h.at1 i hi
  grind
 have split: ∀i,i<(out++ [nth l k]).length->(i<out.length/\nth (out++ [nth l k]) i=nth out i)\/(i=out.length/\nth (out++ [nth l k]) i=nth l k):=fun i hi=>by
  simp only [Zn,ZH,Zw] at hi;rcases Wh i out.length with h1 | h1
  ·grind [nV]
  ·obtain rfl:i=out.length:=Za
   exact .inr ⟨rfl,H6⟩
 refine ⟨by have:=h.len;simp;omega,fun i hi=> ?_,fun q v hq=> ?_,fun i hi=> ?_,fun j hj=> ?_⟩
 ·rcases split i hi with ⟨h1,e⟩ | ⟨rfl,e⟩
  ·rw [e,hm,if_neg (hno i h1)];exact h.at1 i h1
  grind
 ·rw [hm] at hq
  split at hq
  ·grind [H6]
  ·obtain ⟨i,h1,h2,h3⟩:=h.at2 q v hq
   grind
 ·rcases split i hi with ⟨h1,e⟩ | ⟨rfl,e⟩
  ·rw [e];obtain ⟨j,h2,h3,h4⟩:=h.bst i h1;refine ⟨j,Za,h3,fun p hp he=> ?_⟩
   grind
  ·rw [e];refine ⟨k,Za,rfl,fun p hp he=> ?_⟩;rcases DE.1 hp with h5 | rfl
   ·obtain ⟨i,h6,h7⟩:=h.all p h5
    grind
   omega
 ·rcases DE.1 hj with h5 | rfl
  ·obtain ⟨i,h6,h7⟩:=h.all j h5
   grind
  ·exact ⟨out.length,Zb,by rw [H6]⟩
theorem mC {l:List Col} {k:Nat} {m:List (Kd×Int)} {out:List Col} {i:Nat} (h:Chp l k m out) (hi:i<out.length) (hk:kd (nth out i)=kd (nth l k)):Chp l (k+1) m (if (nth l k).price<(nth out i).price then out.set i (nth l k) else out):=by
 have hun: ∀j,j<out.length->kd (nth out j)=kd (nth l k)->j=i:=fun j hj e=>by
  have h1:=h.at1 j hj;have h2:=h.at1 i hi
  grind
 split
 ·rename_i hp
  have key: ∀j,kd (nth (out.set i (nth l k)) j)=kd (nth out j):=fun j=>by
   grind [PG]
  refine ⟨by have:=h.len;simp;omega,fun j hj=> ?_,fun q v hq=> ?_,fun j hj=> ?_,fun j hj=> ?_⟩
  ·rw [key];exact h.at1 j (by grind)
  ·obtain ⟨j,h1,h2,h3⟩:=h.at2 q v hq
   grind
  ·simp only [BK] at hj;rw [PG hi]
   split
   ·rename_i e;subst e;refine ⟨k,Za,rfl,fun p hp2 he=> ?_⟩;rcases DE.1 hp2 with h5 | rfl
    ·obtain ⟨j,h6,h7,h8⟩:=h.bst i hi
     grind
    omega
   ·rename_i e;obtain ⟨p,h2,h3,h4⟩:=h.bst j hj;refine ⟨p,Za,h3,fun p' hp' he=> ?_⟩
    grind
  ·rcases DE.1 hj with h5 | rfl
   ·obtain ⟨p,h6,h7⟩:=h.all j h5
    grind
   grind
 ·rename_i hp;refine ⟨by have:=h.len;omega,h.at1,h.at2,fun j hj=> ?_,fun j hj=> ?_⟩
  ·obtain ⟨p,h2,h3,h4⟩:=h.bst j hj;refine ⟨p,Za,h3,fun p' hp' he=> ?_⟩
   grind
  ·rcases DE.1 hj with h5 | rfl
   ·exact h.all j h5
   grind
structure Cheap (l ys:List Col):Prop where
 asc:ys.Pairwise fun a b=>cfK a b<0
 bst: ∀d∈ys,Bst l l.length d
 all: ∀c∈l,∃d∈ys,kd d=kd c
theorem mA {l:List Col} {m:List (Kd×Int)} {out ys:List Col} (h:Chp l l.length m out) (hp:ys.Perm out) (ha:ys.Pairwise fun a b=> ¬cfK b a<0):Cheap l ys:=by
 have hnd:out.Pairwise fun a b=>kd a≠kd b:=by
  rw [UH];intro i j hi hj hij e;have h1:=h.at1 i hi;have h2:=h.at1 j hj
  grind [Ze]
 have hnd2:ys.Pairwise fun a b=>kd a≠kd b:=(hp.pairwise_iff fun h e=>h e.symm).2 hnd;refine ⟨(hnd2.and ha).imp fun {a b} hh=> ?_,fun d hd=> ?_,fun c hc=> ?_⟩
 ·rw [Ek] at hh ⊢
  grind [kd]
 ·obtain ⟨i,hi,rfl⟩:=ZP.1 (hp.mem_iff.1 hd);rw [<- Ze hi];exact h.bst i hi
 ·obtain ⟨j,hj,rfl⟩:=ZP.1 hc;obtain ⟨i,hi,e⟩:=h.all j hj
  grind [Ze]
theorem Nv (l:List Col) (c:Bool) (hl:l.length<=8192):ACalls Tryz.prog 150 [.p (.list c (l.map Yn))] [] fun y H'=> ∃ys:List Col,(Cheap l ys/\ys.length<=l.length)/\y= .p (.list false (ys.map Yn))/\H'= []:=by
 refine Zf [15] Tryz.func150 rfl yC ?_;simp (disch:=omega) only [Tryz.f150,go_sem,seval];refine Zk [3,11,12] (fun q:Nat×List (Kd×Int)×List Col=> [(4,.sl 1 0 q.2.2.length q.2.2.length),(13,.p (.int .i64 q.1))]) (fun q=> [.map (q.2.1.map (Lh TD)),.elems 7 (q.2.2.map Yn)]) (fun q=>q.1<=l.length/\Chp l q.1 q.2.1 q.2.2) (fun q=>l.length-q.1) (0,[],[]) ⟨Zb,aX l⟩ (Weak.ofNil 4 7 (by simp (disch:=omega) only [go_sem,seval]) Zb (Weak.mk ?_)) ?_
 ·simp (disch:=omega) only [Zo,Zw,go_sem,seval]
 ·rintro ⟨k,m,out⟩ ⟨hk,hC⟩;simp only at hk hC;have hol:=hC.len;refine Wt ?_;refine cD ?_ ?_<;>intro h1<;>simp (disch:=omega) only [Sh.out h1,go_sem,seval,↓reduceIte]
  ·have hk2:k<l.length:=Za
   refine eO (l:=m) (k:=kd (nth l k)) eC (fun _ _=>trivial) trivial (by rfl) (Wt ?_)
   cases hq:mq m (kd (nth l k)) with
   | none =>
    simp (disch:=omega) only [BD,Option.getD_none,go_sem,seval];refine Ie (l:=m) (k:=kd (nth l k)) eC (fun _ _=>trivial) trivial (by rfl) fun m' hm' _=> ?_;simp (disch:=omega) only [Yf,go_sem,seval];exact ⟨(k+1,m',out++ [nth l k]),⟨Za,mB hC hq hm'⟩,Za,Weak.mk (by simp (disch:=omega) only [X0,Zu,Zo,Zn,ZH,Zw,XJ,go_sem,seval])⟩
   | some v =>
    obtain ⟨i,hi,rfl,hkd⟩:=hC.at2 _ _ hq;have hold:=mC hC hi hkd;simp (disch:=omega) only [JC,Js,go_sem,seval];refine XR ?_;simp (disch:=first | omega | (simp only [ZH,Zw,Zn,Zx,ZC,ZK]<;>omega)) only [Wq hi,hi,go_sem,seval,↓reduceIte];refine ZN ?_ ?_<;>intro h2
    ·rw [if_pos h2] at hold;simp (disch:=first | omega | (simp only [ZH,Zw,Zn,Zx,ZC,ZK]<;>omega)) only [go_sem,seval];exact ⟨(k+1,m,out.set i (nth l k)),⟨Za,hold⟩,Za,Weak.mk (by simp (disch:=omega) only [Uh,BK,go_sem,seval])⟩
    ·rw [if_neg h2] at hold;exact ⟨(k+1,m,out),⟨Za,hold⟩,Za,wk⟩
  ·have hkl:k=l.length:=Za
   subst hkl;refine (pQ out Za (H:=_) (o:=1) rfl).mono ?_;rintro y H' ⟨rfl,ys,g1,g2,rfl⟩;have hyl:ys.length=out.length:=g1.length_eq;simp (disch:=omega) only [Xr,Yf,go_sem,seval];rw [<- hyl];refine Zs (Weak.fz (o:=1) (by rfl)) (Zg [] _ _ _ _ (AE ?_));exact ⟨.p (.list false (ys.map Yn)),[],wk,ys,⟨mA hC g1 g2,Za⟩,rfl,rfl⟩
def Yg (x:Inst):Nat->Nat
 | 0=>0
 | i+1=>if (nth x.orders i).off=true then Yg x i else Yg x i|||pw i
theorem Zg4 (x:Inst): ∀i,Yg x i<2^i
 | 0=>by simp [Yg]
 | i+1=>by
  have:=Zg4 x i
  have h:2^(i+1)=2*2^i:=Za
  rw [Yg]
  split
  ·omega
  ·exact Qt Za (by rw [pw];omega)
theorem Uq (x:Inst): ∀(n i:Nat),(Yg x n).testBit i=(decide (i<n)&& !(nth x.orders i).off)
 | 0,i=>by simp [Yg]
 | n+1,i=>by
  rw [Yg]
  split
  ·rename_i h;rw [Uq x n i]
   by_cases e:i=n
   ·subst e;simp [h]
   ·have:decide (i<n+1)=decide (i<n):=by simp;omega
    rw [this]
  ·rename_i h;rw [K7,Uq x n i,pw,Nat.testBit_two_pow]
   grind
theorem uI (o:Ord):PC 195 [.p (eOrd o)] (.bool true):=by
 refine Zc Tryz.func195 rfl zB ?_;simp (disch:=omega) only [Tryz.f195,go_sem,seval,↓reduceIte]
theorem Zb7 (x:Inst) (hn:x.orders.length<=10):PC 194 [.p (ZG x),.fn (.func 195) [] []] (.int .i64 ((Yg x x.orders.length:Nat):Int)):=by
 refine Zf [] Tryz.func194 rfl zA ?_;simp (disch:=omega) only [Tryz.f194,go_sem,seval];refine Zk [1,9,10] (fun k:Nat=> [(5,.p (.int .i64 ((Yg x k:Nat):Int))),(11,.p (.int .i64 k))]) (fun _=> [Zj x]) (fun k=>k<=x.orders.length) (fun k=>x.orders.length-k) 0 Zb (Weak.mk ?_) ?_
 ·have h00:((Yg x 0:Nat):Int)=0:=rfl;simp (disch:=omega) only [h00,Zj,go_sem,seval]
 ·intro k hk;refine Wy ?_;refine cD ?_ ?_<;>intro h1<;>simp (disch:=omega) only [Sh.out h1,go_sem,seval,↓reduceIte]
  ·have hk2:k<x.orders.length:=Za
   have hm:=Zg4 x k;have hp:2^k<=2^10:=Yw Za Za;have hpw:pw k<=1024:=hp;refine J6 ?_ ?_<;>intro h2
   ·refine (uI (nth x.orders k)).use (Wt ?_)
    have ho:(nth x.orders k).off=false:=by grind
    exact ⟨k+1,Za,Za,Weak.mk (by simp (disch:=omega) only [Yg,ho,Yo,go_sem,seval,↓reduceIte])⟩
   ·have ho:(nth x.orders k).off=true:=by grind
    exact ⟨k+1,Za,Za,Weak.mk (by simp (disch:=omega) only [Yg,ho,go_sem,seval,↓reduceIte])⟩
  ·have hkl:k=x.orders.length:=Za
   subst hkl;exact we
theorem ZbK (x:Inst) (hn:x.orders.length<=10):PC 148 [.p (ZG x)] (.int .i64 ((Yg x x.orders.length:Nat):Int)):=by
 refine Zc Tryz.func148 rfl yA ?_;simp (disch:=omega) only [Tryz.f148,go_sem,seval];refine (Zb7 x hn).use ?_;simp (disch:=omega) only [go_sem,seval]
def Ou (S M:Nat):Bool:=(List.range 63).all fun i=> !S.testBit i||M.testBit i
theorem pL (S M:Nat) (hS:S<9223372036854775808):PC 196 [.p (.int .i64 (S:Int)),.p (.int .i64 (M:Int))] (.bool (Ou S M)):=by
 refine Zc Tryz.func196 rfl zC ?_;simp (disch:=omega) only [Tryz.f196,go_sem,seval];have hb:=C6 (S:=S) (M:=M) hS
 have hd:decide (IntKind.i64.wrap ((BitVec.ofInt 64 (S:Int)&&& ~~~BitVec.ofInt 64 (M:Int)).toNat:Int)=0)=((List.range 63).all fun i=> !S.testBit i||M.testBit i):=by
  grind
 exact XC (fun b=>V.p (PV.bool b)) hd
def rightB (x:Inst) (c:Col):Bool:=decide (0<=c.typ)&&(decide (c.typ<x.types.length)&&(decide (0<c.set)&&(Ou c.set.toNat (Yg x x.orders.length)&&(decide (0<=c.price)&&decide (c.price<=18014398509481984)))))
theorem RQ (x:Inst) (c:Col) (hs:c.set<9223372036854775808) (ht:x.types.length<=1048576):PC 149 [.p (ZG x),.p (Yn c),.p (.int .i64 ((Yg x x.orders.length:Nat):Int))] (.bool (rightB x c)):=by
 refine Zc Tryz.func149 rfl yB ?_;simp (disch:=omega) only [Tryz.f149,go_sem,seval];refine gT ?_ ?_<;>intro h1<;>simp (disch:=omega) only [Sh.out h1,go_sem,seval,↓reduceIte]
 ·refine gT ?_ ?_<;>intro h2<;>simp (disch:=omega) only [Sh.out h2,go_sem,seval,↓reduceIte]
  ·refine gT ?_ ?_<;>intro h3<;>simp (disch:=omega) only [Sh.out h3,go_sem,seval,↓reduceIte]
   ·obtain ⟨S,hS⟩: ∃S:Nat,c.set=(S:Int):=⟨c.set.toNat,Za⟩
    have e1:rightB x c=(Ou S (Yg x x.orders.length)&&(decide (0<=c.price)&&decide (c.price<=18014398509481984))):=by
     simp_all [rightB]
    rw [hS];refine (pL S (Yg x x.orders.length) Za).use (Wt ?_);refine gT ?_ ?_<;>intro h4<;>simp (disch:=omega) only [Sh.out h4,go_sem,seval,↓reduceIte]
    ·refine gT ?_ ?_<;>intro h5<;>simp (disch:=omega) only [Sh.out h5,go_sem,seval,↓reduceIte]
     ·grind
     grind
    grind
   grind [rightB]
  grind [rightB]
 ·simp [rightB,h1]
theorem ZnR (n:Nat) (h0:0<n) (h:n<16):PC 159 [.p (.int .u64 n)] (.int .i64 (QD n)):=by
 refine Zc Tryz.func159 rfl yJ ?_;simp (disch:=omega) only [Tryz.f159,go_sem,seval];refine (Zcc n h0 h).use ?_;simp (disch:=omega) only [go_sem,seval]
theorem Mt (n:Nat) (h0:0<n) (h:n<16):PC 107 [.p (.int .i64 n)] (.int .i64 (QD n)):=by
 refine Zc Tryz.func107 rfl xH ?_;simp (disch:=omega) only [Tryz.f107,go_sem,seval];refine cD ?_ ?_<;>intro h1<;>simp (disch:=omega) only [Sh.out h1,go_sem,seval]
 ·omega
 ·refine (ZnR n h0 h).use ?_;simp (disch:=omega) only [go_sem,seval]
def skpF (x:Inst) (i:Nat):Int:=if (XD x i).2=0/\(XE (XD x i).1).2=0 then (XE (XD x i).1).1 else-1
def Yd (ys:List Col) (i:Nat):List Col:=ys.filter fun c=>decide (QD c.set.toNat=(i:Int))
def fstF (n:Nat) (ys:List Col):List (List Col):=(List.range n).map (Yd ys)
theorem SP {ys:List Col} {k i:Nat} (h:k<ys.length):Yd (ys.take (k+1)) i=if QD (nth ys k).set.toNat=(i:Int) then Yd (ys.take k) i++ [nth ys k] else Yd (ys.take k) i:=by
 grind [Xo,Yd,nth]
theorem gV (i:Nat):Yd [] i= []:=rfl
theorem B0 (ys:List Col) (k i:Nat):(Yd (ys.take k) i).length<=ys.length:=by
 refine K9 (List.length_filter_le _ _) ?_;simp;omega
theorem Jl (ys):fstF 0 ys= []:=rfl
theorem Qn (ys):fstF 1 ys= [Yd ys 0]:=rfl
theorem Qo (ys):fstF 2 ys= [Yd ys 0,Yd ys 1]:=rfl
theorem Qp (ys):fstF 3 ys= [Yd ys 0,Yd ys 1,Yd ys 2]:=rfl
theorem Qq (ys):fstF 4 ys= [Yd ys 0,Yd ys 1,Yd ys 2,Yd ys 3]:=rfl
def B6 : List (List Col)->Nat->List V
 | [],_=> []
 | p::P,o=> .sl o 0 p.length p.length::B6 P (o+1)
def GR (P:List (List Col)):List AM.Obj:=P.map fun p=> .elems 7 (p.map Yn)
theorem SB {n0:Nat} {fr:List V} {a b c:AM.Obj} (h0:n0<=4) (n:Nat):Weak n0 fr [a,b,c,.cells (List.replicate n (.p (.list true [])))] fr (a::b::c:: .cells (B6 (List.replicate n []) 4)::GR (List.replicate n [])):=by
 have hr: ∀(k o:Nat),B6 (List.replicate k []) o=(List.range k).map fun j=>V.sl (o+j) 0 0 0:=fun k=>by
  induction k with
  | zero=>intro o;rfl
  | succ k ih =>
   intro o;rw [Qw,B6,ih,List.range_succ_eq_map,Zu,List.map_map];simp only [Zw,Vh,List.cons.injEq,true_and];apply YG
   grind
 have key: ∀k,k<=n->Weak n0 fr [a,b,c,.cells (List.replicate n (.p (.list true [])))] fr (a::b::c:: .cells (((List.range k).map fun j=>V.sl (4+j) 0 0 0)++List.replicate (n-k) (.p (.list true [])))::List.replicate k (.elems 7 [])):=fun k=>by
  induction k with
  | zero=>grind [Weak.refl]
  | succ k ih =>
   intro hk
   have h1:=(ih Za).trans (Weak.nilC (n0:=n0) (fr:=fr) (o:=3) (j:=k) 7 (by rfl) (by
    grind) (by simp;omega))
   have e1:List.length (a::b::c::AM.Obj.cells (((List.range k).map fun j=>V.sl (4+j) 0 0 0)++List.replicate (n-k) (.p (.list true [])))::List.replicate k (AM.Obj.elems 7 []))=4+k:=by simp;omega
   have e2:(((List.range k).map fun j=>V.sl (4+j) 0 0 0)++List.replicate (n-k) (V.p (.list true []))).set k (.sl (4+k) 0 0 0)=((List.range (k+1)).map fun j=>V.sl (4+j) 0 0 0)++List.replicate (n-(k+1)) (V.p (.list true [])):=by
    rw [List.set_append_right _ _ Zb,show n-k=(n-(k+1))+1 by omega,Qw,Yx,X0];simp
   grind [List.replicate_succ']
 have:=key n (Xf _)
 simp_all [GR]
def skF (x:Inst) (n:Nat):List Int:=(List.range n).map (skpF x)
def lO (x:Inst) (m:Int) (f g:V):AM.Obj:= .cells [.p (.list x.net.places_c (x.net.places.map eS)),.p (.list x.net.arcs_c (x.net.arcs.map Ud)),.p (.list x.types_c (x.types.map Uf)),.p (.list x.orders_c (x.orders.map eOrd)),.p (.list x.apart_c (x.apart.map eP)),.p (.list x.before_c (x.before.map eP)),f,g,.mp 1,.p (.int .i64 m)]
theorem JG {x:Inst} {c:Col} (h:rightB x c=true) (hs:c.set<9223372036854775808): ∃S:Nat,c.set=S/\0<S/\S<2^x.orders.length/\ ∀i,S.testBit i=true->i<x.orders.length/\(nth x.orders i).off=false:=by
 simp only [rightB,ZO,Zl] at h;obtain ⟨_,_,h3,h4,_⟩:=h
 have key: ∀i,c.set.toNat.testBit i=true->i<x.orders.length/\(nth x.orders i).off=false:=fun i hi=>by
  have h63:i<63:=by
   rcases Wh i 63 with h | h
   ·exact h
   ·have:2^63<=2^i:=Yw Za h
    grind [Ve]
  have:=Zv.1 h4 i (ZQ.2 h63)
  grind [Uq]
 refine ⟨c.set.toNat,Za,Za,?_,key⟩;refine Nat.lt_pow_two_of_testBit _ fun i hi=> ?_
 grind
theorem Zcd {S n:Nat} (h0:0<S) (h:S<2^n) (hn:n<=4):QD S<n/\0<=QD S:=by
 have:n=0\/n=1\/n=2\/n=3\/n=4:=Za
 unfold QD
 grind
theorem Fh (x:Inst) (k:Nat):skF x (k+1)=skF x k++ [skpF x k]:=by simp [skF,Yx]
theorem JI (x:Inst) (k:Nat):(skF x k).length=k:=by simp [skF]
theorem Ziq (x:Inst):skF x 0= []:=rfl
theorem eK {P:Program} {ko:List Nat} {l:List Oper} {n:Nat} {rem:List Nat} {fr:List V} {H:List AM.Obj} {K:List V->List AM.Obj->Prop} (m:Nat) (Y:V) (Z:List AM.Obj) (hr:VC l rem= [m]) (h:Zr P (ZV l m) fr H fun y H'=>y=Y/\H'=Z)
  (k:(∀k∈ko,oat Z k=oat H k)/\AB P ko l n (rem.erase m) (Y9 fr (ZV l m).dst Y) Z K):AB P ko l (n+1) rem fr H K :=
 Gu m _ hr h fun y H' hq=>by grind
theorem RO (x:Inst) (l:List Col) (lc:Bool) (hn:x.orders.length<=4) (ht:x.types.length<=1048576) (hu: ∀i:Nat,UZ 1152921504606846976 (XD x i).1) (hs: ∀c∈l,c.set<9223372036854775808) (hl:l.length<=1048576) :
  ACalls Tryz.prog 99 [.p (ZG x),.p (.list lc (l.map Yn))] [] fun y H'=>(8192<l.length/\y= .tup [.p .nilp,.p (.int .i64 4)]/\H'= [])\/(l.length<=8192/\(∃c∈l,rightB x c=false)/\y= .tup [.p .nilp,.p (.int .i64 2)]/\H'= []) \/
   (l.length<=8192/\(∀c∈l,rightB x c=true)/\ ∃ys,(Cheap l ys/\ys.length<=l.length)/\y= .tup [.ptr 2 0,.p (.int .i64 0)]/\H'= .cells (List.replicate 6 .junk)::(X2 x (.list false ((fstF x.orders.length ys).map Y2)) (.list false ((skF x x.orders.length).map eI)) (Yg x x.orders.length) []).map (shO 1)):=by
 refine Zf [10] Tryz.func99 rfl ZhG ?_;simp (disch:=omega) only [Tryz.f99,go_sem,seval];refine cD ?_ ?_<;>intro h0<;>simp (disch:=omega) only [Sh.out h0,go_sem,seval]
 ·exact ⟨_,[],wk,.inl ⟨Za,rfl,rfl⟩⟩
 ·refine Xa [1] 4 mixed Zd Zd Zd Zb (Wt ?_);refine Zp (ZbK x Za) (Wt ?_);refine ZF 1 _ _ Zd (by refine Wt ?_;exact ⟨rfl,rfl⟩) (X5 ?_);simp (disch:=omega) only [show ∀(l:List V),Qi (V.mp 1::l)=none from fun _=>rfl,Option.map_none,go_sem,seval];refine Zk [1,2,6,27,28] (fun k:Nat=> [(29,.p (.int .i64 k))]) (fun _=> [Zj x,.map [],lO x ((Yg x x.orders.length:Nat):Int) (.p (.list true [])) (.p (.list true []))]) (fun k=>k<=l.length/\ ∀j,j<k->rightB x (nth l j)=true) (fun k=>l.length-k) 0 ⟨Za,fun j hj=>Za⟩ (Weak.mk ?_) ?_
  ·simp (disch:=omega) only [Zj,lO,go_sem,seval]
  ·rintro k ⟨hk,hr⟩;simp (disch:=omega) only [Zj,lO,go_sem,seval];refine cD ?_ ?_<;>intro h1<;>simp (disch:=omega) only [Sh.out h1,go_sem,seval,↓reduceIte]
   ·have hk2:k<l.length:=Za
    refine XR (Wt ?_);refine Zp (RQ x (nth l k) (hs _ (ZD hk2)) ht) (Wt ?_)
    cases hq:rightB x (nth l k) with
    | false =>
     refine Zbx ?_;exact ⟨_,[],wk,.inr (.inl ⟨Za,⟨_,ZD hk2,hq⟩,rfl,rfl⟩)⟩
    | true =>
     refine ZbN ?_
     exact ⟨k+1,⟨Za,fun j hj=>by
      grind⟩,Za,wk⟩
   ·have hkl:k=l.length:=Za
    subst hkl
    have hall: ∀c∈l,rightB x c=true:=fun c hc=>by
     obtain ⟨j,hj,rfl⟩:=ZP.1 hc
     grind [Ze]
    clear hr hk h1;generalize ((Yg x x.orders.length:Nat):Int)=m;have hun: ∀i:Nat,PT 151 [.p (ZG x),.p (.int .i64 i)] [.p (Ar (XD x i).1),.p (.int .i64 (XD x i).2)]:=fun i=>Mb x i Za;refine U0 (DB 4 rfl rfl (Wt ?_));refine ⟨_,_,GG 205 110 _ _ x.orders.length 24 (.list true []) rfl Zd Zd Zd Zd (by rfl) Za Za (by simp (disch:=omega) only [go_sem,seval]) (by simp (disch:=omega) only [go_sem,seval]),?_⟩
    refine Wt ?_
    have h5:x.orders.length=0\/x.orders.length=1\/x.orders.length=2\/x.orders.length=3\/x.orders.length=4:=Za
    refine Zs (SB Zb x.orders.length) ?_;refine Zg [17] _ _ _ _ (Wt ?_);refine (Nv l lc Za).useV fun ys hC=>Wt ?_;obtain ⟨hC,hyl⟩:=hC;rcases h5 with h5 | h5 | h5 | h5 | h5
    all_goals
     simp (disch:=omega) only [h5,List.replicate,B6,GR,Zu,Zo,go_sem,seval];refine Zk [2,6,50,51] (fun k:Nat=> [(52,.p (.int .i64 k))]) (fun k=> [Zj x,.map [],lO x m (.sl 3 0 x.orders.length x.orders.length) (.p (.list true [])),.cells (B6 (fstF x.orders.length (ys.take k)) 4)]++GR (fstF x.orders.length (ys.take k))) (fun k=>k<=ys.length) (fun k=>ys.length-k) 0 Za (Weak.mk ?_) ?_
     ·simp (disch:=omega) only [h5,WV,gV,Zw,Jl,Qn,Qo,Qp,Qq,B6,GR,Zu,Zo,ZY,Xk,Zj,lO,go_sem,seval]
     ·intro k hk;simp (disch:=omega) only [h5,Jl,Qn,Qo,Qp,Qq,B6,GR,Zu,Zo,ZY,Xk,Zj,lO,go_sem,seval];refine cD ?_ ?_<;>intro h1<;>simp (disch:=omega) only [Sh.out h1,go_sem,seval,↓reduceIte]
      ·have hk2:k<ys.length:=Za
       obtain ⟨j,hj,hjl,_⟩:=hC.bst _ (ZD hk2)
       have hmem:nth ys k∈l:=by rw [<- hjl];exact ZD hj
       obtain ⟨S,hS,hS0,hS1,hS2⟩:=JG (hall _ hmem) (hs _ hmem);have hlt:=Zcd hS0 hS1 hn;have h16:S<16:=UJ hS1 (by rw [h5];decide)
       have cl:PC 107 [.p (.int .i64 (nth ys k).set)] (.int .i64 (QD (nth ys k).set.toNat)):=by
        rw [hS];exact Mt S hS0 h16
       refine (cl).use ?_;simp (disch:=omega) only [go_sem,seval]
       have htz:QD (nth ys k).set.toNat=QD S:=by rw [hS];rfl
       have hi:QD (nth ys k).set.toNat=0\/QD (nth ys k).set.toNat=1\/QD (nth ys k).set.toNat=2\/QD (nth ys k).set.toNat=3:=Za
       rcases hi with hi | hi | hi | hi
       all_goals try omega
       all_goals
        simp (disch:=omega) only [hi,go_sem,seval];refine AO [14] [1,2,3] [2] 15 mixed Zd Zd Zd Zd Zb ?_;simp (disch:=omega) only [go_sem,seval,↓reduceIte];refine ⟨fun q hq p' hp=> ?_,?_⟩
        ·simp only [Xs,Ui,or_false] at hq;rcases hq with rfl | rfl | rfl
         ·obtain rfl:59=p':=UO hp;exact Up (by decide)
         ·obtain rfl:60=p':=UO hp;exact Up (by decide)
         ·obtain rfl:61=p':=UO hp;exact Up (by decide)
        ·have q0:=B0 ys k 0;have q1:=B0 ys k 1;have q2:=B0 ys k 2;have q3:=B0 ys k 3;refine eK 14 _ _ Zd (by simp (disch:=omega) only [go_sem,seval,↓reduceIte];exact ⟨rfl,rfl⟩) ?_;refine ⟨fun k hk=>by simp at hk;subst hk;rfl,Pu ?_⟩;simp (disch:=omega) only [go_sem,seval];exact ⟨k+1,Za,Za,Weak.mk (by simp (disch:=omega) only [h5,SP hk2,hi,X0,Zn,ZH,Zw,XJ,Qn,Qo,Qp,Qq,B6,Zu,Zo,go_sem,seval,↓reduceIte])⟩
      ·have hkl:k=ys.length:=Za
       subst hkl;clear hk h1
       try refine Zs (Weak.fz (o:=4) (by rfl)) ?_
       try refine Zs (Weak.fz (o:=5) (by rfl)) ?_
       try refine Zs (Weak.fz (o:=6) (by rfl)) ?_
       try refine Zs (Weak.fz (o:=7) (by rfl)) ?_
       refine Zg [17] _ _ _ _ ?_;simp (disch:=omega) only [X7,Zu,Zo,Xr,Yf,eq_self,go_sem,seval,↓reduceIte];refine Zs (Weak.fzC (o:=3) (ys:=(fstF x.orders.length ys).map Y2) (by rw [h5];rfl) (fun y hy=>by obtain ⟨p,_,rfl⟩:=Xg.1 hy;rfl)) ?_;refine Zg [17] _ _ _ _ ?_;simp (disch:=omega) only [h5,Jl,Qn,Qo,Qp,Qq,Zu,Zo,Xr,Yf,ZH,Zw,XJ,Nat.reduceAdd,eq_self,go_sem,seval,↓reduceIte]
       refine Zg [28] _ _ _ _ ?_;simp (disch:=omega) only [go_sem,seval,↓reduceIte];refine Zk [2,6,78] (fun k:Nat=> [(79,.p (.int .i64 k))]) (fun k=> [Zj x,.map [],lO x m (.p (.list false ((fstF x.orders.length ys).map Y2))) (.sl (4+x.orders.length) 0 k k),.dead]++List.replicate x.orders.length .dead++ [.elems 1 ((skF x k).map eI)]) (fun k=>k<=x.orders.length) (fun k=>x.orders.length-k) 0 Za ((Weak.nilC (o:=2) (j:=7) 1 (by rfl) (by rfl) Zb).trans (Weak.mk ?_)) ?_
       ·simp (disch:=omega) only [h5,Ziq,List.replicate,Xr,Yf,ZH,Zw,XJ,Nat.reduceAdd,Jl,Qn,Qo,Qp,Qq,Zu,Zo,ZY,Xk,Zj,lO,go_sem,seval]
       ·intro k hk;simp (disch:=omega) only [h5,List.replicate,Nat.reduceAdd,Jl,Qn,Qo,Qp,Qq,Zu,Zo,ZY,Xk,Zj,lO,go_sem,seval];refine cD ?_ ?_<;>intro h1<;>simp (disch:=omega) only [Sh.out h1,go_sem,seval,↓reduceIte]
        ·have hk2:k<x.orders.length:=Za
         refine Dx (hun k) ?_;simp (disch:=omega) only [go_sem,seval,↓reduceIte];refine cD ?_ ?_<;>intro h2<;>simp (disch:=omega) only [Sh.out h2,go_sem,seval,↓reduceIte]
         ·refine Dx (GH _ (hu k)) ?_;simp (disch:=omega) only [go_sem,seval];refine cD ?_ ?_<;>intro h3<;>simp (disch:=omega) only [Sh.out h3,go_sem,seval,↓reduceIte]
          ·have hsk:skpF x k=(XE (XD x k).1).1:=by simp [skpF,h2,h3]
           simp (disch:=omega) only [JI,go_sem,seval];rw [if_pos ⟨Za,Za⟩];simp (disch:=omega) only [JI,Zx,Zn,ZH,Zw,XJ,eq_self,BB,go_sem,seval];exact ⟨k+1,Za,Za,Weak.mk (by simp (disch:=omega) only [h5,Fh,hsk,X0,List.replicate,Nat.reduceAdd,Jl,Qn,Qo,Qp,Qq,Zu,Zo,ZY,Xk,go_sem,seval])⟩
          ·have hsk:skpF x k= -1:=by simp [skpF,h3]
           simp (disch:=omega) only [JI,go_sem,seval];rw [if_pos ⟨Za,Za⟩];simp (disch:=omega) only [JI,Zx,Zn,ZH,Zw,XJ,eq_self,BB,go_sem,seval];exact ⟨k+1,Za,Za,Weak.mk (by simp (disch:=omega) only [h5,Fh,hsk,X0,List.replicate,Nat.reduceAdd,Jl,Qn,Qo,Qp,Qq,Zu,Zo,ZY,Xk,go_sem,seval])⟩
         ·have hsk:skpF x k= -1:=by simp [skpF,h2]
          simp (disch:=omega) only [JI,go_sem,seval];rw [if_pos ⟨Za,Za⟩];simp (disch:=omega) only [JI,Zx,Zn,ZH,Zw,XJ,eq_self,BB,go_sem,seval];exact ⟨k+1,Za,Za,Weak.mk (by simp (disch:=omega) only [h5,Fh,hsk,X0,List.replicate,Nat.reduceAdd,Jl,Qn,Qo,Qp,Qq,Zu,Zo,ZY,Xk,go_sem,seval])⟩
        ·have hkl:k=x.orders.length:=Za
         clear hk h1;refine Zs (Weak.fz (o:=4+x.orders.length) (S:=1) (xs:=(skF x k).map eI) (by rw [h5];rfl)) ?_;refine Zg [] _ _ _ _ ?_;simp (disch:=omega) only [h5,Zu,Zo,Xr,Yf,Zx,JI,Nat.reduceAdd,eq_self,go_sem,seval,↓reduceIte];exact ⟨.tup [.ptr 2 0,.p (.int .i64 0)],_,Weak.mk (by simp (disch:=omega) only [hkl,h5,X2,YT,shO,shVs,shV,Jl,Qn,Qo,Qp,Qq,Zu,Zo,go_sem,seval]),.inr (.inr ⟨Za,hall,ys,⟨hC,hyl⟩,rfl,rfl⟩)⟩
theorem Zce : ∀S:Fin 16,0<S.val->sHas (S.val:Int) (QD S.val)=true:=by decide+kernel
theorem iO {x:Inst} (hx:InstOk x) (i:Nat): -1<=skpF x i/\skpF x i<=18014398509481984:=by
 unfold skpF
 split
 ·rename_i h
  have hm:(XD x i).1.cost<=1000000/\(XD x i).1.moved<=1/\0<=(XD x i).1.moved/\(XD x i).1.other=0/\(XD x i).1.work=0:=by
   unfold XD
   split
   ·simp [zSco]
   ·split
    ·simp [zSco]
    ·split
     ·simp [zSco]
     ·have ha:=(hx.orders.2 (i:Int).toNat Za).arg;simp only [argOk,rng,ZO,Zl] at ha
      grind
  obtain ⟨_,h2⟩:=h;unfold XE at h2 ⊢
  grind
 ·omega
theorem OT {x:Inst} {l ys:List Col} (hx:InstOk x) (hn:x.orders.length<=4) (hC:Cheap l ys) (hr: ∀c∈l,rightB x c=true) (hs: ∀c∈l,c.set<9223372036854775808):ChOk x.orders.length x (fstF x.orders.length ys) (skF x x.orders.length):=by
 refine ⟨fun i hi c hc=> ?_,?_,fun i hi=> ?_⟩
 ·have e:nth (fstF x.orders.length ys) i=Yd ys i:=by
   grind [fstF,Ze]
  rw [e,Yd,Vf] at hc;obtain ⟨h1,h2⟩:=hc;simp only [Zl] at h2;obtain ⟨j,hj,hjl,_⟩:=hC.bst c h1
  have hm:c∈l:=by grind [ZD]
  obtain ⟨S,q1,q2,q3,_⟩:=JG (hr c hm) (hs c hm);have h16:S<16:=UJ q3 (Yw (n:=2) Za hn);have hb:=Zce ⟨S,h16⟩ q2;have hr1:=hr c hm;simp only [rightB,ZO,Zl] at hr1
  grind
 ·have ht:=hx.types;simp only [typesOk,rng,Zl] at ht;refine ⟨Za,fun t _=> ?_⟩;rcases Wh t x.types.length with h | h
  ·have:=ht.2 t h;unfold AG at this;have:=this.1.1.1.1.1.1.2;simp only [rng,Zl] at this;omega
  ·rw [show nth x.types t=default from by grind [nth]]
   decide
 simp_all [skF,Ze,iO]
def zSt : St:=⟨0,0,[0,0,0,0,0,0]⟩
def HW (x:Inst) (ys:List Col):Int:=YU x.orders.length ((Yg x x.orders.length:Nat):Int) x (fstF x.orders.length ys) (skF x x.orders.length) 20 (W5 x.orders.length ((Yg x x.orders.length:Nat):Int) zSt)
theorem tQ (n:Nat):StV n zSt:=⟨rfl,⟨by decide,by simp [zSt]⟩,⟨0,rfl,Za⟩,fun j hj=>by
 have:nth zSt.used j=0:=by
  have:j=0\/j=1\/j=2\/j=3\/j=4\/j=5:=Za
  rcases this with rfl | rfl | rfl | rfl | rfl | rfl<;>rfl
 omega⟩
def kp (c:Col):Int×Int×Int:=(c.typ,c.set,c.price)
theorem Fj {α:Type} {r:α->α->Prop} (irr: ∀a,¬r a a) (asy: ∀a b,r a b-> ¬r b a): ∀ {l l':List α},l.Pairwise r->l'.Pairwise r->(∀a,a∈l↔a∈l')->l=l'
 | [],[],_,_,_=>rfl
 | [],b::_,_,_,h=>by have:=(h b).2 Zb;simp at this
 | a::_,[],_,_,h=>by have:=(h a).1 Zb;simp at this
 | a::l,b::l',h1,h2,h=>by
  rw [List.pairwise_cons] at h1 h2
  have hab:a=b:=by
   rcases Xs.1 ((h a).1 Zb) with e | e
   ·exact e
   ·rcases Xs.1 ((h b).2 Zb) with e' | e'
    ·exact e'.symm
    ·exact absurd (h1.1 b e') (asy _ _ (h2.1 a e))
  subst hab
  rw [Fj irr asy h1.2 h2.2 fun c=>⟨fun hc=>by
   rcases Xs.1 ((h c).1 (Yv _ hc)) with e | e
   ·subst e;exact absurd (h1.1 c hc) (irr c)
   ·exact e,fun hc=>by
   rcases Xs.1 ((h c).2 (Yv _ hc)) with e | e
   ·subst e;exact absurd (h2.1 c hc) (irr c)
   ·exact e⟩]
theorem aS {l ys:List Col} (h:Cheap l ys) {c:Col} (hc:c∈l): ∃d∈ys,kd d=kd c/\d.price<=c.price:=by
 obtain ⟨d,hd,e⟩:=h.all c hc;obtain ⟨j,hj,rfl⟩:=ZP.1 hc;obtain ⟨i,hi,_,h3⟩:=h.bst d hd
 grind [Ze]
theorem aR {l ys:List Col} (h:Cheap l ys) {d:Col} (hd:d∈ys):d∈l:=by
 obtain ⟨j,hj,e,_⟩:=h.bst d hd
 grind [ZD]
theorem LY {n i:Nat} {ys:List Col} :nth (fstF n ys) i=if i<n then Yd ys i else []:=by
 split
 ·grind [fstF,Ze]
 ·rename_i h;rw [nth,Jy,List.getElem?_eq_none (by simp [fstF];omega)];rfl
def TF (a b:Int):Prop:=b<0\/(0<=a/\a<=b)
theorem Pa {x:Inst} {s:St} {r:Col->Int} (hr: ∀c,-1<=r c): ∀ {l:List Col} {a:Int},(∀c∈l,0<=c.price) ->
  TF (l.foldl (fun o c=>if Yt x s c=true then YJ o c.price (r c) else o) a) a/\ ∀c∈l,Yt x s c=true->0<=r c->TF (l.foldl (fun o c=>if Yt x s c=true then YJ o c.price (r c) else o) a) (c.price+r c)
 | [],a,_=>⟨by grind [TF],fun c hc=>by simp at hc⟩
 | d::l,a,hp=>by
  have hd:=hp d Zb;obtain ⟨g1,g2⟩:=Pa (x:=x) (s:=s) hr (l:=l) (a:=if Yt x s d=true then YJ a d.price (r d) else a) fun c hc=>hp c (Yv _ hc);rw [Yp];generalize l.foldl (fun o c=>if Yt x s c=true then YJ o c.price (r c) else o) (if Yt x s d=true then YJ a d.price (r d) else a)=M at g1 g2;refine ⟨?_,fun c hc hy h0=> ?_⟩
  ·grind [TF,YJ]
  ·rcases Xs.1 hc with rfl | hc
   ·rw [if_pos hy] at g1
    grind [TF,YJ]
   grind
theorem Gk {x:Inst} {s:St} {r:Col->Int} : ∀ {l:List Col} {a:Int},l.foldl (fun o c=>if Yt x s c=true then YJ o c.price (r c) else o) a=a\/ ∃c∈l,Yt x s c=true/\0<=r c/\l.foldl (fun o c=>if Yt x s c=true then YJ o c.price (r c) else o) a=c.price+r c
 | [],a=> .inl rfl
 | d::l,a=>by
  rw [Yp];rcases Gk (x:=x) (s:=s) (r:=r) (l:=l) (a:=if Yt x s d=true then YJ a d.price (r d) else a) with h | ⟨c,h1,h2,h3,h4⟩
  ·rw [h]
   split
   ·rename_i hy;unfold YJ
    split
    ·grind
    omega
   omega
  grind
abbrev Cm := { c:Col // ∃S:Nat,c.set=S/\0<S/\S<16 }
instance : Inhabited Cm := ⟨⟨⟨0, 1, 0, default⟩, 1, rfl, by decide, by decide⟩⟩
def lo (c:Col):Int:=QD c.set.toNat
def lU (a b:Col):Int:=oE [Qm a.typ b.typ,Qm (lo a) (lo b)]
theorem Ql {a b:Col} :lU a b<0↔a.typ<b.typ\/(a.typ=b.typ/\lo a<lo b):=by
 grind [lU,H8,bE,bD]
def vW (a b:Cm):Int:=lU a.val b.val
theorem lW : Go.Sort.SWO (ltOf vW) where
 irrefl x:=by grind [ltOf,vW,Ql]
 trans x y z h1 h2:=by simp only [ltOf,vW,Zl,Ql] at *;omega
 ntrans x y z h1 h2:=by grind [ltOf,vW,Ql]
theorem ZhQ (c:Cm):PC 107 [.p (.int .i64 c.val.set)] (.int .i64 (lo c.val)):=by
 obtain ⟨c,S,h1,h2,h3⟩:=c
 grind [lo,Mt]
theorem RR (a b:Cm):PC 104 [.p (Yn a.val),.p (Yn b.val)] (.int .i64 (vW a b)):=by
 refine Zc Tryz.func104 rfl xE ?_;simp (disch:=omega) only [Tryz.f104,go_sem,seval];refine XR (Wt ?_);refine Zp (Ga a.val.typ b.val.typ) (Wt ?_);refine Zp (ZhQ a) (Wt ?_);refine Zp (ZhQ b) (Wt ?_);refine Zp (Ga (lo a.val) (lo b.val)) (Wt ?_);refine Zp (ZbH [Qm a.val.typ b.val.typ,Qm (lo a.val) (lo b.val)] false Zb) (Wt ?_)
 rfl
theorem pP (xs:List Cm) (hl:xs.length<=1048576) {H:List AM.Obj} {o:Nat} (hH:H[o]? =some (.elems 7 (xs.map fun c=>Yn c.val))) :
  ACalls Tryz.prog 103 [.sl o 0 xs.length xs.length,.fn (.func 104) [] []] H fun y H'=>y= .tup []/\ ∃ys:List Cm,ys.Perm xs/\ys.Pairwise (fun a b=> ¬vW b a<0)/\H'=H.set o (.elems 7 (ys.map fun c=>Yn c.val)) :=
 ACalls.sortFunc MB dQ 7 Tryz.isAgg158 Tryz.sizeOf158 (fun c:Cm=>Yn c.val) (fun x=>⟨_,rfl,rfl,rfl⟩) vW lW 104 RR xs Za hH
theorem CQ {n:Nat} {m:Int} {x:Inst} {fst:List (List Col)} {sk:List Int} : ∀(d:Nat) (s:St),∀c∈(Yi n m x fst sk d s).1,∃i,i<fst.length/\c∈nth fst i
 | 0,s,c,h=>by simp [Yi] at h
 | d+1,s,c,h=>by
  rw [Yi] at h
  split at h
  ·simp at h
  ·split at h
   ·rename_i c' hf;simp only [Xs] at h;rcases h with rfl | h
    ·refine ⟨s.ix.toNat,?_,Vv hf⟩;rcases Wh s.ix.toNat fst.length with h | h
     ·exact h
     ·rw [show nth fst s.ix.toNat= [] from by simp [nth,Jy,List.getElem?_eq_none h];rfl] at hf;simp at hf
    ·exact CQ d _ c h
   ·exact CQ d _ c h
def zPlC : Pln:=⟨true,[],true,[]⟩
def ChoR (x:Inst) (l:List Col) (p:Pln) (c e:Int):Prop:=(8192<l.length/\p=zPlC/\c=0/\e=4)\/(l.length<=8192/\(∃c∈l,rightB x c=false)/\p=zPlC/\c=0/\e=2) \/
 (l.length<=8192/\(∀c∈l,rightB x c=true)/\ ∃ys,Cheap l ys/\ys.length<=l.length/\((HW x ys<0/\p=zPlC/\c=0/\e=24)\/(0<=HW x ys/\c=HW x ys/\e=0 /\
  ∃zs:List Col,zs.Perm (Yi x.orders.length ((Yg x x.orders.length:Nat):Int) x (fstF x.orders.length ys) (skF x x.orders.length) 20 (W5 x.orders.length ((Yg x x.orders.length:Nat):Int) zSt)).1/\zs.Pairwise (fun a b=> ¬lU b a<0) /\
   p=⟨false,zs.map (·.route),false,(Yi x.orders.length ((Yg x x.orders.length:Nat):Int) x (fstF x.orders.length ys) (skF x x.orders.length) 20 (W5 x.orders.length ((Yg x x.orders.length:Nat):Int) zSt)).2⟩)))
theorem CP {n:Nat} {m:Int} {x:Inst} {fst:List (List Col)} {sk:List Int} : ∀(d:Nat) (s:St),(Yi n m x fst sk d s).1.length<=d/\(Yi n m x fst sk d s).2.length<=d
 | 0,s=>by simp [Yi]
 | d+1,s=>by
  rw [Yi]
  split
  ·simp
  ·split
   ·rename_i c' hf;have:=CP (n:=n) (m:=m) (x:=x) (fst:=fst) (sk:=sk) d (Vn n m s c');simp;omega
   ·have:=CP (n:=n) (m:=m) (x:=x) (fst:=fst) (sk:=sk) d (CL n m s);simp;omega
theorem SN (x:Inst) (l:List Col) (lc:Bool) (hx:InstOk x) (hn:x.orders.length<=4) (ht:x.types.length<=1048576) (hs: ∀c∈l,c.set<9223372036854775808) (hl:l.length<=1048576) :
  ACalls Tryz.prog 64 [.p (ZG x),.p (.list lc (l.map Yn))] [] fun y H'=> ∃p c e,ChoR x l p c e/\y= .tup [.p (Ue p),.p (.int .i64 c),.p (.int .i64 e)]/\H'= []:=by
 refine Zf [16] Tryz.func64 rfl Zhw ?_;simp (disch:=omega) only [Tryz.f64,go_sem,seval];refine ((RO x l lc hn ht (fun i=>YX Za (Fo hx _)) hs hl).behind (by rfl) _).mono ?_;rintro y H' ⟨y1,H1,hq,rfl,rfl⟩;rcases hq with ⟨h1,rfl,rfl⟩ | ⟨h1,h2,rfl,rfl⟩ | ⟨h1,h2,ys,⟨hC,hyl⟩,rfl,rfl⟩
 ·simp (disch:=omega) only [shV,shVs,Zo,go_sem,seval];exact ⟨.tup [.p (Ue zPlC),.p (.int .i64 0),.p (.int .i64 4)],[],Weak.mk (by simp (disch:=omega) only [zPlC,Zo,go_sem,seval]),_,_,_,Or.inl ⟨h1,rfl,rfl,rfl⟩,rfl,rfl⟩
 ·simp (disch:=omega) only [shV,shVs,Zo,go_sem,seval];exact ⟨.tup [.p (Ue zPlC),.p (.int .i64 0),.p (.int .i64 2)],[],Weak.mk (by simp (disch:=omega) only [zPlC,Zo,go_sem,seval]),_,_,_,Or.inr (Or.inl ⟨h1,h2,rfl,rfl,rfl⟩),rfl,rfl⟩
 ·have hok:=OT hx hn hC h2 hs
  have hcl: ∀r∈fstF x.orders.length ys,r.length<=1048576:=fun r hr=>by
   obtain ⟨p,_,rfl⟩:=Xg.1 hr
   grind [Yd]
  obtain ⟨m,hm⟩: ∃m:Int,m=((Yg x x.orders.length:Nat):Int):=⟨_,rfl⟩;obtain ⟨B,hB⟩: ∃B,B=HW x ys:=⟨_,rfl⟩;simp (disch:=omega) only [shV,shVs,shO,X2,YT,Zu,Zo,List.replicate,ZY,Xk,go_sem,seval];rw [<- hm];refine ACalls.mono ((Ff x (.list false ((fstF x.orders.length ys).map Y2)) (.list false ((skF x x.orders.length).map eI)) m [] zSt rfl (by decide) Za (by decide)).back [Zj x,.cells [.p (.list true []),.p (.list true [])],.cells (List.replicate 6 .junk)] (by rfl)) ?_;rintro y H' ⟨y1,H1,⟨rfl,rfl⟩,rfl,rfl⟩;obtain ⟨v1,_⟩:=Is (m:=m) (tQ x.orders.length)
  have hrg:=VL (m:=m) hok 20 _ v1
  have hbb:B=YU x.orders.length m x (fstF x.orders.length ys) (skF x x.orders.length) 20 (W5 x.orders.length m zSt):=by rw [hB,HW,hm]
  rw [<- hbb] at hrg;obtain ⟨R,hR⟩: ∃R,R=Yi x.orders.length m x (fstF x.orders.length ys) (skF x x.orders.length) 20 (W5 x.orders.length m zSt):=⟨_,rfl⟩;obtain ⟨i,w,b0,b1,b2,b3,b4,b5,hw⟩:=YA v1.len;have hRr:=hR;rw [hw] at hbb v1 hR ⊢;simp (disch:=omega) only [shV,shVs,shO,X2,YT,Zu,Zo,List.replicate,ZY,Xk,go_sem,seval];have c3:=((DC x (fstF x.orders.length ys) (skF x x.orders.length) false false m Za (by simp [fstF]) (by simp [skF]) hok hcl 20 ⟨i,w,[b0,b1,b2,b3,b4,b5]⟩ [] Za v1 (by have:=v1.ix;omega) (fun p hp=>by simp at hp)).mono (fun y H' hq=>(⟨hq,by obtain ⟨l',_,_,rfl⟩:=hq;rfl⟩:_/\H'.length=(X2 x (.list false ((fstF x.orders.length ys).map Y2)) (.list false ((skF x x.orders.length).map eI)) m []).length))).front (by rfl) (by rfl) [KB ⟨i,w,[b0,b1,b2,b3,b4,b5]⟩]
  refine ACalls.mono (c3.back [Zj x,.cells [.p (.list true []),.p (.list true [])],.cells (List.replicate 6 .junk)] (by rfl)) ?_;rintro y H' ⟨y1,H1,⟨H2,⟨l',hl',rfl,rfl⟩,rfl⟩,rfl,rfl⟩;rw [<- hbb];simp (disch:=omega) only [shV,shVs,shO,X2,YT,KB,Zu,Zo,List.replicate,ZY,Xk,go_sem,seval];refine cD ?_ ?_<;>intro h3<;>simp (disch:=omega) only [Sh.out h3,go_sem,seval,↓reduceIte]
  ·exact ⟨.tup [.p (Ue zPlC),.p (.int .i64 0),.p (.int .i64 24)],[],Weak.mk (by simp (disch:=omega) only [zPlC,Zo,go_sem,seval]),_,_,_,Or.inr (Or.inr ⟨h1,h2,ys,hC,hyl,Or.inl ⟨Za,rfl,rfl,rfl⟩⟩),rfl,rfl⟩
  ·refine ACalls.mono ((ZbM (KB ⟨i,w,[b0,b1,b2,b3,b4,b5]⟩) (by intro H n;simp (disch:=omega) only [KB,Zu,Zo,go_sem,seval]) (by intro o xs;rfl) x (fstF x.orders.length ys) (skF x x.orders.length) false false m Za (by simp [fstF]) (by simp [skF]) hok hcl ⟨i,w,[b0,b1,b2,b3,b4,b5]⟩ l' v1 hl').back [Zj x,.cells [.p (.list true []),.p (.list true [])],.cells (List.replicate 6 .junk)] (by rfl)) ?_;rintro y H' ⟨y1,H1,⟨l2,A,U,hl2,hAU,rfl,rfl⟩,rfl,rfl⟩;rw [<- hR] at hAU;have hlen:=CP (n:=x.orders.length) (m:=m) (x:=x) (fst:=fstF x.orders.length ys) (sk:=skF x x.orders.length) 20 (W5 x.orders.length m zSt)
   rw [<- hRr,<- hAU] at hlen
   have hA: ∀c∈A,∃S:Nat,c.set=S/\0<S/\S<16:=fun c hc=>by
    have hc':c∈(Yi x.orders.length m x (fstF x.orders.length ys) (skF x x.orders.length) 20 (W5 x.orders.length m zSt)).1:=by grind
    obtain ⟨j,hj,hm2⟩:=CQ _ _ _ hc'
    have e:nth (fstF x.orders.length ys) j=Yd ys j:=by
     grind [fstF,Ze]
    rw [e,Yd,Vf] at hm2;obtain ⟨q,hq,hql,_⟩:=hC.bst c hm2.1
    have hmem:c∈l:=by grind [ZD]
    obtain ⟨S,q1,q2,q3,_⟩:=JG (h2 c hmem) (hs c hmem);exact ⟨S,q1,q2,UJ q3 (Yw (n:=2) Za hn)⟩
   obtain ⟨L,hL⟩: ∃L:List Cm,L.map Subtype.val=A:=⟨A.pmap (fun c h=>⟨c,h⟩) hA,by simp [List.map_pmap]⟩;subst hL
   have hLl:(L.map Subtype.val).length=L.length:=Zb
   have hLe:(L.map Subtype.val).map Yn=L.map fun c=>Yn c.val:=Zb
   simp only at hlen;rw [hLl] at hlen;simp (disch:=omega) only [shV,shVs,shO,X2,YT,KB,Zu,Zo,List.replicate,ZY,Xk,hLl,hLe,go_sem,seval];refine ((pP L Za (H:=_) (o:=7) rfl)).mono ?_;rintro y H' ⟨rfl,zs,hp,hsr,rfl⟩;have hzl:zs.length=L.length:=hp.length_eq;rw [<- hzl] at hlen ⊢;simp (disch:=omega) only [Xr,Yf,go_sem,seval];obtain ⟨Z,hZ⟩: ∃Z,Z=zs.map Subtype.val:=⟨_,rfl⟩
   have hZl:Z.length=zs.length:=by rw [hZ];simp
   have hZe:Z.map Yn=zs.map fun c=>Yn c.val:=by rw [hZ];simp
   rw [<- hZl] at hlen ⊢
   have htl: ∀k,k<=Z.length->(Z.take k).length=k:=fun k hk=>by simp;omega
   refine Zk [4,10,13,45,46] (fun k:Nat=> [(47,.p (.int .i64 k))]) (fun k=> [Zj x,.cells [.p (.list true []),.p (.list true [])],.cells (List.replicate 6 .junk),.map (l2.map (Lh As)),shO 3 (YT x (.list false ((fstF x.orders.length ys).map Y2)) (.list false ((skF x x.orders.length).map eI)) m),KB ⟨i,w,[b0,b1,b2,b3,b4,b5]⟩,.cells (List.replicate 8 .junk),.elems 7 (Z.map Yn),.cells [.sl 9 0 k k,.p (.list false (U.map eI))],.elems 4 ((Z.take k).map fun c=>Wc c.route)]) (fun k=>k<=Z.length) (fun k=>Z.length-k) 0 Za ((Weak.nilC (o:=8) (j:=0) 4 (by rfl) (by rfl) Zb).trans (Weak.mk ?_)) ?_
   ·simp (disch:=omega) only [hZe,WV,Xr,Yf,ZH,Zw,XJ,Nat.reduceAdd,shV,shVs,shO,YT,KB,Zu,Zo,List.replicate,ZY,Xk,Zj,go_sem,seval]
   ·intro k hk;simp (disch:=omega) only [shV,shVs,shO,YT,KB,Zu,Zo,List.replicate,Zj,go_sem,seval];refine cD ?_ ?_<;>intro h4<;>simp (disch:=omega) only [Sh.out h4,go_sem,seval,↓reduceIte]
    ·have hk2:k<Z.length:=Za
     simp (disch:=first | omega | (simp only [ZH,Zw,Zn,Zx,ZC,ZK]<;>omega)) only [Wq hk2,hk2,go_sem,seval,↓reduceIte]
     have hsc:Z.take (k+1)=Z.take k++ [nth Z k]:=by rw [Xo hk2,Ze hk2]
     rw [if_pos ⟨htl k hk,Za,Za⟩];simp (disch:=omega) only [htl k hk,Zx,Zn,ZH,Zw,XJ,eq_self,BB,go_sem,seval];exact ⟨k+1,Za,Za,Weak.mk (by simp (disch:=omega) only [hsc,X0,Zu,Zo,go_sem,seval])⟩
    ·have hkl:k=Z.length:=Za
     subst hkl;refine Zs (Weak.fz (o:=9) (by rfl)) ?_;refine Zg [] _ _ _ _ ?_;simp (disch:=omega) only [Zu,Zo,Xr,Yf,X7,go_sem,seval];exact ⟨.tup [.p (Ue ⟨false,Z.map (·.route),false,U⟩),.p (.int .i64 B),.p (.int .i64 0)],[],Weak.mk (by simp (disch:=omega) only [List.map_map,Function.comp_def,go_sem,seval]),_,_,_,Or.inr (Or.inr ⟨h1,h2,ys,hC,hyl,Or.inr ⟨Za,hB,rfl,Z,by grind,by rw [hZ];exact List.pairwise_map.2 hsr,by grind⟩⟩),rfl,rfl⟩
def ZlO (x:Inst) (l:List Col) (a e:Int):Prop:=(8192<l.length/\a=0/\e=4)\/(l.length<=8192/\(∃c∈l,rightB x c=false)/\a=0/\e=2) \/
 (l.length<=8192/\(∀c∈l,rightB x c=true)/\ ∃ys,Cheap l ys/\a=(if HW x ys<0 then 0 else HW x ys)/\e=(if HW x ys<0 then 24 else 0))
def ky (l:List Col) (a:Int):Int×Int×Int:=if a<0 then (1,0,0) else (0,(nth l a.toNat).typ,(nth l a.toNat).set)
def eG (a b:Int×Int×Int):Prop:=a.1<b.1\/(a.1=b.1/\(a.2.1<b.2.1\/(a.2.1=b.2.1/\a.2.2<b.2.2)))
def KE (n:Nat) (l:List Col) (a b:List Int):Prop:= ∀t,t<n->ky l (nth a t)=ky l (nth b t)/\nth a t<=nth b t
def KL (n:Nat) (l:List Col) (a b:List Int):Prop:=(∃i,i<n/\(∀t,t<i->ky l (nth a t)=ky l (nth b t))/\eG (ky l (nth a i)) (ky l (nth b i)))\/KE n l a b
def mI (x:Inst):Int:=((Yg x x.orders.length:Nat):Int)
theorem EI {x:Inst} (hn:x.orders.length<=4) {k:Nat} (hk:k<x.orders.length):sHas (mI x) k= !(nth x.orders k).off:=by
 grind [mI,Wk,Uq]
theorem Bk {n:Nat} {s:St} (h:StV n s) {k:Nat} (hk:k<=62):sHas s.cov k=s.cov.toNat.testBit k:=by
 obtain ⟨C,hC,_⟩:=h.cov
 grind [Wk]
structure Ctx (x:Inst) (l ys:List Col):Prop where
 n4:x.orders.length<=4
 t6:x.types.length<=6
 ch:Cheap l ys
 rt: ∀c∈l,rightB x c=true
 st: ∀c∈l,c.set<9223372036854775808
 ok:ChOk x.orders.length x (fstF x.orders.length ys) (skF x x.orders.length)
 sk: ∀k,k<x.orders.length->(nth x.orders k).off=false->(0<=(nth x.orders k).penalty↔0<=skpF x k)/\(0<=skpF x k->skpF x k=skR x k)
theorem Zbv : ∀S:Fin 16,0<S.val-> ∀k:Fin 4,(QD S.val=(k.val:Int)↔(S.val.testBit k.val=true/\ ∀i:Fin 4,i.val<k.val->S.val.testBit i.val=false)):=by decide+kernel
theorem CZ {S n k:Nat} (hS:0<S) (h:S<2^n) (hn:n<=4) (hk:k<n):QD S=(k:Int)↔(S.testBit k=true/\ ∀i,i<n->S.testBit i=true->k<=i):=by
 have h16:S<16:=UJ h (Yw (n:=2) Za hn);rw [show QD S=(k:Int)↔_ from Zbv ⟨S,h16⟩ hS ⟨k,Za⟩];refine and_congr_right fun _=>⟨fun g i hi hb=> ?_,fun g i hi=> ?_⟩
 ·rcases Wh i k with h1 | h1
  ·have:=g ⟨i,Za⟩ h1
   grind
  ·exact h1
 grind
theorem Ctx.set {x:Inst} {l ys:List Col} (h:Ctx x l ys) {c:Col} (hc:c∈l):c.set=(c.set.toNat:Int)/\0<c.set.toNat/\c.set.toNat<2^x.orders.length/\ ∀i,c.set.toNat.testBit i=true->i<x.orders.length/\(nth x.orders i).off=false:=by
 obtain ⟨S,h1,h2,h3,h4⟩:=JG (h.rt c hc) (h.st c hc)
 grind
theorem Ctx.typ {x:Inst} {l ys:List Col} (h:Ctx x l ys) {c:Col} (hc:c∈l):(0<=c.typ/\c.typ<x.types.length)/\0<=c.price:=by
 have:=h.rt c hc;simp only [rightB,ZO,Zl] at this;omega
structure Nd (x:Inst) (l:List Col) (a:List Int) (s:St) (k:Nat):Prop where
 len:a.length=x.orders.length
 ix:s.ix=k
 v:StV x.orders.length s
 cov: ∀i,i<x.orders.length->s.cov.toNat.testBit i=decide (0<=nth a i)
 rng: ∀i,i<x.orders.length-> -1<=nth a i/\nth a i<l.length
 used: ∀T:Nat,T<6->nth s.used T=usdI l a T x.orders.length
 grp: ∀i,i<x.orders.length->0<=nth a i-> ∀t,t<x.orders.length->(nth l (nth a i).toNat).set.toNat.testBit t=true->nth a t=nth a i
 old: ∀i,i<x.orders.length->k<=i->0<=nth a i-> ∃t,t<k/\(nth l (nth a i).toNat).set.toNat.testBit t=true
 own: ∀i,i<x.orders.length->0<=nth a i->(nth l (nth a i).toNat).set.toNat.testBit i=true
def DS (s:St):St:= { s with ix:=s.ix+1 }
def Ad (s:St) (c:Col):St:=⟨s.ix+1,((s.cov.toNat|||c.set.toNat:Nat):Int),s.used.set c.typ.toNat (nth s.used c.typ.toNat+1)⟩
theorem Nd.skip {x:Inst} {l:List Col} {a:List Int} {s:St} {k:Nat} (h:Nd x l a s k) (hk:k<x.orders.length) (ho:0<=nth a k-> ∃t,t<k/\(nth l (nth a k).toNat).set.toNat.testBit t=true):Nd x l a (DS s) (k+1) :=
 ⟨h.len,by simp only [DS,h.ix];omega,⟨h.v.len,by have:=h.ix;simp only [DS];omega,h.v.cov,h.v.used⟩,h.cov,h.rng,h.used,h.grp,fun i hi hki h0=>by
  obtain ⟨t,h1,h2⟩:=h.old i hi Za h0
  grind,h.own⟩
theorem Nd.skip' {x:Inst} {l:List Col} {a:List Int} {s:St} {k:Nat} (h:Nd x l a s k) (hk:k<x.orders.length):Nd x l a (DS s) (k+1):=h.skip hk fun h0=>h.old k hk (Xf _) h0
theorem HA {x:Inst} {l ys:List Col} (hc:Ctx x l ys) {a:List Int} {s:St} {k j:Nat} (h:Nd x l a s k) (hk:k<x.orders.length) (hj:j<l.length):Ei x l a j k=true↔(Yt x s (nth l j)=true/\QD (nth l j).set.toNat=(k:Int)):=by
 obtain ⟨hS,hS0,hS1,hS2⟩:=hc.set (ZD hj);obtain ⟨⟨ht0,ht1⟩,_⟩:=hc.typ (ZD hj);have ht6:=hc.t6;have hu:=h.used (nth l j).typ.toNat Za;rw [show (((nth l j).typ.toNat:Nat):Int)=(nth l j).typ by omega] at hu;rw [CZ hS0 hS1 hc.n4 hk];simp only [Ei,Yt,Dt,ZO,Zl,BR,h.len,hu]
 constructor
 ·rintro ⟨h1,h2,h3⟩;refine ⟨⟨K2 fun i=> ?_,h2⟩,h1,fun i hi hb=>(h3 i hi hb).2⟩;rw [Nat.testBit_and,Nat.zero_testBit]
  cases hb:(nth l j).set.toNat.testBit i with
  | false=>simp
  | true =>
   have hi:=(hS2 i hb).1;rw [h.cov i hi,KX,XM]
   grind
 ·rintro ⟨⟨h1,h2⟩,h3,h4⟩;refine ⟨h3,h2,fun i hi hb=>⟨?_,h4 i hi hb⟩⟩;have:=XC (fun z=>z.testBit i) h1;simp only [Nat.testBit_and,Nat.zero_testBit,hb,KX] at this;rw [h.cov i hi,XM] at this;omega
theorem Ao {x:Inst} {l:List Col} {a:List Int} {k:Nat} {S:Nat} {j:Nat} (hl:a.length=x.orders.length) (hk:k<x.orders.length) (hb:S.testBit k=true) (hneg: ∀i,i<x.orders.length->S.testBit i=true->nth a i<0/\k<=i) (hfr: ∀i,i<x.orders.length->S.testBit i=false->nth a i≠(j:Int)) (T:Int) :
  ∀m,m<=x.orders.length->usdI l (Kz S a j) T m=usdI l a T m+(if k<m/\(nth l j).typ=T then 1 else 0)
 | 0,_=>by simp [usdI]
 | i+1,hm=>by
  have hi:i<a.length:=Za
  rw [usdI,usdI,Ao hl hk hb hneg hfr T i Za];have ZE: ∀t,t<i->nth (Kz S a j) t=if S.testBit t=true then (j:Int) else nth a t:=fun t ht=>Xt Za
  cases hs:S.testBit i with
  | false =>
   have e:Dw l (Kz S a j) T i=Dw l a T i:=by
    rw [Dw,Dw,Xt hi,hs,if_neg Zb]
    by_cases h0:0<=nth a i
    ·have ef:NH (Kz S a j) i=NH a i:=by
      rw [YO,Bv,Bv,Xt hi,hs,if_neg Zb]
      grind
     rw [ef]
    ·simp [h0]
   grind
  | true =>
   obtain ⟨hn,hki⟩:=hneg i Za hs
   have e2:Dw l a T i=false:=by
    simp_all [Dw,WU]
   have e1:Dw l (Kz S a j) T i=(decide ((nth l j).typ=T)&&decide (k=i)):=by
    rw [Dw,Xt hi,hs,if_pos rfl,Yq Za,Vg,X6]
    congr 1
    rw [YO,Bv,Xt hi,hs,if_pos rfl,Zl]
    grind
   grind
theorem Nd.child {x:Inst} {l ys:List Col} (hc:Ctx x l ys) {a:List Int} {s:St} {k j:Nat} (h:Nd x l a s k) (hk:k<x.orders.length) (hj:j<l.length) (hcan:Ei x l a j k=true):Nd x l (Kz (nth l j).set.toNat a j) (Ad s (nth l j)) (k+1):=by
 obtain ⟨hS,hS0,hS1,hS2⟩:=hc.set (ZD hj);obtain ⟨⟨ht0,ht1⟩,_⟩:=hc.typ (ZD hj);have ht6:=hc.t6;have hl6:s.used.length=6:=h.v.len;have hu:=h.used (nth l j).typ.toNat Za;rw [show (((nth l j).typ.toNat:Nat):Int)=(nth l j).typ by omega] at hu;have hcan':=hcan;simp only [Ei,ZO,Zl,BR,h.len] at hcan';obtain ⟨hb,hcnt,hneg⟩:=hcan';rw [<- hu] at hcnt;have hcount:=hc.ok.typ.2 (nth l j).typ.toNat Za;have hak:=(hneg k hk hb).1
 have hfr: ∀i,i<x.orders.length->(nth l j).set.toNat.testBit i=false->nth a i≠(j:Int):=fun i hi _ e=>by
  have:=h.grp i hi Za k hk (by grind [X6]);omega
 obtain ⟨C,hC,hC2⟩:=h.v.cov;have hS10:(nth l j).set.toNat<1024:=UJ hS1 (Yw (n:=2) Za (show x.orders.length<=10 by have:=hc.n4;omega));refine ⟨by rw [QY];exact h.len,by simp only [Ad,h.ix];omega,⟨by simp only [StR,Ad,BK];exact hl6,by have:=h.ix;simp only [Ad];omega,⟨_,rfl,?_⟩,fun t ht=> ?_⟩,fun i hi=> ?_,fun i hi=> ?_,fun T hT=> ?_,fun i hi h0 t ht hbt=> ?_,fun i hi hki h0=> ?_,fun i hi h0=> ?_⟩
 ·rw [hC,X6];exact Qt (n:=10) hC2 hS10
 ·simp only [Ad];rw [EP Za]
  split
  ·omega
  ·exact h.v.used t ht
 ·simp only [Ad,X6];rw [K7,h.cov i hi,Xt (by rw [h.len];exact hi)]
  grind
 ·rw [Xt (by rw [h.len];exact hi)]
  split
  ·omega
  ·exact h.rng i hi
 ·simp only [Ad];rw [EP Za,Ao h.len hk hb hneg hfr T _ (Xf _),h.used T hT]
  grind
 ·rw [Xt (i:=i) (by rw [h.len];exact hi)] at h0 hbt ⊢;rw [Xt (i:=t) (by rw [h.len];exact ht)]
  cases hbi:(nth l j).set.toNat.testBit i with
  | true =>
   rw [hbi,if_pos rfl,X6] at hbt
   grind
  | false =>
   rw [hbi,if_neg Zb] at h0 hbt;have e:=h.grp i hi h0 t ht hbt
   grind
 ·rw [Xt (by rw [h.len];exact hi)] at h0 ⊢
  cases hbi:(nth l j).set.toNat.testBit i with
  | true =>
   rw [if_pos rfl,X6]
   grind
  | false =>
   rw [hbi,if_neg Zb] at h0;rw [if_neg Zb];obtain ⟨t,h1,h2⟩:=h.old i hi Za h0
   grind
 ·rw [Xt (by rw [h.len];exact hi)] at h0 ⊢
  cases hbi:(nth l j).set.toNat.testBit i with
  | true=>rw [if_pos rfl,X6];exact hbi
  | false =>
   rw [hbi,if_neg Zb] at h0;rw [if_neg Zb];exact h.own i hi h0
def Lx (x:Inst) (ys:List Col) (D:Nat) (s:St):Int:=YU x.orders.length (mI x) x (fstF x.orders.length ys) (skF x x.orders.length) D (W5 x.orders.length (mI x) s)
theorem TK {x:Inst} {ys:List Col} {D:Nat} {s:St} (h:s.ix=x.orders.length):Lx x ys D s=0:=by
 unfold Lx
 cases D with
 | zero=>rfl
 | succ D =>
  simp_all [YU,W5,Cb]
theorem CV {n:Nat} {m:Int} {s:St} {k:Nat} (hk:s.ix=k) (hkn:k<n) (hc:sHas m k=false\/sHas s.cov k=true):W5 n m s=W5 n m (DS s):=by
 simp_all [W5,DS,DR]
theorem CW {n:Nat} {m:Int} {s:St} {k:Nat} (hk:s.ix=k) (h1:sHas m k=true) (h2:sHas s.cov k=false):W5 n m s=s:=by
 obtain ⟨i,v,u⟩:=s
 simp_all [W5,CX]
theorem Fs {n:Nat} {m:Int} {s:St} {c:Col} {k:Nat} (hk:s.ix=k) (hkn:k<n) (hn:n<=4) (hb:c.set.toNat.testBit k=true):Vn n m s c=W5 n m (Ad s c):=by
 have e:=CV (n:=n) (m:=m) (s:=⟨s.ix,((s.cov.toNat|||c.set.toNat:Nat):Int),s.used.set c.typ.toNat (nth s.used c.typ.toNat+1)⟩) (k:=k) hk hkn (.inr (by
  simp only
  rw [Wk _ _ Za,K7,hb,Bool.or_true]))
 exact e
theorem Ks {x:Inst} {l ys:List Col} (hc:Ctx x l ys) {k:Nat} (hk:k<x.orders.length) {c:Col} (hm:c∈Yd ys k):c∈ys/\c∈l/\QD c.set.toNat=(k:Int)/\c.set.toNat.testBit k=true:=by
 rw [Yd,Vf,Zl] at hm;have hl:=aR hc.ch hm.1;obtain ⟨_,h0,h1,_⟩:=hc.set hl;exact ⟨hm.1,hl,hm.2,((CZ h0 h1 hc.n4 hk).1 hm.2).1⟩
theorem M4 {x:Inst} {l ys:List Col} (hc:Ctx x l ys) {D:Nat} (hD:10<D) {s:St} {k:Nat} (hv:StV x.orders.length s) (hk:s.ix=k) (hkn:k<x.orders.length) (ho:(nth x.orders k).off=false) (hcv:s.cov.toNat.testBit k=false) :
  Lx x ys D s=if 0<=skpF x k then YJ ((Yd ys k).foldl (fun o c=>if Yt x s c=true then YJ o c.price (Lx x ys D (Ad s c)) else o) (-1)) (skpF x k) (Lx x ys D (DS s)) else (Yd ys k).foldl (fun o c=>if Yt x s c=true then YJ o c.price (Lx x ys D (Ad s c)) else o) (-1):=by
 have hn:=hc.n4
 have e1:Lx x ys D s=YU x.orders.length (mI x) x (fstF x.orders.length ys) (skF x x.orders.length) (D+1) s:=by
  rw [Lx,CW hk (by grind [EI]) (by grind [Bk])];exact QT hc.ok _ _ s hv Za Za
 rw [e1,YU,if_neg Za]
 have e2:nth (fstF x.orders.length ys) s.ix.toNat=Yd ys k:=by simp_all [LY]
 have e3:nth (skF x x.orders.length) s.ix.toNat=skpF x k:=by grind [skF,Ze]
 have e4:(Yd ys k).foldl (fun o c=>if Yt x s c=true then YJ o c.price (YU x.orders.length (mI x) x (fstF x.orders.length ys) (skF x x.orders.length) D (Vn x.orders.length (mI x) s c)) else o) (-1)=(Yd ys k).foldl (fun o c=>if Yt x s c=true then YJ o c.price (Lx x ys D (Ad s c)) else o) (-1) :=
  Jk fun c hm o=>by rw [Fs hk hkn hn (Ks hc hkn hm).2.2.2];rfl
 simp only [e2,e3,e4]
 rfl
def Ky (x:Inst) (ys:List Col) (D:Nat) (s:St) (c:Col):Bool:=Yt x s c&&(decide (0<=Lx x ys D (Ad s c))&&decide (c.price+Lx x ys D (Ad s c)=Lx x ys D s))
noncomputable def A1 (l:List Col) (d:Col):Nat:=open Classical in if h:Bst l l.length d then h.choose else 0
theorem PL {l:List Col} {d:Col} (h:Bst l l.length d):A1 l d<l.length/\nth l (A1 l d)=d/\ ∀i,i<l.length->kd (nth l i)=kd d->d.price<(nth l i).price\/(d.price=(nth l i).price/\A1 l d<=i):=by
 have e:A1 l d=h.choose:=by rw [A1,dif_pos h]
 grind
noncomputable def gr (x:Inst) (l ys:List Col) (D:Nat):Nat->Nat->St->List Int->List Int
 | 0,_,_,a=>a
 | d+1,k,s,a=>if (nth x.orders k).off=true\/0<=nth a k then gr x l ys D d (k+1) (DS s) a else
  match (Yd ys k).find? (Ky x ys D s) with
  | some c=>gr x l ys D d (k+1) (Ad s c) (Kz c.set.toNat a (A1 l c))
  | none=>gr x l ys D d (k+1) (DS s) a
theorem JE {x:Inst} {l ys:List Col} (hc:Ctx x l ys) {a:List Int} {s:St} {k:Nat} (h:Nd x l a s k) (hk:k<x.orders.length) {c:Col} (hm:c∈Yd ys k) (hy:Yt x s c=true):A1 l c<l.length/\nth l (A1 l c)=c/\Ei x l a (A1 l c) k=true:=by
 obtain ⟨h1,h2,h3,h4⟩:=Ks hc hk hm;obtain ⟨p1,p2,_⟩:=PL (hc.ch.bst c h1)
 grind [HA]
theorem KP {x:Inst} {l:List Col} {a:List Int} {k j:Nat} (hl:a.length=x.orders.length) (hcan:Ei x l a j k=true):(nth l j).set.toNat.testBit k=true/\ ∀t,t<x.orders.length->(t<k\/0<=nth a t)->nth (Kz (nth l j).set.toNat a j) t=nth a t:=by
 simp only [Ei,ZO,BR,hl] at hcan
 grind [Xt]
theorem CB {x:Inst} {l ys:List Col} (hc:Ctx x l ys) {D:Nat} : ∀(d k:Nat) (s:St) (a:List Int),k+d=x.orders.length->Nd x l a s k->(gr x l ys D d k s a).length=x.orders.length/\ ∀t,t<x.orders.length->(t<k\/0<=nth a t)->nth (gr x l ys D d k s a) t=nth a t
 | 0,k,s,a,_,h=>⟨h.len,fun _ _ _=>rfl⟩
 | d+1,k,s,a,hd,h=>by
  have hk:k<x.orders.length:=Za
  rw [gr];have skip:=CB hc (D:=D) d (k+1) (DS s) a Za (h.skip' hk)
  split
  ·grind
  ·split
   ·rename_i c hf;have hsel:=EH hf;simp only [Ky,ZO] at hsel;obtain ⟨p1,p2,p3⟩:=JE hc h hk (Vv hf) hsel.1;have hch:=h.child hc hk p1 p3;rw [p2] at hch;have ho:=(KP h.len p3).2;rw [p2] at ho;obtain ⟨g1,g2⟩:=CB hc (D:=D) d (k+1) (Ad s c) _ Za hch;refine ⟨g1,fun t ht hh=> ?_⟩
    rw [g2 t ht (by
     rcases hh with h1 | h1
     ·left;omega
     ·right;rw [ho t ht (.inr h1)];exact h1),ho t ht hh]
   grind
theorem Ab {x:Inst} {l:List Col} : ∀(d:Nat) (a:List Int) (p:Int),d<=x.orders.length->a.length=x.orders.length-> ∀q∈Db x l d a p,q.1.length=x.orders.length/\ ∀t,t<x.orders.length->(t<x.orders.length-d\/0<=nth a t)->nth q.1 t=nth a t
 | 0,a,p,_,h,q,hq=>by
  simp only [Db,Xs,Ui,or_false] at hq
  grind
 | d+1,a,p,hd,h,q,hq=>by
  rw [Db] at hq
  split at hq
  ·obtain ⟨g1,g2⟩:=Ab d a p Za h q hq;exact ⟨g1,fun t ht hh=>g2 t ht (hh.imp Za id)⟩
  ·rw [XI,YN] at hq;rcases hq with ⟨j,hj,hq⟩ | hq
   ·split at hq
    ·rename_i hcan;have ho:=(KP h hcan).2;obtain ⟨g1,g2⟩:=Ab d _ _ Za (by rw [QY];exact h) q hq;refine ⟨g1,fun t ht hh=> ?_⟩
     rw [g2 t ht (by
      rcases hh with h1 | h1
      ·left;omega
      ·right;rw [ho t ht (.inr h1)];exact h1),ho t ht hh]
    ·simp at hq
   ·split at hq
    ·obtain ⟨g1,g2⟩:=Ab d a _ Za h q hq;exact ⟨g1,fun t ht hh=>g2 t ht (hh.imp Za id)⟩
    ·simp at hq
theorem KE.refl {n:Nat} {l:List Col} {a:List Int} :KE n l a a:=fun _ _=>⟨rfl,Int.le_refl _⟩
theorem Zbs {l:List Col} {a:Int} (h:a<0):ky l a=(1,0,0):=if_pos h
theorem HS {l:List Col} {a:Int} (h:0<=a):ky l a=(0,(nth l a.toNat).typ,(nth l a.toNat).set):=if_neg Za
theorem ZhH {l:List Col} {i j:Nat} :ky l (i:Int)=ky l (j:Int)↔kd (nth l i)=kd (nth l j):=by
 grind [HS,kd]
theorem dA {x:Inst} {s:St} {r:Col->Int} {ls:List Col} (hp: ∀c∈ls,0<=c.price) (hr: ∀c∈ls,Yt x s c=true-> -1<=r c) {c:Col} (hc:c∈ls) (hy:Yt x s c=true) (h0:0<=r c) :
  TF (ls.foldl (fun o c=>if Yt x s c=true then YJ o c.price (r c) else o) (-1)) (c.price+r c):=by
 have e:=Jk (f:=fun o c=>if Yt x s c=true then YJ o c.price (r c) else o) (g:=fun o c=>if Yt x s c=true then YJ o c.price (max (-1) (r c)) else o) (l:=ls) (b:=(-1:Int)) fun c hc o=>by
  grind
 rw [e];have:=(Pa (x:=x) (s:=s) (r:=fun c=>max (-1) (r c)) (fun c=>Za) (l:=ls) (a:= -1) hp).2 c hc hy Za
 grind
theorem M5 {x:Inst} {l ys:List Col} (hc:Ctx x l ys) {D:Nat} {s:St} (hv:StV x.orders.length s): -1<=Lx x ys D s:=(VL (m:=mI x) hc.ok D _ (Is hv).1).1
theorem OR {o p r:Int} (hr: -1<=r) (hp:0<=p):TF (YJ o p r) o/\(0<=r->TF (YJ o p r) (p+r)):=by
 grind [TF,YJ]
theorem tT {x:Inst} {l ys:List Col} (hc:Ctx x l ys) {D:Nat} (hD:10<D) {a:List Int} {s:St} {k:Nat} (h:Nd x l a s k) (hk:k<x.orders.length) (ho:(nth x.orders k).off=false) (hak:nth a k<0) {c:Col} (hm:c∈Yd ys k) (hy:Yt x s c=true) (h0:0<=Lx x ys D (Ad s c)) :
  TF (Lx x ys D s) (c.price+Lx x ys D (Ad s c)):=by
 have hcv:s.cov.toNat.testBit k=false:=by rw [h.cov k hk];grind
 rw [M4 hc hD h.v h.ix hk ho hcv]
 have nd: ∀e∈Yd ys k,Yt x s e=true->StV x.orders.length (Ad s e):=fun e he hye=>by
  obtain ⟨p1,p2,p3⟩:=JE hc h hk he hye;have:=(h.child hc hk p1 p3).v
  grind
 have low:=dA (x:=x) (s:=s) (r:=fun c=>Lx x ys D (Ad s c)) (ls:=Yd ys k) (fun e he=>(hc.typ (Ks hc hk he).2.1).2) (fun e he hye=>M5 hc (nd e he hye)) hm hy h0
 split
 ·rename_i hs;have b:=(OR (o:=(Yd ys k).foldl (fun o c=>if Yt x s c=true then YJ o c.price (Lx x ys D (Ad s c)) else o) (-1)) (M5 hc (D:=D) (h.skip' hk).v) hs).1
  grind [TF]
 ·exact low
theorem kG {x:Inst} {l ys:List Col} (hc:Ctx x l ys) {D:Nat} (hD:10<D) {a:List Int} {s:St} {k:Nat} (h:Nd x l a s k) (hk:k<x.orders.length) (ho:(nth x.orders k).off=false) (hak:nth a k<0) (hs:0<=skpF x k) (h0:0<=Lx x ys D (DS s)) :
  TF (Lx x ys D s) (skpF x k+Lx x ys D (DS s)):=by
 have hcv:s.cov.toNat.testBit k=false:=by rw [h.cov k hk];grind
 rw [M4 hc hD h.v h.ix hk ho hcv,if_pos hs]
 grind [OR]
theorem Oz {x:Inst} {l ys:List Col} (hc:Ctx x l ys) {D:Nat} {a:List Int} {s:St} {k:Nat} (h:Nd x l a s k) (hk:k<x.orders.length) (ho:(nth x.orders k).off=true\/0<=nth a k):Lx x ys D s=Lx x ys D (DS s):=by
 unfold Lx;rw [CV h.ix hk (ho.imp (fun e=>by rw [EI hc.n4 hk,e];rfl) fun e=>by rw [Bk h.v (by have:=hc.n4;omega),h.cov k hk];grind)]
theorem KU {x:Inst} {l ys:List Col} (hc:Ctx x l ys) {D:Nat} (hD:10<D): ∀(d k:Nat) (s:St) (a b:List Int) (p:Int),k+d=x.orders.length->Nd x l a s k->Nd x l b s k->KE x.orders.length l a b-> ∀q∈Db x l d b p,
  0<=Lx x ys D s/\p+Lx x ys D s<=q.2/\(q.2=p+Lx x ys D s->KL x.orders.length l (gr x l ys D d k s a) q.1)
 | 0,k,s,a,b,p,hd,ha,hb,he,q,hq=>by
  simp only [Db,Xs,Ui,or_false] at hq;subst hq;rw [TK (by rw [ha.ix];omega)];exact ⟨Za,Zb,fun _=> .inr he⟩
 | d+1,k,s,a,b,p,hd,ha,hb,he,q,hq=>by
  have hk:k<x.orders.length:=Za
  have hkd:x.orders.length-(d+1)=k:=Za
  have hneg: ∀t,t<x.orders.length->(0<=nth a t↔0<=nth b t):=fun t ht=>by
   have h1:=ha.cov t ht;rw [hb.cov t ht,decide_eq_decide] at h1;exact h1.symm
  rw [Db,hkd] at hq;rw [gr]
  split at hq
  ·rename_i ho;have ho':(nth x.orders k).off=true\/0<=nth a k:=ho.imp id (hneg k hk).2;rw [if_pos ho',Oz hc ha hk ho'];exact KU hc hD d (k+1) (DS s) a b p Za (ha.skip' hk) (hb.skip' hk) he q hq
  ·rename_i ho;have ho': ¬((nth x.orders k).off=true\/0<=nth a k):=fun g=>ho (g.imp id (hneg k hk).1);rw [if_neg ho']
   have hoff:(nth x.orders k).off=false:=by
    grind
   have hbk:nth b k<0:=Jw.1 fun g=>ho (.inr g);have hak:nth a k<0:=Jw.1 fun g=>ho' (.inr g)
   -- what was picked stands at k
   have hpick: ∀c,(Yd ys k).find? (Ky x ys D s)=some c->Yt x s c=true/\c∈ys/\(∀t,t<k->nth (gr x l ys D d (k+1) (Ad s c) (Kz c.set.toNat a (A1 l c))) t=nth a t)/\nth (gr x l ys D d (k+1) (Ad s c) (Kz c.set.toNat a (A1 l c))) k=A1 l c/\nth l (A1 l c)=c:=fun c hf=>by
    have hsel:=EH hf;simp only [Ky,ZO] at hsel;obtain ⟨p1,p2,p3⟩:=JE hc ha hk (Vv hf) hsel.1;have hch:=ha.child hc hk p1 p3;obtain ⟨c1,c2⟩:=KP ha.len p3;rw [p2] at hch c1 c2;have g2:=(CB hc (D:=D) d (k+1) (Ad s c) _ Za hch).2;refine ⟨hsel.1,(Ks hc hk (Vv hf)).1,fun t ht=> ?_,?_,p2⟩
    ·grind
    ·rw [g2 k hk (.inl Za),Xt (by rw [ha.len];exact hk),if_pos c1]
   rw [XI,YN] at hq;rcases hq with ⟨j,hj,hq⟩ | hq
   ·have hj:=ZQ.1 hj
    split at hq
    ·rename_i hcan;obtain ⟨hy,htz⟩:=(HA hc hb hk hj).1 hcan;have hjl:=ZD hj;obtain ⟨d',hd',hkd',hpr⟩:=aS hc.ch hjl
     have hst:d'.set=(nth l j).set/\d'.typ=(nth l j).typ:=by
      grind [kd]
     have hm:d'∈Yd ys k:=by
      simp_all [Yd]
     have hy':Yt x s d'=true:=by grind [Yt]
     have hnx:Ad s d'=Ad s (nth l j):=by grind [Ad]
     have hcb:=hb.child hc hk hj hcan;obtain ⟨cb1,cb2⟩:=KP hb.len hcan;have hqo:=(Ab d _ _ Za (by rw [QY];exact hb.len) q hq).2
     have hqt: ∀t,t<k->nth q.1 t=nth b t:=fun t ht=>by rw [hqo t Za (.inl Za),cb2 t Za (.inl ht)]
     have hqk:nth q.1 k=j:=by rw [hqo k hk (.inl Za),Xt (by rw [hb.len];exact hk),if_pos cb1]
     obtain ⟨i1,i2,_⟩:=KU hc hD d (k+1) _ _ _ _ Za hcb hcb KE.refl q hq;rw [<- hnx] at i1 i2;have hle:=tT hc hD ha hk hoff hak hm hy' i1;have hp0:=(hc.typ (Ks hc hk hm).2.1).2
     have hL0:0<=Lx x ys D s/\Lx x ys D s<=d'.price+Lx x ys D (Ad s d'):=by
      rcases hle with h | h
      ·-- the least price would be lacking: not so, azs the column leads on
       omega
      ·exact h
     refine ⟨hL0.1,Za,fun hqc=> ?_⟩
     have hpe:d'.price=(nth l j).price:=Za
     have hLe:d'.price+Lx x ys D (Ad s d')=Lx x ys D s:=Za
     have hsel:Ky x ys D s d'=true:=by simp_all [Ky]
     have hpos:=PL (hc.ch.bst d' hd')
     have hpj:A1 l d'<=j:=by
      rcases hpos.2.2 j hj hkd'.symm with h | h
      ·omega
      ·exact h.2
     cases hf:(Yd ys k).find? (Ky x ys D s) with
     | none=>rw [Ju] at hf;simp_all
     | some c =>
      obtain ⟨k1,k2,k3,k4,k5⟩:=hpick c hf;simp only
      by_cases hcd:c=d'
      ·subst hcd;obtain ⟨p1,p2,p3⟩:=JE hc ha hk hm hy';have hca:=ha.child hc hk p1 p3;rw [p2] at hca;rw [<- hnx] at hcb;refine (KU hc hD d (k+1) _ _ _ _ Za hca hcb (fun t ht=> ?_) q hq).2.2 Za;rw [hst.1,Xt (by rw [ha.len];exact ht),Xt (by rw [hb.len];exact ht)]
       cases hbt:(nth l j).set.toNat.testBit t with
       | true =>
        rw [if_pos rfl,if_pos rfl,ZhH,p2]
        grind
       | false =>
        rw [if_neg Zb,if_neg Zb];exact he t ht
      ·-- an earlier kind
       have hlt:cfK c d'<0:=by
        have hpw:(Yd ys k).Pairwise fun a b=>cfK a b<0:=hc.ch.asc.filter _;obtain ⟨_,u,w,hab,hno⟩:=List.find?_eq_some_iff_append.1 hf;rw [hab] at hpw hm;rw [BE,List.pairwise_cons] at hpw;rcases XI.1 hm with h | h
        ·have:=hno d' h
         grind
        ·rcases Xs.1 h with h | h
         ·grind
         ·exact hpw.2.1.1 d' h
       rw [Ek] at hlt;refine .inl ⟨k,hk,fun t ht=> ?_,?_⟩
       ·rw [k3 t ht,hqt t ht];exact (he t Za).1
       ·rw [k4,hqk,HS Za,HS Za,X6,X6,k5]
        right
        grind
    ·simp at hq
   ·split at hq
    ·rename_i hpen;obtain ⟨s1,s2⟩:=hc.sk k hk hoff;have hs0:=s1.1 hpen;have hse:=s2 hs0;rw [<- hse] at hq;have hqo:=(Ab d _ _ Za hb.len q hq).2;obtain ⟨i1,i2,i3⟩:=KU hc hD d (k+1) (DS s) a b _ Za (ha.skip' hk) (hb.skip' hk) he q hq;have hle:=kG hc hD ha hk hoff hak hs0 i1;have hrg:=M5 hc (D:=D) ha.v
     have hL0:0<=Lx x ys D s/\Lx x ys D s<=skpF x k+Lx x ys D (DS s):=by
      rcases hle with h | h
      ·omega
      ·exact h
     refine ⟨hL0.1,Za,fun hqc=> ?_⟩
     cases hf:(Yd ys k).find? (Ky x ys D s) with
     | none=>grind
     | some c =>
      obtain ⟨k1,k2,k3,k4,k5⟩:=hpick c hf;simp only;refine .inl ⟨k,hk,fun t ht=> ?_,?_⟩
      ·rw [k3 t ht,hqo t Za (.inl Za)];exact (he t Za).1
      ·rw [k4,hqo k hk (.inl Za),HS Za,Zbs hbk]
       left;omega
    ·simp at hq
theorem jJ {x:Inst} {S:Nat} (hn:x.orders.length<=4) (hS:S<9223372036854775808):Ou S (Yg x x.orders.length)=(decide (S<2^x.orders.length)&&(List.range x.orders.length).all fun i=> !(S.testBit i&&(nth x.orders i).off)):=by
 rw [YO,ZO,Zl,Ou,Zv,Zv]
 constructor
 ·intro h
  have key: ∀i,S.testBit i=true->i<x.orders.length/\(nth x.orders i).off=false:=fun i hi=>by
   have h63:i<63:=by
    rcases Wh i 63 with h | h
    ·exact h
    ·have:2^63<=2^i:=Yw Za h
     grind [Ve]
   grind [Uq]
  refine ⟨Nat.lt_pow_two_of_testBit _ fun i hi=> ?_,fun i _=> ?_⟩
  ·grind
  grind
 ·rintro ⟨h1,h2⟩ i _
  cases hb:S.testBit i with
  | false=>rfl
  | true =>
   have hi:i<x.orders.length:=by
    rcases Wh i x.orders.length with h | h
    ·exact h
    ·have:2^x.orders.length<=2^i:=Yw Za h
     grind [Ve]
   have:=h2 i (ZQ.2 hi)
   simp_all [Uq]
def zCh : Chc:=⟨false,[],0⟩
def Nb (x:Inst) (l:List Col):Chc:=(Db x l x.orders.length (List.replicate x.orders.length (-1)) 0).foldl (MO l) zCh
def kF (x:Inst) (l:List Col) (b:Chc) (e:Int):Prop:=(8192<l.length/\b=zCh/\e=4)\/(l.length<=8192/\(∃c∈l,rightB x c=false)/\b=zCh/\e=2) \/
 (l.length<=8192/\(∀c∈l,rightB x c=true)/\(((Nb x l).found=false/\b=zCh/\e=24)\/((Nb x l).found=true/\b=Nb x l/\e=0)))
theorem PF {n i:Nat} (h:i<n):nth (List.replicate n (-1:Int)) i= -1:=by
 grind [Ze]
theorem eJ {l:List Col} {x y:Int} (hx: -1<=x) (hy: -1<=y) (h:ky l x=ky l y):(x<0->x=y)/\(y<0->x=y)/\(0<=x->0<=y/\(nth l x.toNat).typ=(nth l y.toNat).typ/\(nth l x.toNat).set=(nth l y.toNat).set):=by
 unfold ky at h
 grind
theorem Cs {l:List Col} : ∀ {a b:List Int},a.length=b.length->(∀t,t<a.length-> -1<=nth a t/\ -1<=nth b t/\ky l (nth a t)=ky l (nth b t))->AQ l a b=none
 | [],[],_,_=>aG
 | [],_::_,h,_=>by simp at h
 | _::_,[],h,_=>by simp at h
 | x::a,y::b,hl,h=>by
  have ih:=Cs (l:=l) (a:=a) (b:=b) (by grind) fun t ht=>h (t+1) (by grind);obtain ⟨h1,h2,h3⟩:=h 0 Zb;obtain ⟨k1,k2,k3⟩:=eJ (show-1<=x from h1) (show-1<=y from h2) h3;rw [AQ]
  grind
theorem OO {l:List Col} : ∀ {a b:List Int} {i:Nat},a.length=b.length->i<a.length->(∀t,t<a.length-> -1<=nth a t/\ -1<=nth b t)->(∀t,t<i->ky l (nth a t)=ky l (nth b t))->eG (ky l (nth a i)) (ky l (nth b i))->AQ l a b=some true/\AQ l b a=some false
 | [],_,_,_,h,_,_,_=>by simp at h
 | _::_,[],_,h,_,_,_,_=>by simp at h
 | x::a,y::b,0,_,_,hr,_,h=>by
  obtain ⟨h1,h2⟩:=hr 0 Zb;have h':eG (ky l x) (ky l y):=h
  have hne:x≠y:=fun e=>by grind [eG]
  rw [AQ,AQ,if_neg hne,if_neg (Ne.symm hne)];unfold ky eG at h'
  grind
 | x::a,y::b,i+1,hl,hi,hr,he,h=>by
  have ih:=OO (l:=l) (a:=a) (b:=b) (i:=i) (by grind) (by grind) (fun t ht=>hr (t+1) (by grind)) (fun t ht=>he (t+1) Za) h;obtain ⟨h1,h2⟩:=hr 0 Zb;have h3:ky l x=ky l y:=he 0 Za;obtain ⟨k1,k2,k3⟩:=eJ (show-1<=x from h1) (show-1<=y from h2) h3;rw [AQ,AQ]
  grind
theorem OP : ∀ {a b:List Int},a.length=b.length->(∀t,t<a.length->nth a t<=nth b t)->a=b\/(No a b=true/\No b a=false)
 | [],[],_,_=> .inl rfl
 | [],_::_,h,_=>by simp at h
 | _::_,[],h,_=>by simp at h
 | x::a,y::b,hl,h=>by
  have h0:x<=y:=h 0 Zb;rw [No,No]
  by_cases hxy:x=y
  ·subst hxy;rw [if_pos rfl,if_pos rfl];rcases OP (a:=a) (b:=b) (by grind) (fun t ht=>h (t+1) (by grind)) with e | e
   ·grind
   grind
  grind
theorem tS {x:Inst} {l:List Col} {a b:List Int} (ha:RngA x l a) (hb:RngA x l b) (h:KL x.orders.length l a b):a=b\/(Hs l a b=true/\Hs l b a=false):=by
 have hl:a.length=b.length:=by rw [ha.1,hb.1]
 have hr: ∀t,t<a.length-> -1<=nth a t/\ -1<=nth b t:=fun t ht=>⟨(ha.2 t (by rw [<- ha.1];exact ht)).1,(hb.2 t (by rw [<- ha.1];exact ht)).1⟩;rcases h with ⟨i,hi,he,hlt⟩ | h
 ·obtain ⟨h1,h2⟩:=OO hl (by rw [ha.1];exact hi) hr he hlt
  grind [RF]
 ·have h1:=Cs (l:=l) hl fun t ht=>⟨(hr t ht).1,(hr t ht).2,(h t (by rw [<- ha.1];exact ht)).1⟩;have h2:=Cs (l:=l) hl.symm fun t ht=>⟨(hr t Za).2,(hr t Za).1,((h t (by rw [<- hb.1];exact ht)).1).symm⟩;rcases OP hl fun t ht=>(h t (by rw [<- ha.1];exact ht)).2 with e | ⟨e1,e2⟩
  ·exact .inl e
  grind [RE]
def Prf (l:List Col) (P:List Int) (W:Int) (q:List Int×Int):Prop:=W<=q.2/\(q.2=W->P=q.1\/(Hs l P q.1=true/\Hs l q.1 P=false))
theorem MQ {l:List Col} {P:List Int} {W:Int} : ∀ {L:List (List Int×Int)},(∀q∈L,Prf l P W q)->L.foldl (MO l) ⟨true,P,W⟩=⟨true,P,W⟩
 | [],_=>rfl
 | q::L,h=>by
  have e:MO l ⟨true,P,W⟩ q=⟨true,P,W⟩:=by
   obtain ⟨h1,h2⟩:=h q Zb;unfold MO
   split
   ·rename_i hc;rcases hc with hc | hc | ⟨hc,hd⟩
    ·cases hc
    ·simp only at hc;omega
    ·simp only at hc hd;rcases h2 hc with e | ⟨_,e⟩
     ·rw [<- e,hc]
     ·rw [e] at hd;cases hd
   ·rfl
  rw [Yp,e];exact MQ fun q hq=>h q (Yv _ hq)
theorem G2 {l:List Col} {P:List Int} {W:Int} : ∀ {L:List (List Int×Int)} {b:Chc},(b.found=false\/Prf l P W (b.places,b.price))->(∀q∈L,Prf l P W q)->(P,W)∈L->L.foldl (MO l) b=⟨true,P,W⟩
 | [],_,_,_,hm=>by simp at hm
 | q::L,b,hb,h,hm=>by
  rw [Yp];have hq:=h q Zb;have hL: ∀q∈L,Prf l P W q:=fun q hq=>h q (Yv _ hq)
  by_cases e:q=(P,W)
  ·have:MO l b q=⟨true,P,W⟩:=by
    subst e;unfold MO
    split
    ·rfl
    ·rename_i hc;rcases hb with hb | ⟨h1,h2⟩
     ·grind
     ·simp only at h1 h2 hc
      have h3:b.price=W:=by
       omega
      rcases h2 h3 with e | ⟨e,_⟩
      ·obtain ⟨f,bp,bc⟩:=b
       grind
      grind
   grind [MQ]
  ·refine G2 ?_ hL (by
    rcases Xs.1 hm with h | h
    ·exact absurd h.symm e
    ·exact h)
   unfold MO
   split
   ·exact .inr hq
   ·exact hb
theorem Lz {x:Inst} {l ys:List Col} (hc:Ctx x l ys) {D:Nat} (hD:10<D): ∀(d k:Nat) (s:St) (a:List Int) (p:Int),k+d=x.orders.length->Nd x l a s k->0<=Lx x ys D s->(gr x l ys D d k s a,p+Lx x ys D s)∈Db x l d a p
 | 0,k,s,a,p,hd,ha,h0=>by
  rw [TK (by rw [ha.ix];omega),V2,gr,Db];simp
 | d+1,k,s,a,p,hd,ha,h0=>by
  have hk:k<x.orders.length:=Za
  have hkd:x.orders.length-(d+1)=k:=Za
  rw [Db,hkd,gr]
  split
  ·rename_i ho;rw [Oz hc ha hk ho] at h0 ⊢;exact Lz hc hD d (k+1) _ a p Za (ha.skip' hk) h0
  ·rename_i ho
   have hoff:(nth x.orders k).off=false:=by
    cases e:(nth x.orders k).off with
    | false=>rfl
    | true=>exact absurd (.inl e) ho
   have hak:nth a k<0:=Jw.1 fun g=>ho (.inr g)
   have hcv:s.cov.toNat.testBit k=false:=by rw [ha.cov k hk];exact WU Za
   rw [XI,YN]
   cases hf:(Yd ys k).find? (Ky x ys D s) with
   | some c =>
    left
    have hsel:=EH hf;simp only [Ky,ZO,Zl] at hsel;obtain ⟨p1,p2,p3⟩:=JE hc ha hk (Vv hf) hsel.1;have hch:=ha.child hc hk p1 p3;rw [p2] at hch;refine ⟨A1 l c,ZQ.2 p1,?_⟩;rw [if_pos p3,p2];have:=Lz hc hD d (k+1) _ _ (p+c.price) Za hch hsel.2.1;rw [show p+c.price+Lx x ys D (Ad s c)=p+Lx x ys D s by omega] at this;exact this
   | none =>
    right
    rw [Ju] at hf;have hdec:=M4 hc hD ha.v ha.ix hk hoff hcv;have hno: ∀c∈Yd ys k,Yt x s c=true->0<=Lx x ys D (Ad s c)->c.price+Lx x ys D (Ad s c)≠Lx x ys D s:=fun c hm hy hL e=>hf c hm (by simp only [Ky,hy,Yq hL,Yq e,Bool.and_self]);obtain ⟨s1,s2⟩:=hc.sk k hk hoff;have hfold:=Gk (x:=x) (s:=s) (r:=fun c=>Lx x ys D (Ad s c)) (l:=Yd ys k) (a:= -1)
    by_cases hs:0<=skpF x k
    ·rw [if_pos (s1.2 hs),<- s2 hs];rw [if_pos hs] at hdec;unfold YJ at hdec
     split at hdec
     ·rename_i hb;have:=Lz hc hD d (k+1) _ a (p+skpF x k) Za (ha.skip' hk) hb.1;rw [show p+skpF x k+Lx x ys D (DS s)=p+Lx x ys D s by omega] at this;exact this
     ·exfalso;rcases hfold with e | ⟨c,h1,h2,h3,h4⟩
      ·unfold YJ at e;omega
      ·exact hno c h1 h2 h3 (by rw [hdec];exact h4.symm)
    ·exfalso;rw [if_neg hs] at hdec;rcases hfold with e | ⟨c,h1,h2,h3,h4⟩
     ·omega
     ·exact hno c h1 h2 h3 (by rw [hdec];exact h4.symm)
def kE (l:List Col) (g:List Int) (T:Nat):Nat->List Col
 | 0=> []
 | i+1=>kE l g T i++(if 0<=nth g i/\(nth l (nth g i).toNat).typ=T/\(nth l (nth g i).toNat).set%(pw i:Nat)=0 then [nth l (nth g i).toNat] else [])
def iE (l:List Col) (g:List Int) (n:Nat):Nat->List Col
 | 0=> []
 | T+1=>iE l g n T++kE l g T n
def unI (x:Inst) (g:List Int):Nat->List Int
 | 0=> []
 | i+1=>unI x g i++(if nth g i<0/\(nth x.orders i).off=false then [(i:Int)] else [])
theorem PP {l:List Col} {g:List Int} {T:Nat} : ∀k,(kE l g T k).length<=k
 | 0=>Xf _
 | k+1=>by
  have:=PP (l:=l) (g:=g) (T:=T) k;rw [kE,Zn];split<;>simp<;>omega
theorem PS {l:List Col} {g:List Int} {n:Nat} : ∀T,(iE l g n T).length<=T*n
 | 0=>by simp [iE]
 | T+1=>by
  have:=PS (l:=l) (g:=g) (n:=n) T;have:=PP (l:=l) (g:=g) (T:=T) n;rw [iE,Zn,XP];omega
theorem Ra {x:Inst} {g:List Int} : ∀k,(unI x g k).length<=k
 | 0=>Xf _
 | k+1=>by
  have:=Ra (x:=x) (g:=g) k;rw [unI,Zn];split<;>simp<;>omega
def ZfO (x:Inst) (l:List Col) (p:Pln) (c e:Int):Prop:= ∃b,kF x l b e/\(e≠0->p=zPlC/\c=0)/\(e=0->c=b.price/\p=⟨false,(iE l b.places b.places.length x.types.length).map (·.route),false,unI x b.places b.places.length⟩)
theorem Et {α:Type} {p q:α->Bool} : ∀ {l:List α},(∀a∈l,p a=q a)->l.find? p=l.find? q
 | [],_=>rfl
 | a::l,h=>by
  rw [List.find?_cons,List.find?_cons,h a Zb,Et fun a ha=>h a (Yv _ ha)]
def RA (l:List Col) (g:List Int):Nat->Nat->List Col
 | 0,_=> []
 | d+1,k=>(if 0<=nth g k/\QD (nth l (nth g k).toNat).set.toNat=(k:Int) then [nth l (nth g k).toNat] else [])++RA l g d (k+1)
def UA (x:Inst) (g:List Int):Nat->Nat->List Int
 | 0,_=> []
 | d+1,k=>(if nth g k<0/\(nth x.orders k).off=false then [(k:Int)] else [])++UA x g d (k+1)
theorem pJ {x:Inst} {l ys:List Col} (hc:Ctx x l ys) {D:Nat} (hD:D=20) {s:St} {k:Nat} (hv:StV x.orders.length s) (hk:s.ix=k) (hkn:k<x.orders.length) (ho:(nth x.orders k).off=false) (hcv:s.cov.toNat.testBit k=false) {c:Col} (hm:c∈Yd ys k) :
  Ir x.orders.length (mI x) x (fstF x.orders.length ys) (skF x x.orders.length) s c=Ky x ys D s c:=by
 have hn:=hc.n4;have e1:=CW (n:=x.orders.length) hk (m:=mI x) (by grind [EI]) (by grind [Bk]);have e2:=Fs (m:=mI x) hk hkn hn (Ks hc hkn hm).2.2.2
 grind [Ir,Ky,Lx]
theorem BX {x:Inst} {l ys:List Col} (hc:Ctx x l ys) {D:Nat} (hD:D=20): ∀(d k:Nat) (s:St) (a:List Int) (f:Nat),k+d=x.orders.length->d<f->Nd x l a s k ->
  Yi x.orders.length (mI x) x (fstF x.orders.length ys) (skF x x.orders.length) f (W5 x.orders.length (mI x) s)=(RA l (gr x l ys D d k s a) d k,UA x (gr x l ys D d k s a) d k)
 | 0,k,s,a,0,_,hf,_=>Za
 | 0,k,s,a,f+1,hd,_,h=>by
  rw [Yi,if_pos,RA,UA];simp only [W5];have:=Cb (n:=x.orders.length) (m:=mI x) (cov:=s.cov) (x.orders.length-s.ix.toNat) s.ix.toNat;have:=h.ix;omega
 | d+1,k,s,a,0,_,hf,_=>Za
 | d+1,k,s,a,f+1,hd,hf,h=>by
  have hk:k<x.orders.length:=Za
  have hn:=hc.n4;rw [gr]
  split
  ·rename_i ho;have hsk:=ho.imp (fun e=>show sHas (mI x) k=false by grind [EI]) (fun e=>show sHas s.cov k=true by rw [Bk h.v Za,h.cov k hk];grind);rw [CV h.ix hk hsk,BX hc hD d (k+1) (DS s) a (f+1) Za Za (h.skip' hk)];have hg:=(CB hc (D:=D) d (k+1) (DS s) a Za (h.skip' hk)).2 k hk (.inl Za);rw [RA,UA,hg,if_neg,if_neg,Xk,Xk]
   ·grind
   ·rintro ⟨g1,g2⟩;obtain ⟨t,t1,t2⟩:=h.old k hk (Xf _) g1;have hr:=h.rng k hk;obtain ⟨_,s0,s1,_⟩:=hc.set (ZD (l:=l) (i:=(nth a k).toNat) Za);have:=((CZ s0 s1 hn hk).1 g2).2 t Za t2;omega
  ·rename_i ho
   have hoff:(nth x.orders k).off=false:=by
    grind
   have hak:nth a k<0:=Jw.1 fun g=>ho (.inr g)
   have hcv:s.cov.toNat.testBit k=false:=by rw [h.cov k hk];grind
   rw [CW h.ix (by grind [EI]) (by rw [Bk h.v Za,hcv]),Yi,if_neg (by rw [h.ix];omega)]
   have e2:nth (fstF x.orders.length ys) s.ix.toNat=Yd ys k:=by rw [h.ix,X6,LY,if_pos hk]
   rw [e2,Et (q:=Ky x ys D s) fun c hm=>pJ hc hD h.v h.ix hk hoff hcv hm]
   cases hfd:(Yd ys k).find? (Ky x ys D s) with
   | some c =>
    have hsel:=EH hfd;have hm:=Vv hfd;simp only [Ky,ZO] at hsel;obtain ⟨p1,p2,p3⟩:=JE hc h hk hm hsel.1;have hch:=h.child hc hk p1 p3;obtain ⟨c1,c2⟩:=KP h.len p3;rw [p2] at hch c1 c2;have hg:=(CB hc (D:=D) d (k+1) (Ad s c) _ Za hch).2 k hk (.inl Za);rw [Xt (by rw [h.len];exact hk),if_pos c1] at hg;simp only;rw [Fs h.ix hk hn (Ks hc hk hm).2.2.2,BX hc hD d (k+1) (Ad s c) _ f Za Za hch,RA,UA,hg,if_pos ⟨Za,by rw [X6,p2];exact (Ks hc hk hm).2.2.1⟩,if_neg Za,X6,p2]
    rfl
   | none =>
    have hg:=(CB hc (D:=D) d (k+1) (DS s) a Za (h.skip' hk)).2 k hk (.inl Za);simp only;have e3:CL x.orders.length (mI x) s=W5 x.orders.length (mI x) (DS s):=rfl;rw [e3,BX hc hD d (k+1) (DS s) a f Za Za (h.skip' hk),RA,UA,hg,if_neg Za,if_pos ⟨hak,hoff⟩,h.ix]
    rfl
theorem Q7 {l:List Col} {g:List Int} {c:Col} : ∀(d k:Nat),c∈RA l g d k↔ ∃i,k<=i/\i<k+d/\0<=nth g i/\QD (nth l (nth g i).toNat).set.toNat=(i:Int)/\c=nth l (nth g i).toNat
 | 0,k=>by simp [RA];omega
 | d+1,k=>by
  rw [RA,XI,Q7 d (k+1)]
  constructor
  ·rintro (h | ⟨i,h1,h2,h3⟩)
   ·split at h
    ·grind
    ·simp at h
   grind
  grind
theorem M6 {l:List Col} {g:List Int} : ∀(d k:Nat),(RA l g d k).Pairwise fun a b=>QD a.set.toNat<QD b.set.toNat
 | 0,k=> .nil
 | d+1,k=>by
  rw [RA,BE];refine ⟨?_,M6 d (k+1),fun a ha b hb=> ?_⟩
  ·split<;>simp
  ·split at ha
   ·rename_i hh;obtain ⟨i,h1,h2,h3,h4,rfl⟩:=(Q7 _ _).1 hb
    grind
   ·simp at ha
theorem OA {x:Inst} {g:List Int} : ∀(d k:Nat),UA x g (d+1) k=UA x g d k++(if nth g (k+d)<0/\(nth x.orders (k+d)).off=false then [((k+d:Nat):Int)] else [])
 | 0,k=>by simp [UA]
 | d+1,k=>by
  rw [UA,OA d (k+1),UA,UK,show k+1+d=k+(d+1) by omega]
theorem TO {x:Inst} {g:List Int} : ∀n,UA x g n 0=unI x g n
 | 0=>rfl
 | n+1=>by rw [OA,TO n,unI,XJ]
theorem ZbT : ∀S:Fin 16,0<S.val-> ∀i:Fin 4,S.val.testBit i.val=true->((S.val:Int)%(pw i.val:Nat)=0↔QD S.val=(i.val:Int)):=by decide+kernel
theorem Ak {l:List Col} {g:List Int} {T:Nat} {c:Col} : ∀k,c∈kE l g T k↔ ∃i,i<k/\0<=nth g i/\(nth l (nth g i).toNat).typ=T/\(nth l (nth g i).toNat).set%(pw i:Nat)=0/\c=nth l (nth g i).toNat
 | 0=>by simp [kE]
 | k+1=>by
  rw [kE,XI,Ak k]
  constructor
  ·grind
  grind
theorem Ij {l:List Col} {g:List Int} {n:Nat} {c:Col} : ∀T,c∈iE l g n T↔ ∃t,t<T/\c∈kE l g t n
 | 0=>by simp [iE]
 | T+1=>by
  rw [iE,XI,Ij T]
  grind
theorem Zir {x:Inst} (hx:InstOk x) {k:Nat} (hk:k<x.orders.length) (ho:(nth x.orders k).off=false):(0<=(nth x.orders k).penalty↔0<=skpF x k)/\(0<=skpF x k->skpF x k=skR x k):=by
 have ha:=(hx.orders.2 k hk).arg;simp only [argOk,rng,ZO,Zl] at ha
 have e:XD x k=if (nth x.orders k).penalty= -1 then (zSco,23) else (⟨(nth x.orders k).penalty,if (nth x.orders k).now= -1 then 0 else 1,0,0⟩,0):=by
  simp_all [XD,if_neg]
 by_cases hp:(nth x.orders k).penalty= -1
 ·simp_all [skpF]
 ·have hm:(if (nth x.orders k).now= -1 then (0:Int) else 1)=0\/(if (nth x.orders k).now= -1 then (0:Int) else 1)=1:=Za
  have e2:skpF x k=skR x k/\0<=skR x k:=by
   rw [skpF,skR,e,if_neg hp];generalize (if (nth x.orders k).now= -1 then (0:Int) else 1)=m at hm
   have:XE ⟨(nth x.orders k).penalty,m,0,0⟩=((((nth x.orders k).penalty*16+m)*16+0)*65536+0,0):=by
    rw [XE,if_neg (by grind),if_neg (by grind)]
   grind
  omega
theorem HI {x:Inst} {l ys:List Col} (hx:InstOk x) (hn:x.orders.length<=4) (hC:Cheap l ys) (hr: ∀c∈l,rightB x c=true) (hs: ∀c∈l,c.set<9223372036854775808):Ctx x l ys :=
 have hok:=OT hx hn hC hr hs
 ⟨hn,hok.typ.1,hC,hr,hs,hok,fun _ hk ho=>Zir hx hk ho⟩
theorem Iy {l:List Col} {n:Nat} {T:Int} : ∀m,m<=n->usdI l (List.replicate n (-1)) T m=0
 | 0,_=>rfl
 | m+1,h=>by
  rw [usdI,Iy m Za,Dw,PF Za,WU Za];rfl
theorem DL (x:Inst) (l:List Col):Nd x l (List.replicate x.orders.length (-1)) zSt 0:=by
 have hz: ∀i,i<x.orders.length->nth (List.replicate x.orders.length (-1:Int)) i= -1:=fun i hi=>PF hi;refine ⟨Zb,rfl,tQ _,fun i hi=> ?_,fun i hi=>by grind,fun T hT=> ?_,fun i hi h=>by grind,fun i hi _ h=>by grind,fun i hi h=>by grind⟩
 ·simp_all [zSt]
 ·rw [Iy _ (Xf _)]
  have:T=0\/T=1\/T=2\/T=3\/T=4\/T=5:=Za
  rcases this with rfl | rfl | rfl | rfl | rfl | rfl<;>rfl
theorem Nd.RngA {x:Inst} {l:List Col} {a:List Int} {s:St} {k:Nat} (h:Nd x l a s k):RngA x l a:=⟨h.len,h.rng⟩
theorem Gn {x:Inst} {l ys:List Col} (hc:Ctx x l ys) {D:Nat} : ∀(d k:Nat) (s:St) (a:List Int),k+d=x.orders.length->Nd x l a s k-> ∃s',Nd x l (gr x l ys D d k s a) s' x.orders.length
 | 0,k,s,a,hd,h=>⟨s,by grind [gr]⟩
 | d+1,k,s,a,hd,h=>by
  have hk:k<x.orders.length:=Za
  rw [gr]
  split
  ·exact Gn hc d (k+1) _ _ Za (h.skip' hk)
  ·split
   ·rename_i c hf;have hsel:=EH hf;simp only [Ky,ZO] at hsel;obtain ⟨p1,p2,p3⟩:=JE hc h hk (Vv hf) hsel.1;have hch:=h.child hc hk p1 p3;rw [p2] at hch;exact Gn hc d (k+1) _ _ Za hch
   ·exact Gn hc d (k+1) _ _ Za (h.skip' hk)
theorem OE {x:Inst} {l ys:List Col} (hc:Ctx x l ys) {D:Nat} (hD:10<D) :
  (Lx x ys D zSt<0->(Nb x l).found=false)/\(0<=Lx x ys D zSt->Nb x l=⟨true,gr x l ys D x.orders.length 0 zSt (List.replicate x.orders.length (-1)),Lx x ys D zSt⟩):=by
 have hz:=DL x l;have hb:=KU hc hD x.orders.length 0 zSt _ _ 0 Za hz hz KE.refl;obtain ⟨s',hg⟩:=Gn hc (D:=D) x.orders.length 0 zSt _ Za hz
 constructor
 ·intro h
  have:Db x l x.orders.length (List.replicate x.orders.length (-1)) 0= []:=by
   cases e:Db x l x.orders.length (List.replicate x.orders.length (-1)) 0 with
   | nil=>rfl
   | cons q L=>grind
  rw [Nb,this];rfl
 ·intro h;have hin:=Lz hc hD x.orders.length 0 zSt _ 0 Za hz h;rw [BF] at hin;refine G2 (.inl rfl) (fun q hq=> ?_) hin;obtain ⟨_,h2,h3⟩:=hb q hq;rw [BF] at h2 h3;exact ⟨h2,fun e=>tS hg.RngA (DK _ hz.RngA q hq) (h3 e)⟩
theorem PO {l:List Col} {g:List Int} {T n:Nat} (hdv: ∀i,i<n->0<=nth g i->((nth l (nth g i).toNat).set%(pw i:Nat)=0↔QD (nth l (nth g i).toNat).set.toNat=(i:Int))): ∀k,k<=n->(kE l g T k).Pairwise fun a b=>lU a b<0
 | 0,_=> .nil
 | k+1,hk=>by
  rw [kE,BE];refine ⟨PO hdv k Za,by split<;>simp,fun a ha b hb=> ?_⟩
  split at hb
  ·rename_i hh
   obtain rfl:b=nth l (nth g k).toNat:=by grind
   obtain ⟨i,h1,h2,h3,h4,rfl⟩:=(Ak _).1 ha;rw [Ql,h3,hh.2.1]
   right
   refine ⟨rfl,?_⟩
   show QD _<QD _
   grind
  ·simp at hb
theorem PQ {l:List Col} {g:List Int} {n:Nat} (hdv: ∀i,i<n->0<=nth g i->((nth l (nth g i).toNat).set%(pw i:Nat)=0↔QD (nth l (nth g i).toNat).set.toNat=(i:Int))): ∀T,(iE l g n T).Pairwise fun a b=>lU a b<0
 | 0=> .nil
 | T+1=>by
  rw [iE,BE];refine ⟨PQ hdv T,PO hdv n (Xf _),fun a ha b hb=> ?_⟩;obtain ⟨t,h1,h2⟩:=(Ij _).1 ha;obtain ⟨i,_,_,h3,_,rfl⟩:=(Ak _).1 h2;obtain ⟨j,_,_,h5,_,rfl⟩:=(Ak _).1 hb
  simp_all [Ql]
theorem S4 {x:Inst} {l ys:List Col} (hc:Ctx x l ys) {g:List Int} {s:St} (hg:Nd x l g s x.orders.length) {zs:List Col} (hp:zs.Perm (RA l g x.orders.length 0)) (ha:zs.Pairwise fun a b=> ¬lU b a<0):zs=iE l g x.orders.length x.types.length:=by
 have hn:=hc.n4;have hin: ∀i,i<x.orders.length->0<=nth g i->nth l (nth g i).toNat∈l:=fun i hi h0=>ZD (by have:=hg.rng i hi;omega)
 have hdv: ∀i,i<x.orders.length->0<=nth g i->((nth l (nth g i).toNat).set%(pw i:Nat)=0↔QD (nth l (nth g i).toNat).set.toNat=(i:Int)):=fun i hi h0=>by
  obtain ⟨e,s0,s1,_⟩:=hc.set (hin i hi h0);have h16:(nth l (nth g i).toNat).set.toNat<16:=UJ s1 (Yw (n:=2) Za hn);have:=ZbT ⟨_,h16⟩ s0 ⟨i,Za⟩ (hg.own i hi h0)
  grind
 have hne:zs.Pairwise fun a b=>lo a≠lo b:=by
  have h1:(RA l g x.orders.length 0).Pairwise fun a b=>lo a≠lo b:=(M6 _ _).imp fun {a b} h e=>by
   have e':QD a.set.toNat=QD b.set.toNat:=e;omega
  exact (hp.pairwise_iff fun h e=>h e.symm).2 h1
 have hz:zs.Pairwise fun a b=>lU a b<0:=(hne.and ha).imp fun {a b} h=>by
  have h1:=h.1;have h2:=h.2;rw [Ql] at h2 ⊢;omega
 refine Fj (r:=fun a b=>lU a b<0) (fun a=>by rw [Ql];omega) (fun a b=>by rw [Ql,Ql];omega) hz (PQ hdv _) fun c=> ?_;rw [hp.mem_iff,Q7,Ij]
 constructor
 ·rintro ⟨i,_,h1,h2,h3,rfl⟩;have ht:=(hc.typ (hin i Za h2)).1;exact ⟨(nth l (nth g i).toNat).typ.toNat,Za,(Ak _).2 ⟨i,Za,h2,Za,(hdv i Za h2).2 h3,rfl⟩⟩
 ·rintro ⟨t,_,h⟩;obtain ⟨i,h1,h2,h3,h4,rfl⟩:=(Ak _).1 h
  grind
theorem Bf {x:Inst} {ys:List Col} {D:Nat} (hD:D=20):HW x ys=Lx x ys D zSt:=by subst hD;rfl
theorem ZhK {x:Inst} {l:List Col} {a e e':Int} {b:Chc} (hx:InstOk x) (hn:x.orders.length<=4) (hs: ∀c∈l,c.set<9223372036854775808) (h:ZlO x l a e) (h':kF x l b e'):a=b.price/\e=e':=by
 rcases h with ⟨g1,rfl,rfl⟩ | ⟨g1,⟨c,gc,g2⟩,rfl,rfl⟩ | ⟨g1,g2,ys,g3,rfl,rfl⟩<;>rcases h' with ⟨k1,rfl,rfl⟩ | ⟨k1,⟨c',kc,k2⟩,rfl,rfl⟩ | ⟨k1,k2,k3⟩
 ·exact ⟨rfl,rfl⟩
 ·omega
 ·omega
 ·omega
 ·exact ⟨rfl,rfl⟩
 ·grind
 ·omega
 ·grind
 ·obtain ⟨D,hD⟩: ∃D:Nat,D=20:=⟨20,rfl⟩;rw [Bf hD];obtain ⟨q1,q2⟩:=OE (HI hx hn g3 g2 hs) (D:=D) Za;rcases k3 with ⟨f,rfl,rfl⟩ | ⟨f,rfl,rfl⟩
  ·have:Lx x ys D zSt<0:=Jw.1 fun h0=>by grind
   rw [if_pos this,if_pos this];exact ⟨rfl,rfl⟩
  grind
theorem aW {x:Inst} {l:List Col} {p q:Pln} {c e c' e':Int} (hx:InstOk x) (hn:x.orders.length<=4) (hs: ∀c∈l,c.set<9223372036854775808) (h:ChoR x l p c e) (h':ZfO x l q c' e'):c=c'/\e=e'/\p.routes=q.routes/\p.unserved=q.unserved/\p.routes.length<=24/\p.unserved.length<=24/\ ∀r∈p.routes,∃c∈l,r=c.route:=by
 obtain ⟨b,hb,h1,h2⟩:=h';have z:zPlC.routes.length<=24/\zPlC.unserved.length<=24/\ ∀r∈zPlC.routes,∃c∈l,r=c.route:=⟨by simp [zPlC],by simp [zPlC],fun r hr=>by simp [zPlC] at hr⟩;rcases h with ⟨g1,rfl,rfl,rfl⟩ | ⟨g1,⟨c,gc,g2⟩,rfl,rfl,rfl⟩ | ⟨g1,g2,ys,g3,g4,g5⟩<;>rcases hb with ⟨k1,rfl,rfl⟩ | ⟨k1,⟨c',kc,k2⟩,rfl,rfl⟩ | ⟨k1,k2,k3⟩
 ·grind
 ·omega
 ·omega
 ·omega
 ·grind
 ·grind
 ·omega
 ·grind
 ·obtain ⟨D,hD⟩: ∃D:Nat,D=20:=⟨20,rfl⟩;have hc:=HI hx hn g3 g2 hs;obtain ⟨q1,q2⟩:=OE hc (D:=D) Za;rw [Bf hD] at g5;rcases g5 with ⟨g6,rfl,rfl,rfl⟩ | ⟨g6,rfl,rfl,zs,hp,ha,rfl⟩
  ·grind
  ·rcases k3 with ⟨f,rfl,rfl⟩ | ⟨f,rfl,rfl⟩
   ·grind
   ·obtain ⟨rfl,rfl⟩:=h2 rfl;have hz:=DL x l;have hpk:=BX hc hD x.orders.length 0 zSt _ 20 Za Za hz;obtain ⟨s',hg⟩:=Gn hc (D:=D) x.orders.length 0 zSt _ Za hz;rw [q2 g6];simp only [mI] at hpk;rw [hpk] at hp ⊢;simp only at hp ⊢;have hzs:=S4 hc hg hp ha;rw [hg.len,TO,hzs];have l1:=PS (l:=l) (g:=gr x l ys D x.orders.length 0 zSt (List.replicate x.orders.length (-1))) (n:=x.orders.length) x.types.length;have l2:=Ra (x:=x) (g:=gr x l ys D x.orders.length 0 zSt (List.replicate x.orders.length (-1))) x.orders.length
    have l3:x.types.length*x.orders.length<=6*4:=Nat.mul_le_mul hc.t6 hn;refine ⟨trivial,trivial,rfl,rfl,by grind,Za,fun r hr=> ?_⟩;obtain ⟨c,hcm,rfl⟩:=Xg.1 hr;rw [<- hzs,hp.mem_iff,Q7] at hcm;obtain ⟨i,_,i1,i2,_,rfl⟩:=hcm;exact ⟨_,ZD (by have:=hg.rng i Za;omega),rfl⟩
theorem Oo {g:FuncId} {args:List V} {R:Pln->Int->Int->Prop} {H:List AM.Obj} {K:V->List AM.Obj->Prop} (h:ACalls Tryz.prog g args [] fun y H'=> ∃p c e,R p c e/\y= .tup [.p (Ue p),.p (.int .i64 c),.p (.int .i64 e)]/\H'= []) (k: ∀p c e,R p c e->K (.tup [.p (Ue p),.p (.int .i64 c),.p (.int .i64 e)]) H) (ha:Xd 0 args=true:=by rfl):ACalls Tryz.prog g args H K :=
 (h.behind ha H).mono fun x H' hq=>by
  obtain ⟨y,H1,⟨p,c,e,hr,rfl,rfl⟩,rfl,rfl⟩:=hq
  grind [shV,shVs]
theorem C1 {ok:List Vis->Bool} {col:List Vis->Col} {better:Col->Col->Bool} : ∀(L:List (List Vis)) (b:Col×Bool),(L.foldl (Wu ok col better) b).2=true->(b.2=true/\(L.foldl (Wu ok col better) b).1=b.1)\/ ∃m∈L,ok m=true/\(L.foldl (Wu ok col better) b).1=col m
 | [],b,h=> .inl ⟨h,rfl⟩
 | l::L,b,h=>by
  rw [Yp] at h ⊢;rcases C1 L _ h with ⟨h1,h2⟩ | ⟨m,h1,h2,h3⟩
  ·rw [h2];unfold Wu at h1 ⊢
   grind
  grind
theorem Ct {x:Inst} {k:Int} {S:Nat} (h:(QJ x k S).2=0): ∃m,m∈Pw x k S (VT x S) [] (st0 (nth x.types k.toNat))/\Fz x k m=true/\(QJ x k S).1=Uc x k S m:=by
 unfold QJ at h ⊢
 split at h
 ·rename_i hc;rw [if_pos hc];rcases C1 _ _ hc.2 with ⟨h1,_⟩ | ⟨m,h1,h2,h3⟩
  ·cases h1
  ·exact ⟨m,h1,h2,h3⟩
 ·cases h
theorem Mi {one:Nat->List Col} {c:Col} : ∀q,c∈E5 one q↔ ∃S,1<=S/\S<=q/\c∈one S
 | 0=>by simp [E5];omega
 | q+1=>by
  rw [E5,XI,Mi q]
  grind
theorem IM {one:Nat->Nat->List Col} {N:Nat} {c:Col} : ∀K,c∈J1 one N K↔ ∃k S,k<K/\1<=S/\S<=N/\c∈one k S
 | 0=>by simp [J1]
 | K+1=>by
  rw [J1,XI,IM K,Mi]
  grind
noncomputable def allL (x:Inst):List Col:=J1 (Ko x) (2^x.orders.length-1) x.types.length
theorem Bb {x:Inst} {c:Col} :c∈allL x↔ ∃k S,k<x.types.length/\0<S/\S<2^x.orders.length/\(QJ x (k:Int) S).2=0/\c=(QJ x (k:Int) S).1:=by
 have hp1:1<=2^x.orders.length:=Nat.one_le_two_pow;rw [allL,IM]
 constructor
 ·grind [Ko]
 ·rintro ⟨k,S,h1,h2,h3,h4,h5⟩;exact ⟨k,S,h1,Za,Za,by simp_all [Ko]⟩
theorem T4 {x:Inst} {c:Col} (h:c∈allL x): ∃(k S:Nat) (m:List Vis),k<x.types.length/\0<S/\S<2^x.orders.length/\m.length=VT x S/\Fz x k m=true/\c=Uc x k S m:=by
 obtain ⟨k,S,h1,h2,h3,h4,rfl⟩:=Bb.1 h;obtain ⟨m,m1,m2,m3⟩:=Ct h4;exact ⟨k,S,m,h1,h2,h3,by have:=HZ _ _ _ m m1;grind,m2,m3⟩
theorem Dz {x:Inst} (hn:x.orders.length<=4) (h6:x.types.length<=6):(allL x).length<=96/\ ∀c∈allL x,c.set<9223372036854775808/\Ik c.route:=by
 have hp2:2^x.orders.length<=2^4:=Yw Za hn;refine ⟨?_,fun c hc=> ?_⟩
 ·have h1:=D6 (N:=2^x.orders.length-1) (ET (x:=x)) x.types.length;have h2:x.types.length*(2^x.orders.length-1)<=6*16:=Nat.mul_le_mul Za Za;unfold allL;omega
 ·obtain ⟨k,S,m,_,_,h3,h4,_,rfl⟩:=T4 hc;have:=Iw x S x.orders.length;unfold VT at h4;exact ⟨by grind [Uc],by grind [Uc,Di],by simp [Uc,Di]⟩
theorem P0 (x:Inst) (hx:InstOk x) (hn:x.orders.length<=4) (h6:x.types.length<=6) (hbl:x.before.length<=1048576) (hal:x.apart.length<=1048576) :
  ACalls Tryz.prog 37 [.p (ZG x)] [] fun y H'=> ∃p c e,ChoR x (allL x) p c e/\y= .tup [.p (Ue p),.p (.int .i64 c),.p (.int .i64 e)]/\H'= []:=by
 obtain ⟨hl,hc⟩:=Dz hn h6;have ca:=L9 x hx hn h6 hbl hal;have cc:=SN x (allL x) false hx hn Za (fun c h=>(hc c h).1) Za;rw [show J1 (Ko x) (2^x.orders.length-1) x.types.length=allL x from rfl] at ca;generalize allL x=L at ca cc ⊢;refine Zf [] Tryz.func37 rfl Zhl ?_;simp (disch:=omega) only [Tryz.f37,go_sem,seval];refine Dx ca (Wt ?_);refine Oo cc fun p c e hR=>Wt ?_;exact ⟨.tup [.p (Ue p),.p (.int .i64 c),.p (.int .i64 e)],[],wk,p,c,e,hR,rfl,rfl⟩
def dayI (ds:List Inst) (P:List Pln) (X:List Inst) (j:Nat):Inst:=if j=0 then wO (nth ds 0) else bO (nth ds j) (nth X (j-1)) (nth P (j-1))
def dayE (ds:List Inst) (P:List Pln) (X:List Inst) (j:Nat):Int:=if j=0 then 0 else TC (nth ds j) (nth X (j-1)) (nth P (j-1))
structure WkS (ds:List Inst) (P:List Pln) (X:List Inst) (k:Nat):Prop where
 pl:P.length=k
 xl:X.length=k
 st: ∀j,j<k->nth X j=dayI ds P X j/\dayE ds P X j=0/\ ∃c,ChoR (nth X j) (allL (nth X j)) (nth P j) c 0
def PlanR (ds:List Inst) (P:List Pln) (X:List Inst) (e:Int):Prop :=
 ∃P' X' k,WkS ds P' X' k/\k<=ds.length/\((k=ds.length/\e=0/\P=P'/\X=X')\/(k<ds.length/\e≠0/\P= []/\X= [] /\
  ((dayE ds P' X' k=e)\/(dayE ds P' X' k=0/\ ∃p c,ChoR (dayI ds P' X' k) (allL (dayI ds P' X' k)) p c e))))
def TI (x:Inst):Prop:=Dn x 2/\x.wf 1048576
theorem BP {α:Type} [Inhabited α] {a b:List α} {j:Nat} (h:j<a.length):nth (a++b) j=nth a j:=by
 grind [Ze]
theorem LZ {α:Type} [Inhabited α] {a:List α} {x:α} :nth (a++ [x]) a.length=x:=by
 grind [Ze]
theorem bT {ds:List Inst} {P:List Pln} {X:List Inst} {j:Nat} {p:Pln} {x:Inst} (h1:j<=P.length) (h2:j<=X.length):dayI ds (P++ [p]) (X++ [x]) j=dayI ds P X j/\dayE ds (P++ [p]) (X++ [x]) j=dayE ds P X j:=by
 unfold dayI dayE
 by_cases h:j=0
 ·simp [h]
 ·rw [if_neg h,if_neg h,if_neg h,if_neg h,BP Za,BP Za];simp
theorem WkS.zero {ds:List Inst} :WkS ds [] [] 0:=⟨rfl,rfl,fun j h=>Za⟩
theorem WkS.snoc {ds:List Inst} {P:List Pln} {X:List Inst} {k:Nat} (h:WkS ds P X k) {p:Pln} {c:Int} (he:dayE ds P X k=0) (hp:ChoR (dayI ds P X k) (allL (dayI ds P X k)) p c 0):WkS ds (P++ [p]) (X++ [dayI ds P X k]) (k+1):=by
 obtain ⟨rfl,h2,h3⟩:=h;refine ⟨Zb,by simp [h2],fun j hj=> ?_⟩;obtain ⟨e1,e2⟩:=bT (ds:=ds) (P:=P) (X:=X) (p:=p) (x:=dayI ds P X P.length) (show j<=P.length by omega) (show j<=X.length by omega);rw [e1,e2]
 by_cases hjk:j<P.length
 ·rw [BP hjk,BP Za]
  grind
 ·have:j=P.length:=Za
  subst this;have n1:nth (P++ [p]) P.length=p:=LZ
  have n2:nth (X++ [dayI ds P X P.length]) P.length=dayI ds P X P.length:=by rw [<- h2];exact LZ
  grind
theorem Bl {ds:List Inst} {P:List Pln} {X:List Inst} {j:Nat} :(dayI ds P X j).orders.length=(nth ds j).orders.length/\(dayI ds P X j).types=(nth ds j).types/\(dayI ds P X j).apart=(nth ds j).apart/\(dayI ds P X j).before=(nth ds j).before:=by
 unfold dayI
 by_cases h:j=0
 ·subst h;exact ⟨WM,rfl,rfl,rfl⟩
 ·rw [if_neg h];exact ⟨WM,rfl,rfl,rfl⟩
theorem O0 {ds:List Inst} {P:List Pln} {X:List Inst} {k:Nat} (hk:k<ds.length) (hD: ∀x∈ds,TI x) (h: ∀i,i<k->nth X i=dayI ds P X i) (he:dayE ds P X k=0):InstOk (dayI ds P X k)/\(dayI ds P X k).wf 1048576:=by
 have hd:=hD _ (Zq hk)
 by_cases h0:k=0
 ·subst h0;rw [dayI,if_pos rfl];exact ⟨wP hd.1.2.2.2.2.2.2,wQ hd.2 (by have:=hd.1.2.1;omega)⟩
 ·have hd1:=hD _ (Zq (show k-1<ds.length by omega))
  have ht:(nth X (k-1)).types.length=(nth ds (k-1)).types.length:=by grind [Bl]
  rw [dayE,if_neg h0] at he;rw [dayI,if_neg h0]
  have hz:Jo (nth X (k-1)) (nth P (k-1))=0:=by grind [TC]
  exact ⟨bP hd.1.2.2.2.2.2.2 he,bQ hd.2 hz (by have:=hd1.1.2.1;omega)⟩
theorem lZ (x:Inst) (l:List Col): ∃q c e,ZfO x l q c e:=by
 suffices h: ∃b e,kF x l b e by
  obtain ⟨b,e,h⟩:=h
  by_cases he:e=0
  ·exact ⟨_,_,e,b,h,fun h=>absurd he h,fun _=>⟨rfl,rfl⟩⟩
  ·exact ⟨_,_,e,b,h,fun _=>⟨rfl,rfl⟩,fun h=>absurd h he⟩
 unfold kF
 by_cases h1:8192<l.length
 ·grind
 ·by_cases h2: ∃c∈l,rightB x c=false
  ·exact ⟨_,_,.inr (.inl ⟨Za,h2,rfl,rfl⟩)⟩
  ·have h3: ∀c∈l,rightB x c=true:=fun c hc=>by
    grind
   cases hf:(Nb x l).found with
   | false=>exact ⟨_,_,.inr (.inr ⟨Za,h3,.inl ⟨rfl,rfl,rfl⟩⟩)⟩
   | true=>exact ⟨_,_,.inr (.inr ⟨Za,h3,.inr ⟨rfl,rfl,rfl⟩⟩)⟩
theorem vY {x:Inst} {p:Pln} {c e:Int} (hx:InstOk x) (hn:x.orders.length<=4) (h6:x.types.length<=6) (h:ChoR x (allL x) p c e):p.routes.length<=24/\p.unserved.length<=24/\ ∀r∈p.routes,Ik r:=by
 obtain ⟨q,c',e',h'⟩:=lZ x (allL x);obtain ⟨_,hc⟩:=Dz hn h6;obtain ⟨_,_,_,_,r3,r4,r5⟩:=aW hx hn (fun c h=>(hc c h).1) h h'
 grind
theorem WkS.facts {ds:List Inst} {P:List Pln} {X:List Inst} {k:Nat} (h:WkS ds P X k) (hD: ∀x∈ds,TI x) (hk:k<=ds.length) {j:Nat} (hj:j<k):InstOk (nth X j)/\(nth X j).wf 1048576/\(nth X j).orders.length<=2/\(nth X j).types.length<=2 /\
  (nth P j).routes.length<=24/\(nth P j).unserved.length<=24/\ ∀r∈(nth P j).routes,Ik r:=by
 obtain ⟨e1,e2,c,e3⟩:=h.st j hj;have hd:=hD _ (Zq (show j<ds.length by omega));have hok:=O0 (show j<ds.length by omega) hD (fun i hi=>(h.st i Za).1) e2;obtain ⟨l1,l2,_,_⟩:=Bl (ds:=ds) (P:=P) (X:=X) (j:=j);rw [<- e1] at hok l1 l2
 have o2:(nth X j).orders.length<=2:=by rw [l1];have:=hd.1.1;omega
 have t2:(nth X j).types.length<=2:=by rw [l2];exact hd.1.2.1
 exact ⟨hok.1,hok.2,o2,t2,vY hok.1 Za Za e3⟩
theorem WkS.next {ds:List Inst} {P:List Pln} {X:List Inst} {k m:Nat} (h:WkS ds P X m) (hD: ∀x∈ds,TI x) (hm:k<=m) (hk:k<ds.length) (he:dayE ds P X k=0):InstOk (dayI ds P X k)/\(dayI ds P X k).wf 1048576/\(dayI ds P X k).orders.length<=2/\(dayI ds P X k).types.length<=2:=by
 have hd:=hD _ (Zq hk);have hok:=O0 hk hD (fun i hi=>(h.st i Za).1) he;obtain ⟨l1,l2,_,_⟩:=Bl (ds:=ds) (P:=P) (X:=X) (j:=k);exact ⟨hok.1,hok.2,by rw [l1];have:=hd.1.1;omega,by rw [l2];exact hd.1.2.1⟩
theorem dC (x:Inst) (ho:x.orders.length<=1048576):PC 35 [.p (ZG x)] (ZG (wO x)) :=
 ACalls.read ((Pe x ho).mono fun y H' h=>by
  obtain ⟨rfl,rfl⟩:=h;simp [rd,rds,rd1,FL,oat,wO,ZG,WM]
  grind [Jp,WM])
def Ib (P:List Pln) (X:List Inst) (e:Int):V:= .tup [.p (.list (decide (e≠0)) (P.map Ue)),.p (.list (decide (e≠0)) (X.map ZG)),.p (.int .i64 e)]
theorem gN (ds:List Inst) (c:Bool) (hl:ds.length<=3) (hD: ∀x∈ds,TI x) :
  ACalls Tryz.prog 11 [.p (.list c (ds.map ZG))] [] fun y H'=> ∃P X e,PlanR ds P X e/\y=Ib P X e/\H'= []:=by
 refine Zf [5] Tryz.func11 rfl Zhd ?_;simp (disch:=omega) only [Tryz.f11,go_sem,seval];refine cD ?_ ?_<;>intro h0<;>simp (disch:=omega) only [Sh.out h0,go_sem,seval]
 ·omega
 refine Zs (Weak.ofNil 5 2 (by simp (disch:=omega) only [go_sem,seval]) Zb (Weak.ofNil 6 6 (by simp (disch:=omega) only [go_sem,seval]) Zb (Weak.refl _ _ _))) ?_;refine Zg [20] _ _ _ _ (Wt ?_);refine Xe [20] [18,19] (fun q:Nat×List Pln×List Inst=> [(5,.sl 0 0 q.2.1.length q.2.1.length),(6,.sl 1 0 q.2.2.length q.2.2.length),(20,.p (.int .i64 q.1))]) (fun q=> [.elems 2 (q.2.1.map Ue),.elems 6 (q.2.2.map ZG)]) (fun q=>WkS ds q.2.1 q.2.2 q.1/\q.1<=ds.length) (fun q=>ds.length-q.1) (0,[],[]) ⟨WkS.zero,Zb⟩ (Weak.mk ?_) ?_
 ·simp (disch:=omega) only [Zo,go_sem,seval]
 ·rintro ⟨k,P,X⟩ ⟨hw,hk⟩;simp only at hw hk;have hpl:=hw.pl;have hxl:=hw.xl;refine Wt ?_;refine cD ?_ ?_<;>intro h1<;>simp (disch:=omega) only [Sh.out h1,go_sem,seval,↓reduceIte]
  ·have hk2:k<ds.length:=Za
   have hd:=(hD _ (Zq hk2)).1;have hd1:=hd.1;have hd2:=hd.2.1;have hd5:=hd.2.2.2.2.1;have hd6:=hd.2.2.2.2.2.1;obtain ⟨_,l2,l3,l4⟩:=Bl (ds:=ds) (P:=P) (X:=X) (j:=k);have cf:=dC (nth ds k) Za;generalize hY0:wO (nth ds k)=Y0 at cf;refine (cf).use (Wt ?_);refine cD ?_ ?_<;>intro h2<;>simp (disch:=omega) only [Sh.out h2,go_sem,seval,↓reduceIte]
   ·have hb:=hw.facts hD hk (show k-1<k by omega);have cc:=lT (nth ds k) (nth X (k-1)) (nth P (k-1)) Za Za Za Za Za (fun r hr=>(hb.2.2.2.2.2.2 r hr).1)
    have hix:((k:Int)-1).toNat=k-1:=Za
    have hlt:k-1<k:=Za
    have heX:QC (X.map ZG) (k-1)=ZG (nth X (k-1)):=Wq Za;have heP:QC (P.map Ue) (k-1)=Ue (nth P (k-1)):=Wq Za
    have hdE:dayE ds P X k=TC (nth ds k) (nth X (k-1)) (nth P (k-1)):=by rw [dayE,if_neg Za]
    have hdI:dayI ds P X k=bO (nth ds k) (nth X (k-1)) (nth P (k-1)):=by rw [dayI,if_neg Za]
    by_cases hz:dayE ds P X k=0
    ·obtain ⟨n1,n2,n3,n4⟩:=hw.next hD (Xf _) hk2 hz;have hs:=fun p c (h:ChoR (dayI ds P X k) (allL (dayI ds P X k)) p c 0)=>hw.snoc hz h;have hf: ∀p c e,e≠0->ChoR (dayI ds P X k) (allL (dayI ds P X k)) p c e->PlanR ds [] [] e:=fun p c e he h=>⟨P,X,k,hw,hk,.inr ⟨hk2,he,rfl,rfl,.inr ⟨hz,p,c,h⟩⟩⟩;rw [crT,<- hdE,if_pos hz,hz,<- hdI] at cc;generalize dayI ds P X k=Y at cc n1 n2 n3 n4 hs hf l2 l3 l4;have hsv:=P0 Y n1 Za Za (by grind) (by grind);refine Xa [15,16] 17 mixed Zd Zd Zd Zb ?_
     simp (disch:=first | omega | (simp only [ZH,Zw,Zn,Zx,ZC,ZK]<;>omega)) only [hix,heX,heP,hxl,hpl,hlt,eq_self,go_sem,seval,↓reduceIte];refine Wr cc (Wt ?_);refine ZF 15 _ _ Zd (by refine Wt ?_;exact ⟨rfl,rfl⟩) ?_;refine Wt ?_;refine ZF 16 _ _ Zd (by refine Wt ?_;exact ⟨rfl,rfl⟩) (X5 ?_);refine Wt ?_;refine Oo hsv fun p c e hP=>Wt ?_;refine cD ?_ ?_<;>intro h4<;>simp (disch:=omega) only [Sh.out h4,go_sem,seval,↓reduceIte]
     ·exact ⟨_,_,Weak.mk (by simp (disch:=omega) only [Ib,Zo,Yq h4,go_sem,seval]),[],[],e,hf p c e h4 hP,rfl,rfl⟩
     ·have he:e=0:=Za
      subst he
      have hc1:(k+1)*48<=140737488355328:=Za
      have hc2:k<=140737488355327:=Za
      have hc3:(k+1)*144<=140737488355328:=Za
      simp (disch:=first | omega | (simp only [ZH,Zw,Zn,Zx,ZC,ZK]<;>omega)) only [hpl,hxl,eq_self,hc1,hc2,hc3,and_self,go_sem,seval];exact ⟨(k+1,P++ [p],X++ [Y]),⟨hs p c hP,Za⟩,Za,Weak.mk (by simp (disch:=first | omega | (simp only [ZH,Zw,Zn,Zx,ZC,ZK]<;>omega)) only [X0,Zu,Zo,hxl,hpl,go_sem,seval])⟩
    ·have hf:PlanR ds [] [] (dayE ds P X k):=⟨P,X,k,hw,hk,.inr ⟨hk2,hz,rfl,rfl,.inl rfl⟩⟩;rw [crT,<- hdE,if_neg hz] at cc;generalize dayE ds P X k=E at cc hz hf;refine Xa [15,16] 17 mixed Zd Zd Zd Zb ?_;simp (disch:=first | omega | (simp only [ZH,Zw,Zn,Zx,ZC,ZK]<;>omega)) only [hix,heX,heP,hxl,hpl,hlt,eq_self,go_sem,seval,↓reduceIte];refine Wr cc (Wt ?_);refine ZF 15 _ _ Zd (by refine Wt ?_;exact ⟨rfl,rfl⟩) ?_
     refine Wt ?_;refine ZF 16 _ _ Zd (by refine Wt ?_;exact ⟨rfl,rfl⟩) (X5 ?_);refine Wt ?_;refine cD ?_ ?_<;>intro h4<;>simp (disch:=omega) only [Sh.out h4,go_sem,seval,↓reduceIte]
     ·exact ⟨_,_,Weak.mk (by simp (disch:=omega) only [Ib,Zo,Yq h4,go_sem,seval]),[],[],E,hf,rfl,rfl⟩
     ·omega
   ·have hk0:k=0:=Za
    subst hk0
    have hz:dayE ds P X 0=0:=by rfl
    have hdI:dayI ds P X 0=Y0:=by rw [dayI,if_pos rfl,hY0]
    obtain ⟨n1,n2,n3,n4⟩:=hw.next hD (Xf _) hk2 hz;have hs:=fun p c (h:ChoR (dayI ds P X 0) (allL (dayI ds P X 0)) p c 0)=>hw.snoc hz h;have hf: ∀p c e,e≠0->ChoR (dayI ds P X 0) (allL (dayI ds P X 0)) p c e->PlanR ds [] [] e:=fun p c e he h=>⟨P,X,0,hw,hk,.inr ⟨hk2,he,rfl,rfl,.inr ⟨hz,p,c,h⟩⟩⟩;rw [hdI] at n1 n2 n3 n4 hs hf l2 l3 l4;refine Oo (P0 Y0 n1 Za Za (by grind) (by grind)) fun p c e hP=>Wt ?_;refine ZN ?_ ?_<;>intro h4
    ·exact ⟨_,_,Weak.mk (by simp (disch:=omega) only [Ib,Zo,Yq h4,go_sem,seval]),[],[],e,hf p c e h4 hP,rfl,rfl⟩
    ·have he:e=0:=Za
     subst he;exact ⟨(1,P++ [p],X++ [Y0]),⟨hs p c hP,Za⟩,Za,Weak.mk (by simp (disch:=first | omega | (simp only [ZH,Zw,Zn,Zx,ZC,ZK]<;>omega)) only [X0,Zu,Zo,hxl,hpl,go_sem,seval])⟩
  ·have hkl:k=ds.length:=Za
   refine Zs (Weak.fz (o:=0) (by rfl)) ?_;refine Zs (Weak.fz (o:=1) (by rfl)) ?_;refine Zg [] _ _ _ _ ?_;simp (disch:=omega) only [Zu,Zo,Xr,Yf,hxl,hpl,eq_self,go_sem,seval];exact ⟨_,_,Weak.mk (by simp (disch:=omega) only [Ib,go_sem,seval]),P,X,0,⟨P,X,k,hw,hk,.inl ⟨hkl,rfl,rfl,rfl⟩⟩,rfl,rfl⟩
def hasC (l:List Col) (j t:Nat):Bool:=(nth l j).set.toNat.testBit t
def anyC (l:List Col) (j k:Nat):Bool:=(List.range k).any (hasC l j)
theorem Wo {l:List Col} {j k:Nat} :anyC l j (k+1)=(anyC l j k||hasC l j k):=by
 grind [anyC]
theorem IN {l:List Col} {j k:Nat} :anyC l j k=true↔ ∃t,t<k/\hasC l j t=true:=by simp [anyC]
structure Prt (x:Inst) (l:List Col) (js:List Nat):Prop where
 lt: ∀j∈js,j<l.length
 set: ∀j∈js,∀t,hasC l j t=true->t<x.orders.length/\(nth x.orders t).off=false
 dis: ∀i∈js,∀j∈js,∀t,hasC l i t=true->hasC l j t=true->i=j
 nod:js.Nodup
 cnt: ∀j∈js,((js.filter fun i=>decide ((nth l i).typ=(nth l j).typ)).length:Int)<=(nth x.types (nth l j).typ.toNat).count
 srv: ∀k,k<x.orders.length->(nth x.orders k).off=false->(∃j∈js,hasC l j k=true)\/0<=(nth x.orders k).penalty
def Ds (x:Inst) (l:List Col) (js:List Nat) (k:Nat):Int:=match js.find? (fun j=>hasC l j k) with
 | some j=>if anyC l j k=true then 0 else (nth l j).price
 | none=>if (nth x.orders k).off=true then 0 else skR x k
def HG (x:Inst) (l:List Col) (js:List Nat):Nat->Int
 | 0=>0
 | d+1=>Ds x l js (x.orders.length-(d+1))+HG x l js d
structure PNd (x:Inst) (l:List Col) (js:List Nat) (a:List Int) (k:Nat):Prop where
 len:a.length=x.orders.length
 pos: ∀i,i<x.orders.length-> ∀j∈js,hasC l j i=true->nth a i=if anyC l j k=true then (j:Int) else-1
 neg: ∀i,i<x.orders.length->(∀j∈js,hasC l j i=false)->nth a i= -1
 used: ∀T,usdI l a T x.orders.length=(js.filter fun j=>decide ((nth l j).typ=T)&&anyC l j k).length
theorem PNd.same {x:Inst} {l:List Col} {js:List Nat} {a:List Int} {k:Nat} (h:PNd x l js a k) (hs: ∀j∈js,anyC l j (k+1)=anyC l j k):PNd x l js a (k+1) :=
 ⟨h.len,fun i hi j hj hb=>by rw [hs j hj];exact h.pos i hi j hj hb,h.neg,fun T=>by
  rw [h.used T]
  grind [U7]⟩
theorem AW {α:Type} [DecidableEq α] {p q:α->Bool} {a:α} : ∀ {l:List α},l.Nodup->a∈l->p a=false->q a=true->(∀b∈l,b≠a->p b=q b)->(l.filter q).length=(l.filter p).length+1
 | [],_,h,_,_,_=>by simp at h
 | b::l,hn,h,hp,hq,he=>by
  rw [List.nodup_cons] at hn
  by_cases e:b=a
  ·grind [U7]
  ·have ih:=AW hn.2 (by
    grind) hp hq fun c hc=>he c (Yv _ hc)
   grind
theorem EZ {x:Inst} {l:List Col} {js:List Nat} (hp:Prt x l js): ∀(d:Nat) (a:List Int) (p:Int),d<=x.orders.length->PNd x l js a (x.orders.length-d)-> ∃q∈Db x l d a p,q.2=p+HG x l js d
 | 0,a,p,_,_=>⟨(a,p),by simp [Db],by simp [HG]⟩
 | d+1,a,p,hd,h=>by
  obtain ⟨k,hk⟩: ∃k,k=x.orders.length-(d+1):=⟨_,rfl⟩
  have hkn:k<x.orders.length:=Za
  have hk1:x.orders.length-d=k+1:=Za
  rw [<- hk] at h;rw [Db,HG,<- hk];have goOn:(∀j∈js,anyC l j (k+1)=anyC l j k)-> ∀p',∃q∈Db x l d a p',q.2=p'+HG x l js d:=fun hs p'=>EZ hp d a p' Za (by rw [hk1];exact h.same hs)
  cases hf:js.find? (fun j=>hasC l j k) with
  | none =>
   have hno: ∀j∈js,hasC l j k=false:=fun j hj=>by
    grind
   have hs: ∀j∈js,anyC l j (k+1)=anyC l j k:=fun j hj=>by simp_all [Wo]
   have hc:Ds x l js k=if (nth x.orders k).off=true then 0 else skR x k:=by rw [Ds,hf]
   have hneg:=h.neg k hkn hno
   by_cases ho:(nth x.orders k).off=true
   ·simp_all
   ·have hcond: ¬((nth x.orders k).off=true\/0<=nth a k):=fun g=>g.elim ho fun g=>Za
    rw [if_neg hcond,hc,if_neg ho]
    have ho:(nth x.orders k).off=false:=by grind
    have hpen:0<=(nth x.orders k).penalty:=by
     rcases hp.srv k hkn ho with ⟨j,hj,hb⟩ | h
     ·grind
     ·exact h
    obtain ⟨q,hq,e⟩:=goOn hs (p+skR x k)
    grind
  | some j =>
   have hj:=Vv hf
   have hb:hasC l j k=true:=by grind
   have hc:Ds x l js k=if anyC l j k=true then 0 else (nth l j).price:=by rw [Ds,hf]
   have hpos:=h.pos k hkn j hj hb
   have hother: ∀i∈js,i≠j->hasC l i k=false:=fun i hi hne=>by
    cases hq:hasC l i k with
    | false=>rfl
    | true=>exact absurd (hp.dis i hi j hj k hq hb) hne
   have hoff:=(hp.set j hj k hb).2
   cases ha:anyC l j k with
   | true =>
    rw [if_pos (.inr (by grind)),hc,if_pos ha,BF];refine goOn (fun i hi=> ?_) p
    by_cases e:i=j
    ·grind [Wo]
    simp_all [Wo]
   | false =>
    rw [ha,if_neg Zb] at hpos
    have hcond: ¬((nth x.orders k).off=true\/0<=nth a k):=fun g=>g.elim (fun g=>by grind) fun g=>Za
    have hc2:Ds x l js k=(nth l j).price:=by grind
    rw [if_neg hcond,hc2]
    have hno: ∀t,t<k->hasC l j t=false:=fun t ht=>by
     grind [IN]
    have hneg: ∀i,i<x.orders.length->(nth l j).set.toNat.testBit i=true->nth a i<0/\k<=i:=fun i hi hbi=>by
     have:=h.pos i hi j hj hbi;rw [ha,if_neg Zb] at this
     grind [hasC]
    have hcnt:=hp.cnt j hj
    have hadd: ∀T,(js.filter fun i=>decide ((nth l i).typ=T)&&anyC l i (k+1)).length=(js.filter fun i=>decide ((nth l i).typ=T)&&anyC l i k).length+(if (nth l j).typ=T then 1 else 0):=fun T=>by
     by_cases e:(nth l j).typ=T
     ·rw [if_pos e];refine AW hp.nod hj (by grind) (by simp_all [Wo]) fun i hi hne=> ?_
      simp_all [Wo]
     ·rw [if_neg e,Vh]
      congr 1
      refine U7 fun i hi=> ?_
      by_cases e2:i=j
      ·grind
      simp_all [Wo]
    have hle:(js.filter fun i=>decide ((nth l i).typ=(nth l j).typ)&&anyC l i (k+1)).length<=(js.filter fun i=>decide ((nth l i).typ=(nth l j).typ)).length:=by
     rw [<- Vz,<- Vz]
     simp_all [List.countP_mono_left]
    have hcan:Ei x l a j k=true:=by
     simp only [Ei,ZO,Zl,BR,h.len];refine ⟨hb,?_,hneg⟩;have h1:=h.used (nth l j).typ;have h2:=hadd (nth l j).typ
     grind
    have hfr: ∀i,i<x.orders.length->(nth l j).set.toNat.testBit i=false->nth a i≠(j:Int):=fun i hi hbi e=>by
     by_cases hex: ∃i'∈js,hasC l i' i=true
     ·obtain ⟨i',hi',hbb⟩:=hex;have:=h.pos i hi i' hi' hbb
      grind
     ·have:=h.neg i hi fun i' hi'=>by
       grind
      omega
    have hch:PNd x l js (Kz (nth l j).set.toNat a j) (k+1):=by
     refine ⟨by rw [QY];exact h.len,fun i hi i' hi' hbb=> ?_,fun i hi hn=> ?_,fun T=> ?_⟩
     ·rw [Xt (by rw [h.len];exact hi)]
      by_cases e:i'=j
      ·subst e;have:(nth l i').set.toNat.testBit i=true:=hbb;rw [if_pos this,if_pos (by rw [Wo,hb,Bool.or_true])]
      ·have:(nth l j).set.toNat.testBit i=false:=by
        cases hq:(nth l j).set.toNat.testBit i with
        | false=>rfl
        | true=>exact absurd (hp.dis i' hi' j hj i hbb hq) e
       rw [this,if_neg Zb,Wo,hother i' hi' e,Bool.or_false];exact h.pos i hi i' hi' hbb
     ·rw [Xt (by rw [h.len];exact hi)];have:(nth l j).set.toNat.testBit i=false:=hn j hj;rw [this,if_neg Zb];exact h.neg i hi hn
     ·rw [Ao h.len hkn hb hneg hfr T _ (Xf _),h.used T,hadd T];simp [hkn]
    obtain ⟨q,hq,e⟩:=EZ hp d _ (p+(nth l j).price) Za (by rw [hk1];exact hch);exact ⟨q,XI.2 (.inl (YN.2 ⟨j,ZQ.2 (hp.lt j hj),by grind⟩)),by rw [e];omega⟩
theorem Fp {ok:List Vis->Bool} {col:List Vis->Col} {better:Col->Col->Bool} (hb: ∀a b,(better a b=true->a.price<=b.price)/\(better a b=false->b.price<=a.price)): ∀(L:List (List Vis)) (b:Col×Bool),(b.2=true->(L.foldl (Wu ok col better) b).2=true/\(L.foldl (Wu ok col better) b).1.price<=b.1.price) /\
  ∀m∈L,ok m=true->(L.foldl (Wu ok col better) b).2=true/\(L.foldl (Wu ok col better) b).1.price<=(col m).price
 | [],b=>⟨fun h=>⟨h,Int.le_refl _⟩,fun m hm=>by simp at hm⟩
 | l::L,b=>by
  rw [Yp];obtain ⟨g1,g2⟩:=Fp hb L (Wu ok col better b l)
  have hu:(b.2=true->(Wu ok col better b l).2=true/\(Wu ok col better b l).1.price<=b.1.price)/\(ok l=true->(Wu ok col better b l).2=true/\(Wu ok col better b l).1.price<=(col l).price):=by
   unfold Wu
   split
   ·rename_i hc;refine ⟨fun h=>⟨rfl,?_⟩,fun _=>⟨rfl,Int.le_refl _⟩⟩;rcases hc.2 with h2 | h2
    ·rw [h2] at h;cases h
    ·exact (hb _ _).1 h2
   ·rename_i hc;refine ⟨fun h=>⟨h,Int.le_refl _⟩,fun h=> ?_⟩
    have h2:b.2=true:=by
     cases h3:b.2 with
     | true=>rfl
     | false=>exact absurd ⟨h,.inl h3⟩ hc
    have h4:better (col l) b.1=false:=by
     cases h3:better (col l) b.1 with
     | false=>rfl
     | true=>exact absurd ⟨h,.inr h3⟩ hc
    exact ⟨h2,(hb _ _).2 h4⟩
  refine ⟨fun h=> ?_,fun m hm hk=> ?_⟩
  ·obtain ⟨h1,h2⟩:=hu.1 h;obtain ⟨h3,h4⟩:=g1 h1;exact ⟨h3,Int.le_trans h4 h2⟩
  grind
theorem KF {f:Nat->Int} : ∀ {js:List Nat},(∀i∈js,f i=0)->(js.map f).sum=0
 | [],_=>rfl
 | a::js,h=>by rw [Zu,Vy,h a Zb,KF fun i hi=>h i (Yv _ hi)];rfl
theorem A7 {f:Nat->Int} {j:Nat} : ∀ {js:List Nat},js.Nodup->j∈js->(∀i∈js,i≠j->f i=0)->(js.map f).sum=f j
 | [],_,h,_=>by simp at h
 | a::js,hn,h,h0=>by
  rw [List.nodup_cons] at hn;rw [Zu,Vy]
  by_cases e:a=j
  ·subst e
   have:(js.map f).sum=0:=by
    exact KF fun i hi=>h0 i (Yv _ hi) fun e=>hn.1 (e ▸ hi)
   omega
  ·rw [h0 a Zb e,A7 hn.2 (by
    rcases Xs.1 h with h | h
    ·exact absurd h.symm e
    ·exact h) fun i hi=>h0 i (Yv _ hi)]
   omega
theorem Ce {f g:Nat->Int} : ∀ {ks:List Nat},(ks.map fun k=>f k+g k).sum=(ks.map f).sum+(ks.map g).sum
 | []=>rfl
 | k::ks=>by
  rw [Zu,Zu,Zu,Vy,Vy,Vy,Ce (ks:=ks)];omega
theorem MJ {f:Nat->Nat->Int} {ks:List Nat} : ∀ {js:List Nat},(ks.map fun k=>(js.map fun j=>f j k).sum).sum=(js.map fun j=>(ks.map fun k=>f j k).sum).sum
 | []=>KF (js:=ks) (f:=fun _=>(([]:List Nat).map fun _=>(0:Int)).sum) fun _ _=>rfl
 | j::js=>by
  simp only [Zu,Vy];rw [Ce,MJ]
def Bu (x:Inst) (l:List Col) (js:List Nat) (k:Nat):Bool:= !(nth x.orders k).off&&js.all fun j=> !hasC l j k
theorem mH {x:Inst} {l:List Col} {js:List Nat} (hp:Prt x l js) (k:Nat):Ds x l js k=(js.map fun j=>if hasC l j k=true/\anyC l j k=false then (nth l j).price else 0).sum+(if Bu x l js k=true then skR x k else 0):=by
 cases hf:js.find? (fun j=>hasC l j k) with
 | none =>
  have hno: ∀j∈js,hasC l j k=false:=fun j hj=>by
   grind
  rw [Ds,hf,KF fun j hj=>if_neg fun h=>by grind]
  have hall:(js.all fun j=> !hasC l j k)=true:=Zv.2 fun j hj=>by grind
  simp only [Bu,hall,KX]
  grind
 | some j =>
  have hj:=Vv hf
  have hb:hasC l j k=true:=by grind
  have hall:(js.all fun j=> !hasC l j k)=false:=by
   grind
  rw [Ds,hf,A7 hp.nod hj fun i hi hne=>if_neg fun h=>hne (hp.dis i hi j hj k h.1 hb)];simp only [Bu,hall,DH,hb,true_and]
  grind
theorem LK {l:List Col} {j:Nat} : ∀m,((List.range m).map fun k=>if hasC l j k=true/\anyC l j k=false then (nth l j).price else 0).sum=if anyC l j m=true then (nth l j).price else 0
 | 0=>by simp [anyC]
 | m+1=>by
  rw [Yx,X0,BI,LK m,Wo]
  cases h1:anyC l j m<;>cases h2:hasC l j m<;>simp [h1,h2]
theorem Lb {x:Inst} {l:List Col} {js:List Nat} : ∀d,d<=x.orders.length->((List.range (x.orders.length-d)).map (Ds x l js)).sum+HG x l js d=((List.range x.orders.length).map (Ds x l js)).sum
 | 0,_=>by simp [HG]
 | d+1,h=>by
  have ih:=Lb (x:=x) (l:=l) (js:=js) d Za;rw [<- ih,HG,show x.orders.length-d=(x.orders.length-(d+1))+1 by omega,Yx,X0,BI];simp;omega
theorem mJ {x:Inst} {l:List Col} {js:List Nat} (hp:Prt x l js) (hne: ∀j∈js,∃t,hasC l j t=true):HG x l js x.orders.length=(js.map fun j=>(nth l j).price).sum+((List.range x.orders.length).map fun k=>if Bu x l js k=true then skR x k else 0).sum:=by
 have h:=Lb (x:=x) (l:=l) (js:=js) x.orders.length (Xf _);rw [Nat.sub_self] at h;simp only [List.range_zero,Zo,List.sum_nil,BF] at h;rw [h,show Ds x l js=fun k=>(js.map fun j=>if hasC l j k=true/\anyC l j k=false then (nth l j).price else 0).sum+(if Bu x l js k=true then skR x k else 0) from funext fun k=>mH hp k,Ce,MJ]
 congr 2
 refine YG fun j hj=> ?_;obtain ⟨t,ht⟩:=hne j hj;rw [LK,if_pos (IN.2 ⟨t,(hp.set j hj t ht).1,ht⟩)]
theorem gQ {x:Inst} {l:List Col} {js:List Nat} :PNd x l js (List.replicate x.orders.length (-1)) 0:=by
 have hz: ∀i,i<x.orders.length->nth (List.replicate x.orders.length (-1:Int)) i= -1:=fun i hi=>by grind [Ze]
 refine ⟨Zb,fun i hi j _ _=>by grind [anyC],fun i hi _=>hz i hi,fun T=> ?_⟩
 have h1: ∀m,m<=x.orders.length->usdI l (List.replicate x.orders.length (-1)) T m=0:=fun m=>by
  induction m with
  | zero=>intro _;rfl
  | succ m ih =>
   grind [usdI,Dw]
 rw [h1 _ (Xf _),List.filter_eq_nil_iff.2 (by simp [anyC])]
 rfl
theorem dK {x:Inst} {S:Nat} {m:List Vis} (h:Gr x S m): ∀(f k:Nat),m.length=k+f->m∈M3 (fun l=>nextU x S l x.orders.length) f (m.take k)
 | 0,k,hl=>by
  grind [M3]
 | f+1,k,hl=>by
  have hk:k<m.length:=Za
  have ha:=h.at k hk;rw [M3,if_neg (fun e=>by grind),YN];refine ⟨nth m k,ha,?_⟩
  have e:m.take k++ [nth m k]=m.take (k+1):=by rw [Xo hk,Ze hk]
  rw [e];exact dK h f (k+1) Za
theorem EU {x:Inst} {l:List Vis} (h:RightV x l):Z8 l≠0:=fun e=>by
 obtain ⟨v,hv⟩: ∃v,v∈l:=by
  cases l with
  | nil=>exact absurd rfl h.ne
  | cons v l=>simp
 have hi:=h.inr v hv;have hb:=(h.bit v.order.toNat).2 ⟨v,hv,Za⟩
 grind
theorem J7 {α:Type} {p:α->Bool} : ∀ {l:List α},l.countP p<=1->l.Pairwise fun a b=> ¬(p a=true/\p b=true)
 | [],_=> .nil
 | a::l,h=>by
  rw [List.countP_cons] at h;rw [List.pairwise_cons];refine ⟨fun b hb hh=> ?_,J7 Za⟩
  simp_all
theorem gO {x:Inst} {l:List Col} {rs:List Rte} {f:Rte->Nat} (hf:IFacts x)
  (hj: ∀r∈rs,f r<l.length/\(nth l (f r)).typ=r.typ/\(nth l (f r)).set=((Z8 r.visits:Nat):Int))
  (hr: ∀r∈rs,RightV x r.visits) (ht: ∀r∈rs,0<=r.typ)
  (htw: ∀i:Nat,i<x.orders.length->rs.countP (fun r=>hasO r.visits (i:Int))<=1)
  (hoff: ∀r∈rs,∀i:Nat,i<x.orders.length->hasO r.visits (i:Int)=true->(nth x.orders i).off=false)
  (hcr: ∀r∈rs,((rs.countP fun s=>decide (s.typ=r.typ):Nat):Int)<=(nth x.types r.typ.toNat).count)
  (hsv: ∀k:Nat,k<x.orders.length->(nth x.orders k).off=false->(∃r∈rs,hasO r.visits (k:Int)=true)\/0<=(nth x.orders k).penalty) :
  Prt x l (rs.map f)/\(∀j∈rs.map f,∃t,hasC l j t=true)/\ ∀r∈rs,∀t,hasC l (f r) t=hasO r.visits (t:Int):=by
 have hb: ∀r∈rs,∀t:Nat,hasC l (f r) t=hasO r.visits (t:Int):=fun r h t=>by
  rw [YO,hasC,(hj r h).2.2,X6,(hr r h).bit,Xj]
 have hlt: ∀r∈rs,∀t:Nat,hasO r.visits (t:Int)=true->t<x.orders.length:=fun r h t e=>by
  obtain ⟨v,hv,e⟩:=Xj.1 e;have:=(hr r h).inr v hv;omega
 have hpw:rs.Pairwise fun a b=> ∀t:Nat,¬(hasO a.visits (t:Int)=true/\hasO b.visits (t:Int)=true):=by
  rw [UH];intro i j hi hj' hij t hh;have htl:=hlt _ (UN hi) t hh.1;exact UH.1 (J7 (htw t htl)) i j hi hj' hij hh
 have hne: ∀r∈rs,∃t:Nat,hasO r.visits (t:Int)=true:=fun r h=>by
  obtain ⟨v,hv⟩: ∃v,v∈r.visits:=by
   cases e:r.visits with
   | nil=>exact absurd e (hr r h).ne
   | cons v m=>simp
  have:=(hr r h).inr v hv;exact ⟨v.order.toNat,Xj.2 ⟨v,hv,Za⟩⟩
 have hinj: ∀a∈rs,∀b∈rs,∀t:Nat,hasO a.visits (t:Int)=true->hasO b.visits (t:Int)=true->a=b:=fun a ha b hb' t h1 h2=>by
  obtain ⟨i,hi,rfl⟩:=List.getElem_of_mem ha;obtain ⟨j,hj',rfl⟩:=List.getElem_of_mem hb';rcases Nat.lt_trichotomy i j with h | h | h
  ·exact absurd ⟨h1,h2⟩ (UH.1 hpw i j hi hj' h t)
  ·subst h;rfl
  ·exact absurd ⟨h2,h1⟩ (UH.1 hpw j i hj' hi h t)
 refine ⟨⟨fun j h=> ?_,fun j h t e=> ?_,fun i hi j hj' t h1 h2=> ?_,?_,fun j h=> ?_,fun k hk ho=> ?_⟩,fun j h=> ?_,hb⟩
 ·grind
 ·grind
 ·obtain ⟨a,ha,rfl⟩:=Xg.1 hi;obtain ⟨b,hb',rfl⟩:=Xg.1 hj'
  grind
 ·rw [List.Nodup,List.pairwise_map];refine hpw.imp_of_mem fun {a b} ha hb' h e=> ?_;obtain ⟨t,ht⟩:=hne a ha;refine h t ⟨ht,?_⟩;rw [<- hb b hb',<- e,hb a ha];exact ht
 ·obtain ⟨r,hq,rfl⟩:=Xg.1 h;rw [<- Vz,List.countP_map,(hj r hq).2.1]
  have:rs.countP ((fun i=>decide ((nth l i).typ=r.typ))∘f)=rs.countP fun s=>decide (s.typ=r.typ):=List.countP_congr fun s hs=>by
   grind
  grind
 ·rcases hsv k hk ho with ⟨r,h,e⟩ | h
  ·exact .inl ⟨f r,Xg.2 ⟨r,h,rfl⟩,by grind⟩
  omega
 ·obtain ⟨r,hq,rfl⟩:=Xg.1 h
  simp_all
theorem jD {n:Nat} {us:List Int} (h: ∀u∈us,0<=u/\u<(n:Int)) (ht: ∀i:Nat,i<n->us.countP (fun u=>decide (u=(i:Int)))<=1):us.Nodup:=by
 rw [List.Nodup,UH];intro i j hi hj hij e;have hu:=h _ (UN hi)
 have e1:us[i]=((us[i].toNat:Nat):Int):=Za
 refine UH.1 (J7 (ht us[i].toNat Za)) i j hi hj hij ⟨Yq e1,Yq ?_⟩;omega
theorem jE {n:Nat} {g:Int->Int} : ∀ {us:List Int},(∀u∈us,0<=u/\u<(n:Int))->us.Nodup->((List.range n).map fun k:Nat=>if (k:Int)∈us then g (k:Int) else 0).sum=(us.map g).sum
 | [],_,_=>KF fun k _=>Zb
 | u::us,h,hn=>by
  rw [List.nodup_cons] at hn;have hu:=h u Zb;have ih:=jE (g:=g) (fun v hv=>h v (Yv _ hv)) hn.2
  have e:(fun k:Nat=>if (k:Int)∈u::us then g (k:Int) else 0)=fun k:Nat=>(if (k:Int)=u then g (k:Int) else 0)+(if (k:Int)∈us then g (k:Int) else 0):=funext fun k=>by
   grind
  rw [e,Ce,ih,Zu,Vy];rw [A7 (j:=u.toNat) List.nodup_range (ZQ.2 Za) fun i _ hne=>if_neg fun e=>hne Za]
  grind
theorem nG {x:Inst} {l:List Col} {rs:List Rte} {us:List Int} {f:Rte->Nat} (hb: ∀r∈rs,∀t:Nat,hasC l (f r) t=hasO r.visits (t:Int))
  (hu: ∀u∈us,0<=u/\u<(x.orders.length:Int))
  (htw: ∀i:Nat,i<x.orders.length->rs.countP (fun r=>hasO r.visits (i:Int))+us.countP (fun u=>decide (u=(i:Int)))<=1)
  (hst: ∀i:Nat,i<x.orders.length->(i:Int)∈us->(nth x.orders i).off=false)
  (hms: ∀i:Nat,i<x.orders.length->(nth x.orders i).off=false->1<=rs.countP (fun r=>hasO r.visits (i:Int))+us.countP (fun u=>decide (u=(i:Int)))) :
  ((List.range x.orders.length).map fun k=>if Bu x l (rs.map f) k=true then skR x k else 0).sum=(us.map fun u=>skR x u.toNat).sum:=by
 have hn:=jD hu fun i hi=>by grind
 rw [<- jE (n:=x.orders.length) (g:=fun u=>skR x u.toNat) hu hn]
 congr 1
 refine YG fun k hk=> ?_;have hk:=ZQ.1 hk
 have e:Bu x l (rs.map f) k=true↔(k:Int)∈us:=by
  simp only [Bu,ZO,Xq,Zv]
  constructor
  ·rintro ⟨ho,hno⟩
   have hz:rs.countP (fun r=>hasO r.visits (k:Int))=0:=List.countP_eq_zero.2 fun r hr=>by
    simp_all
   have h1:=hms k hk ho;obtain ⟨u,h2,h3⟩:=VZ.1 (show 0<us.countP (fun u=>decide (u=(k:Int))) by omega)
   grind
  ·intro h;refine ⟨hst k hk h,fun j hj=> ?_⟩;obtain ⟨r,hr,rfl⟩:=Xg.1 hj;rw [hb r hr];have h1:0<us.countP (fun u=>decide (u=(k:Int))):=VZ.2 ⟨k,h,Zb⟩;have h2:=htw k hk
   cases hc:hasO r.visits (k:Int) with
   | false=>rfl
   | true =>
    have:0<rs.countP (fun r=>hasO r.visits (k:Int)):=VZ.2 ⟨r,hr,hc⟩;omega
 simp_all
def oS (x:Inst) (l:List Col) (js:List Nat):Int:=(js.map fun j=>(nth l j).price).sum+((List.range x.orders.length).map fun k=>if Bu x l js k=true then skR x k else 0).sum
theorem oU {x:Inst} {l ys:List Col} (hc:Ctx x l ys) {js:List Nat} (hp:Prt x l js) (hne: ∀j∈js,∃t,hasC l j t=true) {D:Nat} (hD:10<D):0<=Lx x ys D zSt/\Lx x ys D zSt<=oS x l js:=by
 have hz:=DL x l;obtain ⟨q,hq,e⟩:=EZ hp x.orders.length (List.replicate x.orders.length (-1)) 0 (Xf _) (by simp_all [gQ]);obtain ⟨h1,h2,_⟩:=KU hc hD x.orders.length 0 zSt _ _ 0 Za hz hz KE.refl q hq
 grind [mJ,oS]
theorem oT {x:Inst} {l:List Col} {p:Pln} {c e:Int} (hx:InstOk x) (hn:x.orders.length<=4) (hs: ∀c∈l,c.set<9223372036854775808) (h:ChoR x l p c e) (hl:l.length<=8192) (hr: ∀c∈l,rightB x c=true) {js:List Nat} (hp:Prt x l js) (hne: ∀j∈js,∃t,hasC l j t=true):e=0/\c<=oS x l js:=by
 rcases h with ⟨g1,_⟩ | ⟨g1,⟨c,gc,g2⟩,_⟩ | ⟨g1,g2,ys,g3,g4,g5⟩
 ·omega
 ·grind
 ·obtain ⟨D,hD⟩: ∃D:Nat,D=20:=⟨20,rfl⟩;have hc:=HI hx hn g3 g2 hs;obtain ⟨q1,q2⟩:=oU hc hp hne (D:=D) Za;rw [Bf hD] at g5;omega
theorem lN (a b:Col):(QI a b=true->a.price<=b.price)/\(QI a b=false->b.price<=a.price):=by
 unfold QI
 grind
theorem RM {x:Inst} (hx:InstOk x) {k:Int} {m:List Vis} (ht:0<=(nth x.types k.toNat).opn) (hok:Fz x k m=true) (z:Col×Bool) :
  Y1 x.orders x.apart x.before ((Z8 m:Nat):Int)=0/\(Dp x k (Z8 m) z).2=true/\(Dp x k (Z8 m) z).1.price<=(WJ x (Di k m)).1:=by
 have hf:=XY hx
 have hn:x.orders.length<=60:=by have:=hf.len;omega
 have hr:RightV x m:=Wd (VO hok);have ha:=hr.alw hf;have hS:=(hr.lt hf).2;refine ⟨(J3 hn hS hf.val).2 ha,?_⟩;rw [aN hx (EU hr) hS ha ht z,lQ];have hg:=hr.gr hf m.length (Xf _);rw [X7] at hg;have hin:m∈M3 (nX x (Z8 m)) (VT x (Z8 m)) []:=dK hg (VT x (Z8 m)) 0 (by rw [hr.len hf,VT];omega)
 have hR:okR x k (Z8 m) m=true:=by
  unfold okR;rw [hok,VO hok,hr.ord hf];simp
 exact (Fp lN _ z).2 m hin hR
theorem PM {x:Inst} {r:Rte} (h0:r.start=0) (hz:r.rests= []):WJ x r=WJ x (Di r.typ r.visits):=by
 cases r
 simp only at h0 hz;subst h0;subst hz;rfl
theorem wF {x:Inst} (hx:InstOk x) {r:Rte} (he:(WJ x r).2=0) (hty:0<=r.typ/\r.typ<(x.types.length:Int)) (h0:r.start=0) (hz:r.rests= []) :
  ∃j,j<(allL x).length/\(nth (allL x) j).typ=r.typ/\(nth (allL x) j).set=((Z8 r.visits:Nat):Int)/\(nth (allL x) j).price<=(WJ x r).1:=by
 obtain ⟨k,hk⟩: ∃k:Nat,r.typ=(k:Int):=⟨r.typ.toNat,Za⟩
 have hkl:k<x.types.length:=Za
 have hok:Fz x (k:Int) r.visits=true:=by
  grind [Fz,PM]
 have hr:RightV x r.visits:=Wd (r:=Di (k:Int) r.visits) (VO hok)
 have hopn:0<=(nth x.types (k:Int).toNat).opn:=by
  simp_all [Vl]
 obtain ⟨g1,g2,g3⟩:=RM hx (k:=(k:Int)) (m:=r.visits) hopn hok (V4,false)
 have hv:QJ x (k:Int) (Z8 r.visits)=((Dp x (k:Int) (Z8 r.visits) (V4,false)).1,0):=by
  simp_all [QJ]
 have hS:Z8 r.visits<2^x.orders.length:=by
  rcases Nat.div_eq_zero_iff.1 (hr.lt (XY hx)).2 with h | h
  ·grind [pw]
  ·exact h
 have hmem:(QJ x (k:Int) (Z8 r.visits)).1∈allL x:=Bb.2 ⟨k,Z8 r.visits,hkl,Nat.pos_of_ne_zero (EU hr),hS,by rw [hv],rfl⟩;obtain ⟨m,_,_,m3⟩:=Ct (x:=x) (k:=(k:Int)) (S:=Z8 r.visits) (by rw [hv]);obtain ⟨j,hj,e⟩:=List.getElem_of_mem hmem;refine ⟨j,hj,?_⟩;rw [Ze hj,e];refine ⟨by rw [m3,hk];rfl,by rw [m3];rfl,?_⟩
 grind [PM]
theorem nZ {x:Inst} {t:Typ} {sp:List Stp} {k:Nat} {L:Lab} {b:Bool} (hT:TrpOk x t sp) (hk:k<sp.length) (he:(nxtF x t sp k L b).2=0):L.ready<=(nxtF x t sp k L b).1.ready:=by
 have hrs:=hT.rst
 have hd:L.ready<=ZM t L b:=by grind [ZM]
 have hgo:(Y7 x t sp k (ZM t L b)).2.2=0->ZM t L b<=(Y7 x t sp k (ZM t L b)).1:=fun e=>dJ hT.net e;have hst:=hT.stp _ (ZD hk);unfold nxtF at he ⊢
 generalize Y7 x t sp k (ZM t L b)=g at *
 generalize ZM t L b=d at *
 generalize Ws L b=s at *
 generalize XZ k d b L.she=m at *
 have hk2: ¬k=sp.length:=Za
 unfold Wz at he ⊢
 grind
theorem nY {x:Inst} {t:Typ} {sp:List Stp} {L:Lab} {b:Bool} (hT:TrpOk x t sp) (he:(nxtF x t sp sp.length L b).2=0):L.ready<=(nxtF x t sp sp.length L b).1.she.fin/\(nxtF x t sp sp.length L b).1.she.fin<=t.cls:=by
 have hrs:=hT.rst
 have hd:L.ready<=ZM t L b:=by grind [ZM]
 have hgo:(Y7 x t sp sp.length (ZM t L b)).2.2=0->ZM t L b<=(Y7 x t sp sp.length (ZM t L b)).1:=fun e=>dJ hT.net e;unfold nxtF at he ⊢
 generalize Y7 x t sp sp.length (ZM t L b)=g at *
 generalize ZM t L b=d at *
 generalize Ws L b=s at *
 generalize XZ sp.length d b L.she=m at *
 unfold Wz at he ⊢
 grind
theorem PU {x:Inst} {t:Typ} {sp:List Stp} (hT:TrpOk x t sp): ∀(bs:List Bool) (k:Nat) (L:Lab),k+bs.length=sp.length+1->0<bs.length->(Xy x t sp k L bs).2=0->L.ready<=(Xy x t sp k L bs).1.she.fin/\(Xy x t sp k L bs).1.she.fin<=t.cls
 | [],k,L,_,h3,_=>by simp at h3
 | b::bs,k,L,h2,_,h=>by
  rw [Xy] at h ⊢
  by_cases h4:(nxtF x t sp k L b).2=0
  ·simp only [h4,if_true] at h ⊢
   cases bs with
   | nil =>
    simp_all [Xy,nY]
   | cons b2 bs =>
    simp at h2;have h5:=PU hT (b2::bs) (k+1) _ (by simp;omega) Zb h;have h6:=nZ hT (show k<sp.length by omega) h4;omega
  grind
theorem mQ {x:Inst} {r:Rte} (hx:InstOk x) (h:Z2 x r=0):(ZW x r).opn<=(Ww x r).fin/\(Ww x r).fin<=(ZW x r).cls:=by
 obtain ⟨hty,h0,hs⟩:=QW (UE h)
 have e:Ww x r=(Xu x r).1:=by rw [Ww,if_pos h]
 have ee:(Xu x r).2=0:=by rw [Z2,if_pos (UE h)] at h;exact h
 have hT:=KG hx hty (Um h0);obtain ⟨bs,hb1,hb2,hb3⟩:=F7 (by grind [Yl]) ee;have hb3:(Xu x r).1=_:=hb3;rw [e,hb3];have h1:=PU hT bs 0 _ Za Za hb2
 grind [labF]
def UW (l:List Vis) (N:Nat):Nat:=(List.range N).countP fun i:Nat=>hasO l (i:Int)
theorem RT {l m:List Vis} {N:Nat} (h: ∀v∈l,v∈m):UW l N<=UW m N:=List.countP_mono_left fun i _ hi=>by
 grind [Xj]
theorem OU {x:Inst} {l:List Vis} {t:Int} (hi:Inr x l): ∀n,n<=l.length->(0<=(chgF x l t n).1/\(chgF x l t n).1<=(UW (l.take n) x.orders.length:Int))/\(0<=(chgF x l t n).2/\(chgF x l t n).2<=(UW (l.take n) x.orders.length:Int))
 | 0,_=>by simp [chgF]
 | n+1,h=>by
  have ih:=OU (t:=t) hi n Za
  have hn:n<l.length:=Za
  have hv:=hi _ (ZD hn)
  have htk:l.take (n+1)=l.take n++ [nth l n]:=by rw [Xo hn,Ze hn]
  have hmono:UW (l.take n) x.orders.length<=UW (l.take (n+1)) x.orders.length:=RT fun v hv=>by grind
  have hap: ∀i:Int,hasO (l.take (n+1)) i=(hasO (l.take n) i||decide ((nth l n).order=i)):=fun i=>by grind [hasO]
  rw [chgF]
  split
  ·rename_i hf
   have hadd:UW (l.take (n+1)) x.orders.length=UW (l.take n) x.orders.length+1:=by
    unfold UW;rw [Vz,Vz]
    have ei:(((nth l n).order.toNat:Nat):Int)=(nth l n).order:=Za
    refine AW (a:=(nth l n).order.toNat) List.nodup_range (ZQ.2 Za) ?_ ?_ fun b _ hb=> ?_
    ·rw [ei];simp only [VX,Xq] at hf;exact hf
    ·grind
    grind
   omega
  ·omega
theorem AU {x:Inst} {r:Rte} (hx:InstOk x) (h:Z2 x r=0):W3 (XK x r)/\(XK x r).cost<=22000000/\(XK x r).moved<=(UW r.visits x.orders.length:Int)/\(XK x r).other<=(UW r.visits x.orders.length:Int)/\(XK x r).work<=4096:=by
 have hg:=Lk hx h;have hf:=mQ hx h;obtain ⟨hty,_,_⟩:=QW (UE h);have hnum:=Vl hx (show r.typ.toNat<x.types.length by omega);have htyp:nth x.types r.typ.toNat=ZW x r:=rfl;rw [htyp] at hnum
 have e:(Xu x r).1=Ww x r:=by rw [Ww,if_pos h]
 have hch:=OU (t:=r.typ) (Wd h).inr r.visits.length (Xf _);rw [X7] at hch;rw [XK,if_pos h,e];unfold Ip W3
 generalize Ww x r=s at *
 generalize ZW x r=t at *
 have p1:0<=t.perMile*s.miles/\t.perMile*s.miles<=100*210000:=⟨V1 Za Za,Vx Za Za Za Za⟩
 have hW:0<=s.fin-t.opn/\s.fin-t.opn<=4096:=Za
 have p2:0<=t.perTick*(s.fin-t.opn)/\t.perTick*(s.fin-t.opn)<=100*4096:=⟨V1 Za Za,Vx Za Za Za Za⟩
 have p3:0<=(s.fin-t.opn).tdiv 64/\(s.fin-t.opn).tdiv 64<=64:=by
  grind
 have p4:0<=(s.fin-t.opn).tdiv 64*(s.fin-t.opn).tdiv 64/\(s.fin-t.opn).tdiv 64*(s.fin-t.opn).tdiv 64<=64*64:=⟨V1 p3.1 p3.1,Vx p3.2 p3.2 p3.1 Za⟩
 grind
theorem P4 {α:Type} {f:α->Nat} {p:α->Bool} : ∀l:List α,(l.map fun a=>f a+(if p a=true then 1 else 0)).sum=(l.map f).sum+l.countP p
 | []=>rfl
 | a::l=>by
  rw [Zu,Zu,Vy,Vy,P4 l,List.countP_cons];omega
theorem bL {rs:List Rte} {us:List Int} {N:Nat} (h: ∀i:Nat,i<N->rs.countP (fun r=>hasO r.visits (i:Int))+us.countP (fun u=>decide (u=(i:Int)))<=1): ∀n,n<=N->(rs.map fun r=>UW r.visits n).sum+(us.map fun u=>(List.range n).countP fun i=>decide (u=((i:Nat):Int))).sum<=n
 | 0,_=>by
  have h1: ∀l:List Rte,(l.map fun r=>UW r.visits 0).sum=0:=fun l=>by
   induction l with
   | nil=>rfl
   | cons a l ih=>grind [UW]
  have h2: ∀l:List Int,(l.map fun u=>(List.range 0).countP fun i=>decide (u=((i:Nat):Int))).sum=0:=fun l=>by
   induction l with
   | nil=>rfl
   | cons a l ih=>grind
  grind
 | n+1,hn=>by
  have ih:=bL h n Za;have hh:=h n Za
  have e1:(fun r:Rte=>UW r.visits (n+1))=fun r=>UW r.visits n+(if hasO r.visits (n:Int)=true then 1 else 0):=funext fun r=>by
   simp_all [UW,Yx]
  have e2:(fun u:Int=>(List.range (n+1)).countP fun i=>decide (u=((i:Nat):Int)))=fun u=>((List.range n).countP fun i=>decide (u=((i:Nat):Int)))+(if decide (u=(n:Int))=true then 1 else 0):=funext fun u=>by
   simp_all [Yx]
  grind [P4]
theorem Ew {α:Type} {f:α->Sco} {g:α->Nat} : ∀(l:List α) (s:Sco),(∀a∈l,(f a).cost<=22000000/\(f a).moved<=(g a:Int)/\(f a).other<=(g a:Int)/\(f a).work<=4096) ->
  (l.foldl (fun s a=>Ya s (f a)) s).cost<=s.cost+22000000*(l.length:Int)/\(l.foldl (fun s a=>Ya s (f a)) s).moved<=s.moved+((l.map g).sum:Nat)/\(l.foldl (fun s a=>Ya s (f a)) s).other<=s.other+((l.map g).sum:Nat)/\(l.foldl (fun s a=>Ya s (f a)) s).work<=s.work+4096*(l.length:Int)
 | [],s,_=>Zb
 | a::l,s,h=>by
  have h1:=h a Zb;have h2:=Ew l (Ya s (f a)) fun b hb=>h b (Yv _ hb)
  grind [Ya]
theorem HV {α:Type} {g:α->Nat} : ∀l:List α,(∀a∈l,1<=g a)->l.length<=(l.map g).sum
 | [],_=>Zb
 | a::l,h=>by
  have h1:=h a Zb;have h2:=HV l fun b hb=>h b (Yv _ hb);rw [Zu,Vy,ZH];omega
theorem bH {x:Inst} {l:List Vis} (h:RightV x l):1<=UW l x.orders.length:=by
 obtain ⟨v,hv⟩: ∃v,v∈l:=by
  cases l with
  | nil=>exact absurd rfl h.ne
  | cons v l=>simp
 have hi:=h.inr v hv;exact VZ.2 ⟨v.order.toNat,ZQ.2 Za,Xj.2 ⟨v,hv,Za⟩⟩
theorem Fm {x:Inst} (hx:InstOk x) (i:Int):W3 (XD x i).1/\(XD x i).1.cost<=22000000/\(XD x i).1.moved<=1/\(XD x i).1.other<=1/\(XD x i).1.work<=4096:=by
 unfold XD
 split
 ·simp [W3,zSco]
 ·split
  ·simp [W3,zSco]
  ·split
   ·simp [W3,zSco]
   ·have ha:=(hx.orders.2 i.toNat Za).arg;simp only [argOk,rng,ZO,Zl] at ha
    grind [W3]
theorem Iq {x:Inst} {p:Pln} (hx:InstOk x) (hn:x.orders.length<=4) (hk:WE x p=0):(XE (QX x p)).2=0/\p.routes.length+p.unserved.length<=4:=by
 obtain ⟨hev,hun⟩:=QK hk;obtain ⟨k1,k2,k3,k4,k5⟩:=Cv hk;have hc:=bL (rs:=p.routes) (us:=p.unserved) k2 x.orders.length (Xf _);have hR: ∀r∈p.routes,W3 (XK x r)/\(XK x r).cost<=22000000/\(XK x r).moved<=(UW r.visits x.orders.length:Int)/\(XK x r).other<=(UW r.visits x.orders.length:Int)/\(XK x r).work<=4096:=fun r hr=>AU hx (hev r hr)
 have hU1: ∀u∈p.unserved,1<=(List.range x.orders.length).countP fun i=>decide (u=((i:Nat):Int)):=fun u hu=>by
  have:=k1 u hu;exact VZ.2 ⟨u.toNat,ZQ.2 Za,by simp;omega⟩
 have l1:=HV p.routes fun r hr=>bH (Wd (hev r hr));have l2:=HV p.unserved hU1;have f1:=Ew (f:=fun r=>XK x r) (g:=fun r=>UW r.visits x.orders.length) p.routes zSco fun r hr=>(hR r hr).2
 have f2:=Ew (f:=fun i=>(XD x i).1) (g:=fun u=>(List.range x.orders.length).countP fun i=>decide (u=((i:Nat):Int))) p.unserved (Wm x p.routes) fun u hu=>by
  have h1:=(Fm hx u).2;have h2:=hU1 u hu;omega
 have hpos: ∀ {α:Type} (f:α->Sco) (l:List α) (s:Sco),(∀a∈l,W3 (f a))->W3 s->W3 (l.foldl (fun s a=>Ya s (f a)) s):=fun f l=>by
  induction l with
  | nil=>simp
  | cons r l ih=>simp_all [Kr]
 have q1:W3 (Wm x p.routes):=hpos (fun r=>XK x r) p.routes zSco (fun r hr=>(hR r hr).1) (by simp [W3,zSco]);have q2:W3 (JX x (Wm x p.routes) p.unserved):=hpos (fun i=>(XD x i).1) p.unserved _ (fun u _=>(Fm hx u).1) q1
 have hsc:QX x p=JX x (Wm x p.routes) p.unserved:=by rw [QX,if_pos hk]
 rw [hsc,Q5 q2];have f1:(Wm x p.routes).cost<=zSco.cost+_/\(Wm x p.routes).moved<=zSco.moved+_/\(Wm x p.routes).other<=zSco.other+_/\(Wm x p.routes).work<=zSco.work+_:=f1;have f2:(JX x (Wm x p.routes) p.unserved).cost<=(Wm x p.routes).cost+_/\(JX x (Wm x p.routes) p.unserved).moved<=(Wm x p.routes).moved+_/\(JX x (Wm x p.routes) p.unserved).other<=(Wm x p.routes).other+_/\(JX x (Wm x p.routes) p.unserved).work<=(Wm x p.routes).work+_:=f2;simp only [zSco] at f1;omega
theorem GQ {x:Inst} (hx:InstOk x) (hn:x.orders.length<=4): ∀c∈allL x,rightB x c=true:=fun c hc=>by
 obtain ⟨k,S,h1,h2,h3,h4,h5⟩:=Bb.1 hc;obtain ⟨m,m1,m2,m3⟩:=Ct h4;have hp4:2^x.orders.length<=2^4:=Yw Za hn
 have hal:Y1 x.orders x.apart x.before ((S:Nat):Int)=0:=by
  grind [QJ]
 have hf:=XY hx;have ha:Alw x S:=(J3 Za (by rw [Nat.div_eq_zero_iff];exact .inr h3) hf.val).1 hal
 have hw:Ou S (Yg x x.orders.length)=true:=by
  rw [jJ hn Za,ZO,Zl,Zv];refine ⟨h3,fun i hi=> ?_⟩
  cases hb:S.testBit i with
  | false=>rfl
  | true=>rw [ha.off i (ZQ.1 hi) hb];rfl
 have he:=VO m2;have hfn:=AU hx he
 have hcn:UW (Di (k:Int) m).visits x.orders.length<=x.orders.length:=by
  have:=List.countP_le_length (p:=fun i:Nat=>hasO (Di (k:Int) m).visits (i:Int)) (l:=List.range x.orders.length);rw [List.length_range] at this;exact this
 have hpr:(WJ x (Di k m)).1=(((XK x (Di k m)).cost*16+(XK x (Di k m)).moved)*16+(XK x (Di k m)).other)*65536+(XK x (Di k m)).work:=by
  rw [WJ,if_pos he]
  grind [MS,Q5]
 have hp:=Mc x (Di k m)
 have h6:(Uc x k S m).price<=18014398509481984:=by
  show (WJ x (Di k m)).1<=_
  omega
 rw [h5,m3];simp only [rightB,ZO,Zl];refine ⟨?_,?_,?_,?_,?_,h6⟩
 ·show (0:Int)<=(k:Int);omega
 ·show (k:Int)<_;omega
 ·show (0:Int)<(S:Int);omega
 ·show Ou ((S:Nat):Int).toNat _=true
  grind
 ·exact hp.1
theorem iY {α:Type} {f g:α->Int} : ∀ {l:List α},(∀a∈l,f a<=g a)->(l.map f).sum<=(l.map g).sum
 | [],_=>Zb
 | a::l,h=>by
  have h1:=h a Zb;have h2:=iY (l:=l) fun b hb=>h b (Yv _ hb)
  grind
theorem GK {x:Inst} {p:Pln} (hx:InstOk x) (hn:x.orders.length<=4) (hk:WE x p=0):(∀r∈p.routes,WJ x r=XE (XK x r)/\(WJ x r).2=0)/\(XE (QX x p)).1=(p.routes.map fun r=>(WJ x r).1).sum+(p.unserved.map fun u=>skR x u.toNat).sum:=by
 have hw:=(Iq hx hn hk).1;have hpos: ∀r∈p.routes,W3 (XK x r):=fun r hr=>(AU hx ((QK hk).1 r hr)).1;obtain ⟨hev,hun⟩:=QK hk;obtain ⟨k1,k2,k3,k4,k5⟩:=Cv hk
 have hsc:QX x p=JX x (Wm x p.routes) p.unserved:=by rw [QX,if_pos hk]
 rw [hsc] at hw ⊢
 have hsR:W3 (Wm x p.routes):=by
  have: ∀(l:List Rte) (s:Sco),(∀r∈l,W3 (XK x r))->W3 s->W3 (l.foldl (fun s r=>Ya s (XK x r)) s):=fun l=>by
   induction l with
   | nil=>simp
   | cons r l ih=>simp_all [Kr]
  exact this _ _ hpos (by simp [W3,zSco])
 obtain ⟨w1,w2,w3⟩:=Fq (f:=fun i=>(XD x i).1) p.unserved (Wm x p.routes) (fun u _=>(Fm hx u).1) hsR hw;obtain ⟨_,v2,v3⟩:=Fq (f:=fun r=>XK x r) p.routes zSco hpos (by simp [W3,zSco]) w1
 have hpr: ∀r∈p.routes,WJ x r=XE (XK x r):=fun r hr=>by simp_all [WJ]
 refine ⟨fun r hr=>⟨hpr r hr,by grind⟩,?_⟩
 have s1:(p.routes.map fun r=>(WJ x r).1)=p.routes.map fun r=>(XE (XK x r)).1:=YG fun r hr=>by rw [hpr r hr]
 have s2:(p.unserved.map fun u=>skR x u.toNat)=p.unserved.map fun u=>(XE (XD x u).1).1:=YG fun u hu=>by
  rw [skR,show ((u.toNat:Nat):Int)=u by have:=k1 u hu;omega]
 have z0:(XE zSco).1=0:=by decide
 grind [JX,Wm]
theorem LL {x:Inst} {p q:Pln} {c e:Int} (hx:InstOk x) (hn:x.orders.length<=4) (h6:x.types.length<=6) (h:ChoR x (allL x) q c e) (hk:WE x p=0)
  (h0: ∀r∈p.routes,r.start=0/\r.rests= []):e=0/\(XE (QX x p)).2=0/\c<=(XE (QX x p)).1:=by
 have hr:=GQ hx hn;have hw:=(Iq hx hn hk).1;refine (and_congr_right fun _=>and_iff_right hw).2 ?_;obtain ⟨hl,hc⟩:=Dz hn h6;obtain ⟨hev,hun⟩:=QK hk;obtain ⟨k1,k2,k3,k4,k5⟩:=Cv hk;obtain ⟨hpp,hps⟩:=GK hx hn hk;have hty: ∀r∈p.routes,0<=r.typ/\r.typ<(x.types.length:Int):=fun r hr=>(QW (UE (hev r hr))).1
 have H: ∀r∈p.routes,∃j,j<(allL x).length/\(nth (allL x) j).typ=r.typ/\(nth (allL x) j).set=((Z8 r.visits:Nat):Int)/\(nth (allL x) j).price<=(WJ x r).1:=fun r hr =>
  wF hx (hpp r hr).2 (hty r hr) (h0 r hr).1 (h0 r hr).2
 obtain ⟨f,hf⟩: ∃f:Rte->Nat,∀r∈p.routes,f r<(allL x).length/\(nth (allL x) (f r)).typ=r.typ/\(nth (allL x) (f r)).set=((Z8 r.visits:Nat):Int)/\(nth (allL x) (f r)).price<=(WJ x r).1:=by
  classical
  exact ⟨fun r=>if g:r∈p.routes then Classical.choose (H r g) else 0,fun r g=>by
   grind⟩
 have hRV: ∀r∈p.routes,RightV x r.visits:=fun r hr=>Wd (hev r hr)
 have hoff: ∀r∈p.routes,∀i:Nat,i<x.orders.length->hasO r.visits (i:Int)=true->(nth x.orders i).off=false:=fun r hr i hi ho=>by
  have ha:=(hRV r hr).alw (XY hx);have hb:(Z8 r.visits).testBit i=true:=((hRV r hr).bit i).2 (Xj.1 ho);exact (ha.1 i hi hb)
 have hpen: ∀k:Nat,k<x.orders.length->(nth x.orders k).penalty≠ -1->0<=(nth x.orders k).penalty:=fun k hk' hne=>by
  have ha:=(hx.orders.2 k hk').arg;simp only [argOk,rng,ZO,Zl] at ha;omega
 obtain ⟨hP,hne,hb⟩:=gO (XY hx) (fun r hr=>⟨(hf r hr).1,(hf r hr).2.1,(hf r hr).2.2.1⟩) hRV (fun r hr=>(hty r hr).1) (fun i hi=>by have:=k2 i hi;omega) hoff
  (fun r hr=>by
   have h1:=k5 r.typ.toNat (by simp_all)
   rwa [show ((r.typ.toNat:Nat):Int)=r.typ by have:=hty r hr;omega] at h1)
  (fun k hk' ho=>by
   rcases Nat.eq_zero_or_pos (p.routes.countP fun r=>hasO r.visits (k:Int)) with z | z
   ·have h1:=k4 k hk' ho;obtain ⟨u,h2,h3⟩:=VZ.1 (show 0<p.unserved.countP (fun u=>decide (u=(k:Int))) by omega);rw [Zl] at h3
    simp_all
   simp_all)
 obtain ⟨e0,hle⟩:=oT hx hn (fun c h=>(hc c h).1) h Za hr hP hne;refine ⟨e0,Int.le_trans hle ?_⟩;rw [oS,nG hb k1 k2 (fun i hi hu=>(k3 i hi hu).1) k4]
 have s1:((p.routes.map f).map fun j=>(nth (allL x) j).price).sum<=(p.routes.map fun r=>(WJ x r).1).sum:=by
  rw [List.map_map];exact iY fun r hr=>(hf r hr).2.2.2
 omega
end Go.Proofs.YtiigdaohjanidaaGreatDoor.K
