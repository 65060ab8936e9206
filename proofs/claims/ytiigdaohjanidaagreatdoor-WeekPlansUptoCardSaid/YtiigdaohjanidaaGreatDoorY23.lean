/- Declarations that the closing texts need, part 23: joined by tools/slim.py. -/
import Derived.Test.YtiigdaohjanidaaGreatDoorY22
import Derived.Shelf.SlSortCmp.NoneTotal
set_option linter.unusedVariables false
set_option linter.unusedSimpArgs false
namespace Go.AM
open Go.RowKit Go.Shelf Go.Lib Go.Sort Go.Proofs
theorem cF {W w':World} {H':List AM.Obj} {ι':List (Option Nat)} (g:Good JT [] [] W H' ι' w'): ∃q os',w'=grow (W.drewN q) os':=by
 refine ⟨w'.drawn-W.drawn,w'.heap.extract W.heap.size w'.heap.size,?_⟩
 have h1:w'.heap=W.heap++w'.heap.extract W.heap.size w'.heap.size:=by
  apply Array.ext_getElem?;intro i
  by_cases hi:i<W.heap.size
  ·rw [Co hi];exact g.keep i hi Zb
  ·rw [Array.getElem?_append_right Za];have:=g.size;rw [Array.getElem?_extract]
   split
   ·congr 1;omega
   ·rw [Array.getElem?_eq_none Za]
 have h2:W.drawn<=w'.drawn:=g.tape.2.resolve_right fun h=>h;have h3:=g.tape.1;have h4:=g.os;have h5:=g.output
 cases w'
 simp only [grow,World.drewN] at *
 congr 1
 omega
def NV (c:Array Value) (k i:Nat):List Value:=(List.range k).map fun j=>c.getD (i*k+j) undef
theorem EJ (c k i):(NV c k i).length=k:=by simp [NV]
theorem BJ {c k i j} (h:j<k):(NV c k i)[j]! =c.getD (i*k+j) undef:=by
 rw [List.getElem!_eq_getElem?_getD,NV,Xu,List.getElem?_range h];rfl
theorem ACalls.sortFunc {P : Program} {ρ : Ren} (L : SlLaysF0.n6 P ρ) (hg : Zh P (ρ.f 6)) (k : Nat) (aE : ∀ w, (isAgg (ρ.t 24)).run P w = .ok true w) (zE : ∀ w, (Go.sizeOf (ρ.t 24)).run P w = .ok k w)
    {β : Type} [Inhabited β] (f : β -> PV) (hf : ∀ x, ∃ cs, f x = .agg cs /\ cs.length = k /\ cs.all (·.one) = true) (cf : β -> β -> Int) (hO : SWO (ltOf cf)) (g : FuncId)
    (hcmp : ∀ x y, ACalls P g [.p (f x), .p (f y)] [] fun r H' => r = .p (.int .i64 (cf x y)) /\ H' = []) (xs : List β) (hlen : xs.length < 4611686018427387904) {H : List AM.Obj} {o : Nat} (hHo : H[o]? = some (.elems k (xs.map f))) :
    ACalls P (ρ.f 6) [.sl o 0 xs.length xs.length, .fn (.func g) [] []] H fun y H' => y = .tup [] /\ ∃ ys : List β, ys.Perm xs /\ ys.Pairwise (fun a b => ¬ cf b a < 0) /\ H' = H.set o (.elems k (ys.map f)) := by
  refine ⟨hg, fun F ι w vs hr hv => ?_⟩;obtain ⟨hv1, hv2⟩ := hv;have h0 := hv2 0 _ rfl;have h1 := hv2 1 _ rfl
  have hvs : vs = #[vs.getD 0 undef, vs.getD 1 undef] := by
    apply Array.ext
    · simpa using hv1
    · intro i h2 h3
      have : i = 0 \/ i = 1 := by simp at hv1; omega
      rcases this with rfl | rfl <;> simp [Array.getD, h2]
  rw [hvs];generalize vs.getD 0 undef = v0 at h0 ⊢;generalize vs.getD 1 undef = v1 at h1 ⊢;clear hvs hv1 hv2
  cases h1 with | fn _ _ _ a e hs ht _ _ =>
  have ea : a = #[] := Dp (by simpa using hs);have ee : e = #[] := Dp (by simpa using ht);subst ea; subst ee;generalize hL : xs.length = n at h0 hlen
  by_cases hz : n = 0
  · subst hz
    obtain rfl : xs = [] := List.length_eq_zero_iff.1 hL
    have e1 : H.set o (.elems k (([] : List β).map f)) = H := by
      apply Ju;intro i;rw [UD]
      split
      · rename_i hi; subst hi; rw [hHo]; simp [(Zt.1 hHo).1]
      · rfl
    obtain ⟨ad, cap, rfl⟩ : ∃ ad cap, v0 = .slice ad 0 cap := by
      cases h0 with
      | slNil => exact ⟨_, _, rfl⟩
      | sl => exact ⟨_, _, rfl⟩
      | slD _ _ _ _ _ hd => rw [hHo] at hd; cases hd
      | slS _ _ _ _ _ S2 xs2 hd hne => rw [hHo] at hd; simp at hd; obtain ⟨_, rfl⟩ := hd; simp at hne
      | slC _ _ _ _ _ _ hd => rw [hHo] at hd; cases hd
    refine (AnyF.slices_SortFunc_none L ad cap _ w).mono ?_;rintro e w' ⟨rfl, rfl⟩;exact ⟨.tup [], _, ι, _, rfl, ⟨rfl, [], .refl _, .nil, e1.symm⟩, Good.refl hr, .tup [] #[] Zb Zb⟩
  have hn : 0 < n := Za
  cases h0 with
  | slNil => omega
  | slD _ _ _ _ _ hd => rw [hHo] at hd; cases hd
  | slS _ _ _ _ _ S ys hd hlt => rw [hHo] at hd; simp at hd; obtain ⟨_, rfl⟩ := hd; simp at hlt; omega
  | slC _ _ _ _ _ _ hd => rw [hHo] at hd; cases hd
  | sl _ _ _ _ b S cap t ys c hι hH ht2 hw hcap hl hle hm =>
  rw [hHo] at hH;simp at hH;obtain ⟨rfl, rfl⟩ := hH;rcases hr.elm o k (xs.map f) hHo with ⟨e1, _⟩ | ⟨b2, c2, t2, cap2, e1, e2, e3, e4, e5, e6, e7⟩
  · rw [hι] at e1; cases e1
  rw [hι] at e1;simp at e1; subst e1;rw [hw] at e2;simp at e2;obtain ⟨rfl, rfl⟩ := e2;have hbs : b < w.heap.size := (hr.avo o b hι).2;have hbF : ¬ F b := (hr.avo o b hι).1
  -- an index, made one that there is
  let ix : Nat -> Nat := fun i => if i < n then i else 0
  have hix : ∀ i, ix i < n := fun i => by simp only [ix]; split <;> omega
  have hixe : ∀ i, i < n -> ix i = i := fun i hi => by simp only [ix]; rw [if_pos hi]
  let enc : Nat -> List Value := fun i => NV c k (ix i)
  have hk : ∀ x, (enc x).length = k := fun x => EJ _ _ _
  -- one cell of an element
  have cell : ∀ i, i < n -> ∃ cs, f (nth xs i) = .agg cs /\ cs.length = k /\ ∀ (j : Nat) (y : PV), cs[j]? = some y -> y.one = true /\ RP (Own F ι) w y (c.getD (i * k + j) undef) := fun i hi => by
    obtain ⟨cs, q1, q2, q3⟩ := hf (nth xs i);refine ⟨cs, q1, q2, fun j y hj => ⟨ZC.1 q3 y (XE hj), ?_⟩⟩;refine e7 i (f (nth xs i)) j y ?_ (by rw [q1]; exact hj);rw [Xu, Ws Za, Zi Za]; rfl
  have one : ∀ x, ∀ v ∈ enc x, v.oneCell' = true := fun x v hv => by
    obtain ⟨j, hj, rfl⟩ := ZD.1 hv
    have hjk : j < k := by rw [hk] at hj; exact hj
    obtain ⟨cs, q1, q2, q3⟩ := cell (ix x) (hix x);have hg := q3 j (cs[j]'(Za)) Zb
    have e9 : (enc x)[j] = c.getD (ix x * k + j) undef := by
      have := BJ (c := c) (i := ix x) hjk;rw [List.getElem!_eq_getElem?_getD, Ws (by rw [EJ]; exact hjk)] at this;exact this
    rw [e9];exact hg.2.oneCell hg.1
  let d : Array Nat := Array.range n
  have hd : d.size = n := by simp [d]
  let cf' : Nat -> Nat -> Int := fun i j => cf (nth xs (ix i)) (nth xs (ix j))
  have hO' : SWO (ltOf cf') := ⟨fun x => hO.irrefl _, fun x y z h1 h2 => hO.trans _ _ _ h1 h2, fun x y z h1 h2 => hO.ntrans _ _ _ h1 h2⟩
  have hsz : n * k <= c.size := by
    rw [e3]; exact XU k (by simpa [hL] using e4)
  have hcell : ∀ j, j < c.size -> w.cell? ⟨b, j, none⟩ = some (c.getD j undef) := fun j hj => by
    simp [World.cell?, hw, hj]
  have hHolds : HoldsK enc k w b (0 * k) d := fun j hj => by
    have hj2 : j < n * k := by simpa [hd] using hj
    have k0 : 0 < k := by rcases Nat.eq_zero_or_pos k with h | h; · subst h; simp at hj2
                          · exact h
    rw [get_flatK enc k d j (by rw [hd]; exact hj2)];have hdj : j / k < n := Nat.div_lt_of_lt_mul (by rw [KX]; exact hj2)
    have hde : d[j / k]! = j / k := by simp [d, hdj]
    rw [hde]
    have e9 : (enc (j / k))[j % k]! = c.getD j undef := by
      show (NV c k (ix (j / k)))[j % k]! = _
      rw [hixe _ hdj, BJ (Jo _ k0), Nat.div_add_mod']
    rw [e9, Nat.zero_mul, Xl];exact ⟨hcell j Za, by simp [World.frozen?, hw]⟩
  have hcmp' : CmpLays P g #[] enc k cf' b (0 * k) d.size w := fun m os dk hdk x y => by
    generalize hW : sortWorldK enc k w b (0 * k) m dk os = W
    have hKeep : Keeps (Own F ι) w JT W := fun b' hb' hs' => by
      have hne : b' ≠ b := fun e => hb' (.inr (e ▸ XE hι));refine ⟨fun h => h, ?_, ?_⟩
      · rw [<- hW]; simp [sortWorldK, grow, putRowK, putRow, mapBlock, ahead]; omega
      · rw [<- hW]
        simp only [sortWorldK, grow, putRowK, putRow, mapBlock, ahead];rw [Co (by simpa using hs'), Dt, if_neg (fun e => hne e.symm)]
        rfl
    have heW : Env JT [] W := (hr.env.of (w' := W) (ι' := ι) (by rw [<- hW]; simp [sortWorldK, grow, putRowK, putRow, mapBlock, ahead]) (fun b' hb' hni => by
      have hne : b' ≠ b := fun e => hni (e ▸ XE hι);rw [<- hW];simp only [sortWorldK, grow, putRowK, putRow, mapBlock, ahead];rw [Co (by simpa using hb'), Dt, if_neg (fun e => hne e.symm)]
      rfl) (fun _ _ h => h)).noth
    have arg : ∀ i, RV JT [] [] W (.p (f (nth xs (ix i)))) (.agg (enc i).toArray) := fun i => by
      obtain ⟨cs, q1, q2, q3⟩ := cell (ix i) (hix i);refine .p _ _ ?_;rw [q1]
      refine (RP.agg cs (enc i).toArray (by simp [hk, q2]) fun j y hj => ?_ : RP JT W _ _).weaker fun b hb => by
        rcases hb with hb | hb
        · exact hb
        · simp at hb
      have hjk : j < k := by rw [<- q2]; exact (Zt.1 hj).1
      have e9 : (enc i).toArray.getD j undef = c.getD (ix i * k + j) undef := by
        have := BJ (c := c) (i := ix i) hjk;rw [List.getElem!_eq_getElem?_getD, Ws (by rw [EJ]; exact hjk)] at this;simp only [ZI, Kc];rw [Ws (by rw [hk]; exact hjk), Jk];rw [Jk] at this;simpa only [ZI] using this
      rw [e9];exact (q3 j y hj).2.ext hKeep
    refine ((hcmp (nth xs (ix x)) (nth xs (ix y))).2 JT [] W _ (BK heW) ⟨rfl, fun j q hj => ?_⟩).mono ?_
    · cases j with
      | zero => simp at hj; subst hj; exact arg x
      | succ j => cases j with
        | zero => simp at hj; subst hj; exact arg y
        | succ j => simp at hj
    · rintro e' w' ⟨x', H', ι', v, rfl, ⟨rfl, rfl⟩, gd, rv⟩
      cases rv with | p _ _ rp =>
      rw [rp.int_inv];exact ⟨rfl, cF gd⟩
  have eg := (hcmp default default).1;have main := AnyQ.slices_SortFunc L k aE zE enc hk one cf' hO' g #[] b (0 * k) cap d w (fun args w => eg args w) hcmp' hHolds hbs (by rw [hd]; exact hlen);rw [hd] at main;refine main.mono ?_;rintro e' w' ⟨rfl, d', m, os, hp, hso, rfl⟩;obtain ⟨p1, _, p3⟩ := hp;rw [hd] at p1
  have hperm : d'.toList.Perm (List.range n) := by
    have e8 : (d'.extract 0 n).toList = d'.toList := by rw [<- p1]; simp
    have e9 : (d.extract 0 n).toList = List.range n := by
      have : d.extract 0 n = d := by rw [<- hd]; simp
      rw [this]; simp [d]
    rw [e8, e9] at p3; exact p3
  have hlt : ∀ i ∈ d'.toList, i < n := fun i hi => by simpa using hperm.mem_iff.1 hi
  have hlt2 : ∀ i, i < n -> d'.toList[i]?.isSome = true := fun i hi => by simp [p1, hi]
  have hget : ∀ i (hi : i < n), d'[i]! = d'.toList[i]'(by simp [p1, hi]) := fun i hi => by
    rw [getElem!_pos d' i Za]; simp
  let ys : List β := d'.toList.map (nth xs)
  have hyl : ys.length = n := by simp [ys, p1]
  have hys : ∀ i (hi : i < n), ys[i]'(Za) = nth xs d'[i]! := fun i hi => by
    simp only [ys, List.getElem_map]; rw [hget i hi]
  have hdl : ∀ i, i < n -> d'[i]! < n := fun i hi => by rw [hget i hi]; exact hlt _ (Jv _)
  have yperm : ys.Perm xs := by
    have h9 : (List.range n).map (nth xs) = xs := by
      refine Qp (by simp [hL]) fun i h1 h2 => ?_;simp only [List.getElem_map, List.getElem_range];rw [Zi h2]
    have := hperm.map (nth xs);rw [h9] at this; exact this
  have ysort : ys.Pairwise fun a b => ¬ cf b a < 0 := by
    rw [Dq];intro i j hi hj hij;rw [hys i Za, hys j Za];have h9 := hso i j (Nat.zero_le _) hij Za;simp only [ltOf, cf', X3] at h9;rwa [hixe _ (hdl j Za), hixe _ (hdl i Za)] at h9
  let c' : Array Value := putCells id (0 * k) (flatK enc k d') c
  have hcs : c'.size = c.size := by simp [c', putCells]
  have hat : (sortWorldK enc k w b (0 * k) m d' os).heap[b]? = some (.cells c' t (0, 0)) := by
    simp only [sortWorldK, grow, putRowK, putRow, mapBlock, ahead];rw [Co (by simpa using hbs), Dt, if_pos rfl]
    show Option.map _ w.heap[b]? = _
    rw [hw]; rfl
  have hoth : ∀ q, q < w.heap.size -> q ≠ b -> (sortWorldK enc k w b (0 * k) m d' os).heap[q]? = w.heap[q]? := fun q hq hne => by
    simp only [sortWorldK, grow, putRowK, putRow, mapBlock, ahead];rw [Co (by simpa using hq), Dt, if_neg (fun e => hne e.symm)]
    rfl
  have hc' : ∀ i j, i < n -> j < k -> c'.getD (i * k + j) undef = c.getD (d'[i]! * k + j) undef := fun i j hi hj => by
    have hb1 : i * k + j < n * k := by
      have := XU k (show i + 1 <= n from hi);rw [YN, Vv] at this; omega
    have e8 : (flatK enc k d')[i * k + j]! = c.getD (d'[i]! * k + j) undef := by
      rw [get_flatK enc k d' _ (by rw [p1]; exact hb1)]
      have q1 : (i * k + j) / k = i := by rw [KX, Nat.mul_add_div Za, U0 hj]; omega
      have q2 : (i * k + j) % k = j := by rw [KX, Nat.mul_add_mod, KQ hj]
      rw [q1, q2]
      show (NV c k (ix d'[i]!))[j]! = _
      rw [BJ hj, hixe _ (hdl i hi)]
    have e9 : c'[i * k + j]? = some ((flatK enc k d')[i * k + j]!) := by
      simp only [c', putCells, Array.getElem?_mapIdx];rw [Array.getElem?_eq_getElem Za];simp only [KT, Nat.zero_mul, Nat.zero_le, true_and, Xl, size_flatK, p1, hb1, if_true, Nat.sub_zero, id]
    rw [ZI, e9, Jk, e8]
  have good := XO (w' := sortWorldK enc k w b (0 * k) m d' os) (c := c') (t := t) (xs' := ys.map f) (cap := cap2) (b' := b) hr (o := o) (S := k) (xs := xs.map f) hHo rfl (Tp.of rfl (by simp [sortWorldK, grow, putRowK, putRow, mapBlock, ahead])) rfl
    (fun c0 t0 h => by rw [hw] at h; simp at h; obtain ⟨rfl, rfl⟩ := h; exact ⟨rfl, hcs⟩) (by simp [sortWorldK, grow, putRowK, putRow, mapBlock, ahead]) hat hoth (.inl ⟨hι, .inl ⟨by simp [hyl, hL], fun c0 t0 h => by rw [hw] at h; simp at h; obtain ⟨rfl, rfl⟩ := h; exact ⟨rfl, hcs⟩⟩⟩)
    (by rw [hcs]; exact e3) (by simp only [Zu, hyl]; simpa [hL] using e4) e5
    (fun i x hi => by
      rw [Xu, Zr] at hi;obtain ⟨y, _, rfl⟩ := hi;obtain ⟨cs, q1, q2, _⟩ := hf y
      rw [q1]; exact q2)
    (fun i x j y hi hj => by
      rw [Xu, Zr] at hi;obtain ⟨z, hz, rfl⟩ := hi
      have hin : i < n := by have := (Zt.1 hz).1; omega
      have e8 : z = nth xs d'[i]! := by
        obtain ⟨h9, h10⟩ := Zt.1 hz;rw [<- h10]; exact hys i hin
      obtain ⟨cs, q1, q2, q3⟩ := cell _ (hdl i hin);rw [e8, q1] at hj
      have hjk : j < k := by rw [<- q2]; exact (Zt.1 hj).1
      rw [hc' i j hin hjk]
      exact (q3 j y hj).2)
  have ZF : ι.set o (some b) = ι := by
    refine Ju fun i => ?_;rw [UD]
    split
    · rename_i e; subst e
      have := (Zt.1 hι).1;rw [if_pos this, hι]
    · rfl
  rw [ZF] at good;exact ⟨.tup [], _, ι, .tuple #[], rfl, ⟨rfl, ys, yperm, ysort, rfl⟩, good, .tup [] #[] rfl (fun j c hj => by simp at hj)⟩
end Go.AM
namespace Go.Proofs.YtiigdaohjanidaaGreatDoor.K
open Go Go.AM Go.Proofs
set_option maxRecDepth 60000
set_option maxHeartbeats 8000000
theorem Pp {α:Type} [Inhabited α] {l:List α} {i j:Nat} {a:α} (h:i<l.length):nth (l.set i a) j=if i=j then a else nth l j:=by
 grind [nth]
theorem mL {α:Type} [Inhabited α] {l:List α} {j:Nat} {a:α} (h:j<l.length):nth (l++ [a]) j=nth l j:=by
 grind [nth]
theorem HN {α:Type} [Inhabited α] {l:List α} {a:α} :nth (l++ [a]) l.length=a:=by
 grind [nth]
def cfK (a b:Col):Int:=mS [Vq a.typ b.typ,Vq a.set b.set]
theorem aM {a b:Int} :Vq a b<0↔a<b:=by grind [Vq]
theorem aN {a b:Int} :Vq a b=0↔a=b:=by grind [Vq]
theorem DZ {a b:Col} :cfK a b<0↔a.typ<b.typ\/(a.typ=b.typ/\a.set<b.set):=by
 grind [cfK,HR,aN,aM]
theorem kT : Go.Sort.SWO (ltOf cfK) where
 irrefl x:=by grind [ltOf,DZ]
 trans x y z h1 h2:=by simp only [ltOf,Zl,DZ] at *;omega
 ntrans x y z h1 h2:=by grind [ltOf,DZ]
theorem IW (a b:Col):PC 197 [.p (Xg a),.p (Xg b)] (.int .i64 (cfK a b)):=by
 refine Zc Tryz.func197 rfl xT ?_;simp (disch:=omega) only [Tryz.f197,go_sem,seval];refine Xd (Yv ?_);refine Zo (FU a.typ b.typ) (Yv ?_);refine Zo (FU a.set b.set) (Yv ?_);refine Zo (Zbi [Vq a.typ b.typ,Vq a.set b.set] false Zb) (Yv ?_)
 rfl
theorem nZ (xs:List Col) (hl:xs.length<=1048576) {H:List AM.Obj} {o:Nat} (hH:H[o]? =some (.elems 7 (xs.map Xg))) :
  ACalls Tryz.prog 103 [.sl o 0 xs.length xs.length,.fn (.func 197) [] []] H fun y H'=>y= .tup []/\ ∃ys:List Col,ys.Perm xs/\ys.Pairwise (fun a b=> ¬cfK b a<0)/\H'=H.set o (.elems 7 (ys.map Xg)) :=
 ACalls.sortFunc Mq cL 7 Tryz.isAgg158 Tryz.sizeOf158 Xg (fun x=>⟨_,rfl,rfl,rfl⟩) cfK kT 197 IW xs Za hH
def kd (c:Col):Kd:=⟨c.typ,c.set⟩
def Bst (l:List Col) (k:Nat) (d:Col):Prop:= ∃j,j<k/\nth l j=d/\ ∀i,i<k->kd (nth l i)=kd d->d.price<(nth l i).price\/(d.price=(nth l i).price/\j<=i)
structure Chp (l:List Col) (k:Nat) (m:List (Kd×Int)) (out:List Col):Prop where
 len:out.length<=k
 at1: ∀i,i<out.length->mq m (kd (nth out i))=some (i:Int)
 at2: ∀q v,mq m q=some v-> ∃i,i<out.length/\v=i/\kd (nth out i)=q
 bst: ∀i,i<out.length->Bst l k (nth out i)
 all: ∀j,j<k-> ∃i,i<out.length/\kd (nth out i)=kd (nth l j)
theorem aG (l:List Col):Chp l 0 [] []:=⟨Zb,fun i h=>by simp at h,fun q v h=>by simp [mq] at h,fun i h=>by simp at h,fun j h=>by simp at h⟩
theorem kZ {l:List Col} {k:Nat} {m m':List (Kd×Int)} {out:List Col} (h:Chp l k m out) (hn:mq m (kd (nth l k))=none) (hm: ∀q,mq m' q=if q=kd (nth l k) then some (out.length:Int) else mq m q):Chp l (k+1) m' (out++ [nth l k]):=by
 have hno: ∀i,i<out.length->kd (nth out i)≠kd (nth l k):=fun i hi e=>by
  have:=h.at1 i hi
  grind
 have split: ∀i,i<(out++ [nth l k]).length->(i<out.length/\nth (out++ [nth l k]) i=nth out i)\/(i=out.length/\nth (out++ [nth l k]) i=nth l k):=fun i hi=>by
  simp only [Zm,Zz,ZQ] at hi;rcases Ww i out.length with h1 | h1
  ·grind [mL]
  ·obtain rfl:i=out.length:=Za
   exact .inr ⟨rfl,HN⟩
 refine ⟨by have:=h.len;simp;omega,fun i hi=> ?_,fun q v hq=> ?_,fun i hi=> ?_,fun j hj=> ?_⟩
 ·rcases split i hi with ⟨h1,e⟩ | ⟨rfl,e⟩
  ·rw [e,hm,if_neg (hno i h1)];exact h.at1 i h1
  grind
 ·rw [hm] at hq
  split at hq
  ·grind [HN]
  ·obtain ⟨i,h1,h2,h3⟩:=h.at2 q v hq
   grind
 ·rcases split i hi with ⟨h1,e⟩ | ⟨rfl,e⟩
  ·rw [e];obtain ⟨j,h2,h3,h4⟩:=h.bst i h1;refine ⟨j,Za,h3,fun p hp he=> ?_⟩
   grind
  ·rw [e];refine ⟨k,Za,rfl,fun p hp he=> ?_⟩;rcases Bm.1 hp with h5 | rfl
   ·obtain ⟨i,h6,h7⟩:=h.all p h5
    grind
   omega
 ·rcases Bm.1 hj with h5 | rfl
  ·obtain ⟨i,h6,h7⟩:=h.all j h5
   grind
  ·exact ⟨out.length,Zb,by rw [HN]⟩
theorem lA {l:List Col} {k:Nat} {m:List (Kd×Int)} {out:List Col} {i:Nat} (h:Chp l k m out) (hi:i<out.length) (hk:kd (nth out i)=kd (nth l k)):Chp l (k+1) m (if (nth l k).price<(nth out i).price then out.set i (nth l k) else out):=by
 have hun: ∀j,j<out.length->kd (nth out j)=kd (nth l k)->j=i:=fun j hj e=>by
  have h1:=h.at1 j hj;have h2:=h.at1 i hi
  grind
 split
 ·rename_i hp
  have key: ∀j,kd (nth (out.set i (nth l k)) j)=kd (nth out j):=fun j=>by
   grind [Pp]
  refine ⟨by have:=h.len;simp;omega,fun j hj=> ?_,fun q v hq=> ?_,fun j hj=> ?_,fun j hj=> ?_⟩
  ·rw [key];exact h.at1 j (by grind)
  ·obtain ⟨j,h1,h2,h3⟩:=h.at2 q v hq
   grind
  ·simp only [KS] at hj;rw [Pp hi]
   split
   ·rename_i e;subst e;refine ⟨k,Za,rfl,fun p hp2 he=> ?_⟩;rcases Bm.1 hp2 with h5 | rfl
    ·obtain ⟨j,h6,h7,h8⟩:=h.bst i hi
     grind
    omega
   ·rename_i e;obtain ⟨p,h2,h3,h4⟩:=h.bst j hj;refine ⟨p,Za,h3,fun p' hp' he=> ?_⟩
    grind
  ·rcases Bm.1 hj with h5 | rfl
   ·obtain ⟨p,h6,h7⟩:=h.all j h5
    grind
   grind
 ·rename_i hp;refine ⟨by have:=h.len;omega,h.at1,h.at2,fun j hj=> ?_,fun j hj=> ?_⟩
  ·obtain ⟨p,h2,h3,h4⟩:=h.bst j hj;refine ⟨p,Za,h3,fun p' hp' he=> ?_⟩
   grind
  ·rcases Bm.1 hj with h5 | rfl
   ·exact h.all j h5
   grind
structure Cheap (l ys:List Col):Prop where
 asc:ys.Pairwise fun a b=>cfK a b<0
 bst: ∀d∈ys,Bst l l.length d
 all: ∀c∈l,∃d∈ys,kd d=kd c
theorem kY {l:List Col} {m:List (Kd×Int)} {out ys:List Col} (h:Chp l l.length m out) (hp:ys.Perm out) (ha:ys.Pairwise fun a b=> ¬cfK b a<0):Cheap l ys:=by
 have hnd:out.Pairwise fun a b=>kd a≠kd b:=by
  rw [Dq];intro i j hi hj hij e;have h1:=h.at1 i hi;have h2:=h.at1 j hj
  grind [Zi]
 have hnd2:ys.Pairwise fun a b=>kd a≠kd b:=(hp.pairwise_iff fun h e=>h e.symm).2 hnd;refine ⟨(hnd2.and ha).imp fun {a b} hh=> ?_,fun d hd=> ?_,fun c hc=> ?_⟩
 ·rw [DZ] at hh ⊢
  grind [kd]
 ·obtain ⟨i,hi,rfl⟩:=ZD.1 (hp.mem_iff.1 hd);rw [<- Zi hi];exact h.bst i hi
 ·obtain ⟨j,hj,rfl⟩:=ZD.1 hc;obtain ⟨i,hi,e⟩:=h.all j hj
  grind [Zi]
theorem Nc (l:List Col) (c:Bool) (hl:l.length<=8192):ACalls Tryz.prog 150 [.p (.list c (l.map Xg))] [] fun y H'=> ∃ys:List Col,(Cheap l ys/\ys.length<=l.length)/\y= .p (.list false (ys.map Xg))/\H'= []:=by
 refine Ze [15] Tryz.func150 rfl wQ ?_;simp (disch:=omega) only [Tryz.f150,go_sem,seval];refine Zj [3,11,12] (fun q:Nat×List (Kd×Int)×List Col=> [(4,.sl 1 0 q.2.2.length q.2.2.length),(13,.p (.int .i64 q.1))]) (fun q=> [.map (q.2.1.map (I5 Ti)),.elems 7 (q.2.2.map Xg)]) (fun q=>q.1<=l.length/\Chp l q.1 q.2.1 q.2.2) (fun q=>l.length-q.1) (0,[],[]) ⟨Zb,aG l⟩ (Weak.ofNil 4 7 (by simp (disch:=omega) only [go_sem,seval]) Zb (Weak.mk ?_)) ?_
 ·simp (disch:=omega) only [Zk,ZQ,go_sem,seval]
 ·rintro ⟨k,m,out⟩ ⟨hk,hC⟩;simp only at hk hC;have hol:=hC.len;refine Yv ?_;refine cD ?_ ?_<;>intro h1<;>simp (disch:=omega) only [Sh.out h1,go_sem,seval,↓reduceIte]
  ·have hk2:k<l.length:=Za
   refine dF (l:=m) (k:=kd (nth l k)) cY (fun _ _=>trivial) trivial (by rfl) (Yv ?_)
   cases hq:mq m (kd (nth l k)) with
   | none =>
    simp (disch:=omega) only [KO,Option.getD_none,go_sem,seval];refine HW (l:=m) (k:=kd (nth l k)) cY (fun _ _=>trivial) trivial (by rfl) fun m' hm' _=> ?_;simp (disch:=omega) only [Xj,go_sem,seval];exact ⟨(k+1,m',out++ [nth l k]),⟨Za,kZ hC hq hm'⟩,Za,Weak.mk (by simp (disch:=omega) only [Xi,ZN,Zk,Zm,Zz,ZQ,Xl,go_sem,seval])⟩
   | some v =>
    obtain ⟨i,hi,rfl,hkd⟩:=hC.at2 _ _ hq;have hold:=lA hC hi hkd;simp (disch:=omega) only [Jt,Jk,go_sem,seval];refine Xd ?_;simp (disch:=first | omega | (simp only [Zz,ZQ,Zm,Zu,Zy,ZK]<;>omega)) only [Yx hi,hi,go_sem,seval,↓reduceIte];refine ZH ?_ ?_<;>intro h2
    ·rw [if_pos h2] at hold;simp (disch:=first | omega | (simp only [Zz,ZQ,Zm,Zu,Zy,ZK]<;>omega)) only [go_sem,seval];exact ⟨(k+1,m,out.set i (nth l k)),⟨Za,hold⟩,Za,Weak.mk (by simp (disch:=omega) only [V4,KS,go_sem,seval])⟩
    ·rw [if_neg h2] at hold;exact ⟨(k+1,m,out),⟨Za,hold⟩,Za,wk⟩
  ·have hkl:k=l.length:=Za
   subst hkl;refine (nZ out Za (H:=_) (o:=1) rfl).mono ?_;rintro y H' ⟨rfl,ys,g1,g2,rfl⟩;have hyl:ys.length=out.length:=g1.length_eq;simp (disch:=omega) only [X2,Xj,go_sem,seval];rw [<- hyl];refine Zp (Weak.fz (o:=1) (by rfl)) (Zf [] _ _ _ _ (Kw ?_));exact ⟨.p (.list false (ys.map Xg)),[],wk,ys,⟨kY hC g1 g2,Za⟩,rfl,rfl⟩
def Yh (x:Inst):Nat->Nat
 | 0=>0
 | i+1=>if (nth x.orders i).off=true then Yh x i else Yh x i|||pw i
theorem Zjk (x:Inst): ∀i,Yh x i<2^i
 | 0=>by simp [Yh]
 | i+1=>by
  have:=Zjk x i
  have h:2^(i+1)=2*2^i:=Za
  rw [Yh]
  split
  ·omega
  ·exact Qo Za (by rw [pw];omega)
theorem Uk (x:Inst): ∀(n i:Nat),(Yh x n).testBit i=(decide (i<n)&& !(nth x.orders i).off)
 | 0,i=>by simp [Yh]
 | n+1,i=>by
  rw [Yh]
  split
  ·rename_i h;rw [Uk x n i]
   by_cases e:i=n
   ·subst e;simp [h]
   ·have:decide (i<n+1)=decide (i<n):=by simp;omega
    rw [this]
  ·rename_i h;rw [KU,Uk x n i,pw,Nat.testBit_two_pow]
   grind
theorem sS (o:Ord):PC 195 [.p (eOrd o)] (.bool true):=by
 refine Zc Tryz.func195 rfl xR ?_;simp (disch:=omega) only [Tryz.f195,go_sem,seval,↓reduceIte]
theorem ZbG (x:Inst) (hn:x.orders.length<=10):PC 194 [.p (Zs x),.fn (.func 195) [] []] (.int .i64 ((Yh x x.orders.length:Nat):Int)):=by
 refine Ze [] Tryz.func194 rfl xQ ?_;simp (disch:=omega) only [Tryz.f194,go_sem,seval];refine Zj [1,9,10] (fun k:Nat=> [(5,.p (.int .i64 ((Yh x k:Nat):Int))),(11,.p (.int .i64 k))]) (fun _=> [Zg x]) (fun k=>k<=x.orders.length) (fun k=>x.orders.length-k) 0 Zb (Weak.mk ?_) ?_
 ·have h00:((Yh x 0:Nat):Int)=0:=rfl;simp (disch:=omega) only [h00,Zg,go_sem,seval]
 ·intro k hk;refine X6 ?_;refine cD ?_ ?_<;>intro h1<;>simp (disch:=omega) only [Sh.out h1,go_sem,seval,↓reduceIte]
  ·have hk2:k<x.orders.length:=Za
   have hm:=Zjk x k;have hp:2^k<=2^10:=Yi Za Za;have hpw:pw k<=1024:=hp;refine US ?_ ?_<;>intro h2
   ·refine (sS (nth x.orders k)).use (Yv ?_)
    have ho:(nth x.orders k).off=false:=by grind
    exact ⟨k+1,Za,Za,Weak.mk (by simp (disch:=omega) only [Yh,ho,Yj,go_sem,seval,↓reduceIte])⟩
   ·have ho:(nth x.orders k).off=true:=by grind
    exact ⟨k+1,Za,Za,Weak.mk (by simp (disch:=omega) only [Yh,ho,go_sem,seval,↓reduceIte])⟩
  ·have hkl:k=x.orders.length:=Za
   subst hkl;exact we
theorem Zbl (x:Inst) (hn:x.orders.length<=10):PC 148 [.p (Zs x)] (.int .i64 ((Yh x x.orders.length:Nat):Int)):=by
 refine Zc Tryz.func148 rfl wO ?_;simp (disch:=omega) only [Tryz.f148,go_sem,seval];refine (ZbG x hn).use ?_;simp (disch:=omega) only [go_sem,seval]
def iG (S M:Nat):Bool:=(List.range 63).all fun i=> !S.testBit i||M.testBit i
theorem nT (S M:Nat) (hS:S<9223372036854775808):PC 196 [.p (.int .i64 (S:Int)),.p (.int .i64 (M:Int))] (.bool (iG S M)):=by
 refine Zc Tryz.func196 rfl xS ?_;simp (disch:=omega) only [Tryz.f196,go_sem,seval];have hb:=CP (S:=S) (M:=M) hS
 have hd:decide (IntKind.i64.wrap ((BitVec.ofInt 64 (S:Int)&&& ~~~BitVec.ofInt 64 (M:Int)).toNat:Int)=0)=((List.range 63).all fun i=> !S.testBit i||M.testBit i):=by
  grind
 exact Qm (fun b=>V.p (PV.bool b)) hd
def rightB (x:Inst) (c:Col):Bool:=decide (0<=c.typ)&&(decide (c.typ<x.types.length)&&(decide (0<c.set)&&(iG c.set.toNat (Yh x x.orders.length)&&(decide (0<=c.price)&&decide (c.price<=18014398509481984)))))
theorem Ry (x:Inst) (c:Col) (hs:c.set<9223372036854775808) (ht:x.types.length<=1048576):PC 149 [.p (Zs x),.p (Xg c),.p (.int .i64 ((Yh x x.orders.length:Nat):Int))] (.bool (rightB x c)):=by
 refine Zc Tryz.func149 rfl wP ?_;simp (disch:=omega) only [Tryz.f149,go_sem,seval];refine gT ?_ ?_<;>intro h1<;>simp (disch:=omega) only [Sh.out h1,go_sem,seval,↓reduceIte]
 ·refine gT ?_ ?_<;>intro h2<;>simp (disch:=omega) only [Sh.out h2,go_sem,seval,↓reduceIte]
  ·refine gT ?_ ?_<;>intro h3<;>simp (disch:=omega) only [Sh.out h3,go_sem,seval,↓reduceIte]
   ·obtain ⟨S,hS⟩: ∃S:Nat,c.set=(S:Int):=⟨c.set.toNat,Za⟩
    have e1:rightB x c=(iG S (Yh x x.orders.length)&&(decide (0<=c.price)&&decide (c.price<=18014398509481984))):=by
     simp_all [rightB]
    rw [hS];refine (nT S (Yh x x.orders.length) Za).use (Yv ?_);refine gT ?_ ?_<;>intro h4<;>simp (disch:=omega) only [Sh.out h4,go_sem,seval,↓reduceIte]
    ·refine gT ?_ ?_<;>intro h5<;>simp (disch:=omega) only [Sh.out h5,go_sem,seval,↓reduceIte]
     ·grind
     grind
    grind
   grind [rightB]
  grind [rightB]
 ·simp [rightB,h1]
theorem ZnI (n:Nat) (h0:0<n) (h:n<16):PC 159 [.p (.int .u64 n)] (.int .i64 (Ad n)):=by
 refine Zc Tryz.func159 rfl wX ?_;simp (disch:=omega) only [Tryz.f159,go_sem,seval];refine (ZbL n h0 h).use ?_;simp (disch:=omega) only [go_sem,seval]
theorem Me (n:Nat) (h0:0<n) (h:n<16):PC 107 [.p (.int .i64 n)] (.int .i64 (Ad n)):=by
 refine Zc Tryz.func107 rfl vQ ?_;simp (disch:=omega) only [Tryz.f107,go_sem,seval];refine cD ?_ ?_<;>intro h1<;>simp (disch:=omega) only [Sh.out h1,go_sem,seval]
 ·omega
 ·refine (ZnI n h0 h).use ?_;simp (disch:=omega) only [go_sem,seval]
def skpF (x:Inst) (i:Nat):Int:=if (unsF x i).2=0/\(Wm (unsF x i).1).2=0 then (Wm (unsF x i).1).1 else-1
def X8 (ys:List Col) (i:Nat):List Col:=ys.filter fun c=>decide (Ad c.set.toNat=(i:Int))
def fstF (n:Nat) (ys:List Col):List (List Col):=(List.range n).map (X8 ys)
theorem Su {ys:List Col} {k i:Nat} (h:k<ys.length):X8 (ys.take (k+1)) i=if Ad (nth ys k).set.toNat=(i:Int) then X8 (ys.take k) i++ [nth ys k] else X8 (ys.take k) i:=by
 grind [ZE,X8,nth]
theorem fJ (i:Nat):X8 [] i= []:=rfl
theorem BG (ys:List Col) (k i:Nat):(X8 (ys.take k) i).length<=ys.length:=by
 refine KW (List.length_filter_le _ _) ?_;simp;omega
theorem Jc (ys):fstF 0 ys= []:=rfl
theorem Qh (ys):fstF 1 ys= [X8 ys 0]:=rfl
theorem Qi (ys):fstF 2 ys= [X8 ys 0,X8 ys 1]:=rfl
theorem Qj (ys):fstF 3 ys= [X8 ys 0,X8 ys 1,X8 ys 2]:=rfl
theorem Qk (ys):fstF 4 ys= [X8 ys 0,X8 ys 1,X8 ys 2,X8 ys 3]:=rfl
def BM : List (List Col)->Nat->List V
 | [],_=> []
 | p::P,o=> .sl o 0 p.length p.length::BM P (o+1)
def GD (P:List (List Col)):List AM.Obj:=P.map fun p=> .elems 7 (p.map Xg)
theorem Sd {n0:Nat} {fr:List V} {a b c:AM.Obj} (h0:n0<=4) (n:Nat):Weak n0 fr [a,b,c,.cells (List.replicate n (.p (.list true [])))] fr (a::b::c:: .cells (BM (List.replicate n []) 4)::GD (List.replicate n [])):=by
 have hr: ∀(k o:Nat),BM (List.replicate k []) o=(List.range k).map fun j=>V.sl (o+j) 0 0 0:=fun k=>by
  induction k with
  | zero=>intro o;rfl
  | succ k ih =>
   intro o;rw [Jh,BM,ih,List.range_succ_eq_map,ZN,List.map_map];simp only [ZQ,V5,List.cons.injEq,true_and];apply Vt
   grind
 have key: ∀k,k<=n->Weak n0 fr [a,b,c,.cells (List.replicate n (.p (.list true [])))] fr (a::b::c:: .cells (((List.range k).map fun j=>V.sl (4+j) 0 0 0)++List.replicate (n-k) (.p (.list true [])))::List.replicate k (.elems 7 [])):=fun k=>by
  induction k with
  | zero=>grind [Weak.refl]
  | succ k ih =>
   intro hk
   have h1:=(ih Za).trans (Weak.nilC (n0:=n0) (fr:=fr) (o:=3) (j:=k) 7 (by rfl) (by
    grind) (by simp;omega))
   have e1:List.length (a::b::c::AM.Obj.cells (((List.range k).map fun j=>V.sl (4+j) 0 0 0)++List.replicate (n-k) (.p (.list true [])))::List.replicate k (AM.Obj.elems 7 []))=4+k:=by simp;omega
   have e2:(((List.range k).map fun j=>V.sl (4+j) 0 0 0)++List.replicate (n-k) (V.p (.list true []))).set k (.sl (4+k) 0 0 0)=((List.range (k+1)).map fun j=>V.sl (4+j) 0 0 0)++List.replicate (n-(k+1)) (V.p (.list true [])):=by
    rw [List.set_append_right _ _ Zb,show n-k=(n-(k+1))+1 by omega,Jh,Wt,Xi];simp
   grind [List.replicate_succ']
 have:=key n (ZL _)
 simp_all [GD]
def skF (x:Inst) (n:Nat):List Int:=(List.range n).map (skpF x)
def kN (x:Inst) (m:Int) (f g:V):AM.Obj:= .cells [.p (.list x.net.places_c (x.net.places.map eS)),.p (.list x.net.arcs_c (x.net.arcs.map VW)),.p (.list x.types_c (x.types.map Vr)),.p (.list x.orders_c (x.orders.map eOrd)),.p (.list x.apart_c (x.apart.map eP)),.p (.list x.before_c (x.before.map eP)),f,g,.mp 1,.p (.int .i64 m)]
theorem UK {x:Inst} {c:Col} (h:rightB x c=true) (hs:c.set<9223372036854775808): ∃S:Nat,c.set=S/\0<S/\S<2^x.orders.length/\ ∀i,S.testBit i=true->i<x.orders.length/\(nth x.orders i).off=false:=by
 simp only [rightB,ZG,Zl] at h;obtain ⟨_,_,h3,h4,_⟩:=h
 have key: ∀i,c.set.toNat.testBit i=true->i<x.orders.length/\(nth x.orders i).off=false:=fun i hi=>by
  have h63:i<63:=by
   rcases Ww i 63 with h | h
   ·exact h
   ·have:2^63<=2^i:=Yi Za h
    grind [KK]
  have:=ZC.1 h4 i (Xa.2 h63)
  grind [Uk]
 refine ⟨c.set.toNat,Za,Za,?_,key⟩;refine Nat.lt_pow_two_of_testBit _ fun i hi=> ?_
 grind
theorem ZbM {S n:Nat} (h0:0<S) (h:S<2^n) (hn:n<=4):Ad S<n/\0<=Ad S:=by
 have:n=0\/n=1\/n=2\/n=3\/n=4:=Za
 unfold Ad
 grind
theorem EZ (x:Inst) (k:Nat):skF x (k+1)=skF x k++ [skpF x k]:=by simp [skF,Wt]
theorem JA (x:Inst) (k:Nat):(skF x k).length=k:=by simp [skF]
theorem Zic (x:Inst):skF x 0= []:=rfl
theorem Lw {P:Program} {ko:List Nat} {l:List Oper} {n:Nat} {rem:List Nat} {fr:List V} {H:List AM.Obj} {K:List V->List AM.Obj->Prop} (m:Nat) (Y:V) (Z:List AM.Obj) (hr:Vy l rem= [m]) (h:Zx P (ZZ l m) fr H fun y H'=>y=Y/\H'=Z)
  (k:(∀k∈ko,oat Z k=oat H k)/\Ar P ko l n (rem.erase m) (Y7 fr (ZZ l m).dst Y) Z K):Ar P ko l (n+1) rem fr H K :=
 Gf m _ hr h fun y H' hq=>by grind
theorem Rx (x:Inst) (l:List Col) (lc:Bool) (hn:x.orders.length<=4) (ht:x.types.length<=1048576) (hu: ∀i:Nat,scoR 1152921504606846976 (unsF x i).1) (hs: ∀c∈l,c.set<9223372036854775808) (hl:l.length<=1048576) :
  ACalls Tryz.prog 99 [.p (Zs x),.p (.list lc (l.map Xg))] [] fun y H'=>(8192<l.length/\y= .tup [.p .nilp,.p (.int .i64 4)]/\H'= [])\/(l.length<=8192/\(∃c∈l,rightB x c=false)/\y= .tup [.p .nilp,.p (.int .i64 2)]/\H'= []) \/
   (l.length<=8192/\(∀c∈l,rightB x c=true)/\ ∃ys,(Cheap l ys/\ys.length<=l.length)/\y= .tup [.ptr 2 0,.p (.int .i64 0)]/\H'= .cells (List.replicate 6 .junk)::(XX x (.list false ((fstF x.orders.length ys).map Y2)) (.list false ((skF x x.orders.length).map eI)) (Yh x x.orders.length) []).map (shO 1)):=by
 refine Ze [10] Tryz.func99 rfl Zhv ?_;simp (disch:=omega) only [Tryz.f99,go_sem,seval];refine cD ?_ ?_<;>intro h0<;>simp (disch:=omega) only [Sh.out h0,go_sem,seval]
 ·exact ⟨_,[],wk,.inl ⟨Za,rfl,rfl⟩⟩
 ·refine Xc [1] 4 mixed Zd Zd Zd Zb (Yv ?_);refine Zo (Zbl x Za) (Yv ?_);refine ZU 1 _ _ Zd (by refine Yv ?_;exact ⟨rfl,rfl⟩) (Yg ?_);simp (disch:=omega) only [show ∀(l:List V),Qd (V.mp 1::l)=none from fun _=>rfl,Option.map_none,go_sem,seval];refine Zj [1,2,6,27,28] (fun k:Nat=> [(29,.p (.int .i64 k))]) (fun _=> [Zg x,.map [],kN x ((Yh x x.orders.length:Nat):Int) (.p (.list true [])) (.p (.list true []))]) (fun k=>k<=l.length/\ ∀j,j<k->rightB x (nth l j)=true) (fun k=>l.length-k) 0 ⟨Za,fun j hj=>Za⟩ (Weak.mk ?_) ?_
  ·simp (disch:=omega) only [Zg,kN,go_sem,seval]
  ·rintro k ⟨hk,hr⟩;simp (disch:=omega) only [Zg,kN,go_sem,seval];refine cD ?_ ?_<;>intro h1<;>simp (disch:=omega) only [Sh.out h1,go_sem,seval,↓reduceIte]
   ·have hk2:k<l.length:=Za
    refine Xd (Yv ?_);refine Zo (Ry x (nth l k) (hs _ (ZV hk2)) ht) (Yv ?_)
    cases hq:rightB x (nth l k) with
    | false =>
     refine Zdu ?_;exact ⟨_,[],wk,.inr (.inl ⟨Za,⟨_,ZV hk2,hq⟩,rfl,rfl⟩)⟩
    | true =>
     refine Mv ?_
     exact ⟨k+1,⟨Za,fun j hj=>by
      grind⟩,Za,wk⟩
   ·have hkl:k=l.length:=Za
    subst hkl
    have hall: ∀c∈l,rightB x c=true:=fun c hc=>by
     obtain ⟨j,hj,rfl⟩:=ZD.1 hc
     grind [Zi]
    clear hr hk h1;generalize ((Yh x x.orders.length:Nat):Int)=m;have hun: ∀i:Nat,PT 151 [.p (Zs x),.p (.int .i64 i)] [.p (Df (unsF x i).1),.p (.int .i64 (unsF x i).2)]:=fun i=>LV x i Za;refine UU (Dm 4 rfl rfl (Yv ?_));refine ⟨_,_,Gs 205 110 _ _ x.orders.length 24 (.list true []) rfl Zd Zd Zd Zd (by rfl) Za Za (by simp (disch:=omega) only [go_sem,seval]) (by simp (disch:=omega) only [go_sem,seval]),?_⟩
    refine Yv ?_
    have h5:x.orders.length=0\/x.orders.length=1\/x.orders.length=2\/x.orders.length=3\/x.orders.length=4:=Za
    refine Zp (Sd Zb x.orders.length) ?_;refine Zf [17] _ _ _ _ (Yv ?_);refine (Nc l lc Za).useV fun ys hC=>Yv ?_;obtain ⟨hC,hyl⟩:=hC;rcases h5 with h5 | h5 | h5 | h5 | h5
    all_goals
     simp (disch:=omega) only [h5,List.replicate,BM,GD,ZN,Zk,go_sem,seval];refine Zj [2,6,50,51] (fun k:Nat=> [(52,.p (.int .i64 k))]) (fun k=> [Zg x,.map [],kN x m (.sl 3 0 x.orders.length x.orders.length) (.p (.list true [])),.cells (BM (fstF x.orders.length (ys.take k)) 4)]++GD (fstF x.orders.length (ys.take k))) (fun k=>k<=ys.length) (fun k=>ys.length-k) 0 Za (Weak.mk ?_) ?_
     ·simp (disch:=omega) only [h5,UF,fJ,ZQ,Jc,Qh,Qi,Qj,Qk,BM,GD,ZN,Zk,ZP,ZR,Zg,kN,go_sem,seval]
     ·intro k hk;simp (disch:=omega) only [h5,Jc,Qh,Qi,Qj,Qk,BM,GD,ZN,Zk,ZP,ZR,Zg,kN,go_sem,seval];refine cD ?_ ?_<;>intro h1<;>simp (disch:=omega) only [Sh.out h1,go_sem,seval,↓reduceIte]
      ·have hk2:k<ys.length:=Za
       obtain ⟨j,hj,hjl,_⟩:=hC.bst _ (ZV hk2)
       have hmem:nth ys k∈l:=by rw [<- hjl];exact ZV hj
       obtain ⟨S,hS,hS0,hS1,hS2⟩:=UK (hall _ hmem) (hs _ hmem);have hlt:=ZbM hS0 hS1 hn;have h16:S<16:=Qn hS1 (by rw [h5];decide)
       have cl:PC 107 [.p (.int .i64 (nth ys k).set)] (.int .i64 (Ad (nth ys k).set.toNat)):=by
        rw [hS];exact Me S hS0 h16
       refine (cl).use ?_;simp (disch:=omega) only [go_sem,seval]
       have htz:Ad (nth ys k).set.toNat=Ad S:=by rw [hS];rfl
       have hi:Ad (nth ys k).set.toNat=0\/Ad (nth ys k).set.toNat=1\/Ad (nth ys k).set.toNat=2\/Ad (nth ys k).set.toNat=3:=Za
       rcases hi with hi | hi | hi | hi
       all_goals try omega
       all_goals
        simp (disch:=omega) only [hi,go_sem,seval];refine Q7 [14] [1,2,3] [2] 15 mixed Zd Zd Zd Zd Zb ?_;simp (disch:=omega) only [go_sem,seval,↓reduceIte];refine ⟨fun q hq p' hp=> ?_,?_⟩
        ·simp only [Xq,Jj,or_false] at hq;rcases hq with rfl | rfl | rfl
         ·obtain rfl:59=p':=Vu hp;exact WY (by decide)
         ·obtain rfl:60=p':=Vu hp;exact WY (by decide)
         ·obtain rfl:61=p':=Vu hp;exact WY (by decide)
        ·have q0:=BG ys k 0;have q1:=BG ys k 1;have q2:=BG ys k 2;have q3:=BG ys k 3;refine Lw 14 _ _ Zd (by simp (disch:=omega) only [go_sem,seval,↓reduceIte];exact ⟨rfl,rfl⟩) ?_;refine ⟨fun k hk=>by simp at hk;subst hk;rfl,HG ?_⟩;simp (disch:=omega) only [go_sem,seval];exact ⟨k+1,Za,Za,Weak.mk (by simp (disch:=omega) only [h5,Su hk2,hi,Xi,Zm,Zz,ZQ,Xl,Qh,Qi,Qj,Qk,BM,ZN,Zk,go_sem,seval,↓reduceIte])⟩
      ·have hkl:k=ys.length:=Za
       subst hkl;clear hk h1
       try refine Zp (Weak.fz (o:=4) (by rfl)) ?_
       try refine Zp (Weak.fz (o:=5) (by rfl)) ?_
       try refine Zp (Weak.fz (o:=6) (by rfl)) ?_
       try refine Zp (Weak.fz (o:=7) (by rfl)) ?_
       refine Zf [17] _ _ _ _ ?_;simp (disch:=omega) only [UB,ZN,Zk,X2,Xj,eq_self,go_sem,seval,↓reduceIte];refine Zp (Weak.fzC (o:=3) (ys:=(fstF x.orders.length ys).map Y2) (by rw [h5];rfl) (fun y hy=>by obtain ⟨p,_,rfl⟩:=Xz.1 hy;rfl)) ?_;refine Zf [17] _ _ _ _ ?_;simp (disch:=omega) only [h5,Jc,Qh,Qi,Qj,Qk,ZN,Zk,X2,Xj,Zz,ZQ,Xl,Nat.reduceAdd,eq_self,go_sem,seval,↓reduceIte]
       refine Zf [28] _ _ _ _ ?_;simp (disch:=omega) only [go_sem,seval,↓reduceIte];refine Zj [2,6,78] (fun k:Nat=> [(79,.p (.int .i64 k))]) (fun k=> [Zg x,.map [],kN x m (.p (.list false ((fstF x.orders.length ys).map Y2))) (.sl (4+x.orders.length) 0 k k),.dead]++List.replicate x.orders.length .dead++ [.elems 1 ((skF x k).map eI)]) (fun k=>k<=x.orders.length) (fun k=>x.orders.length-k) 0 Za ((Weak.nilC (o:=2) (j:=7) 1 (by rfl) (by rfl) Zb).trans (Weak.mk ?_)) ?_
       ·simp (disch:=omega) only [h5,Zic,List.replicate,X2,Xj,Zz,ZQ,Xl,Nat.reduceAdd,Jc,Qh,Qi,Qj,Qk,ZN,Zk,ZP,ZR,Zg,kN,go_sem,seval]
       ·intro k hk;simp (disch:=omega) only [h5,List.replicate,Nat.reduceAdd,Jc,Qh,Qi,Qj,Qk,ZN,Zk,ZP,ZR,Zg,kN,go_sem,seval];refine cD ?_ ?_<;>intro h1<;>simp (disch:=omega) only [Sh.out h1,go_sem,seval,↓reduceIte]
        ·have hk2:k<x.orders.length:=Za
         refine Qv (hun k) ?_;simp (disch:=omega) only [go_sem,seval,↓reduceIte];refine cD ?_ ?_<;>intro h2<;>simp (disch:=omega) only [Sh.out h2,go_sem,seval,↓reduceIte]
         ·refine Qv (Gt _ (hu k)) ?_;simp (disch:=omega) only [go_sem,seval];refine cD ?_ ?_<;>intro h3<;>simp (disch:=omega) only [Sh.out h3,go_sem,seval,↓reduceIte]
          ·have hsk:skpF x k=(Wm (unsF x k).1).1:=by simp [skpF,h2,h3]
           simp (disch:=omega) only [JA,go_sem,seval];rw [if_pos ⟨Za,Za⟩];simp (disch:=omega) only [JA,Zu,Zm,Zz,ZQ,Xl,eq_self,WG,go_sem,seval];exact ⟨k+1,Za,Za,Weak.mk (by simp (disch:=omega) only [h5,EZ,hsk,Xi,List.replicate,Nat.reduceAdd,Jc,Qh,Qi,Qj,Qk,ZN,Zk,ZP,ZR,go_sem,seval])⟩
          ·have hsk:skpF x k= -1:=by simp [skpF,h3]
           simp (disch:=omega) only [JA,go_sem,seval];rw [if_pos ⟨Za,Za⟩];simp (disch:=omega) only [JA,Zu,Zm,Zz,ZQ,Xl,eq_self,WG,go_sem,seval];exact ⟨k+1,Za,Za,Weak.mk (by simp (disch:=omega) only [h5,EZ,hsk,Xi,List.replicate,Nat.reduceAdd,Jc,Qh,Qi,Qj,Qk,ZN,Zk,ZP,ZR,go_sem,seval])⟩
         ·have hsk:skpF x k= -1:=by simp [skpF,h2]
          simp (disch:=omega) only [JA,go_sem,seval];rw [if_pos ⟨Za,Za⟩];simp (disch:=omega) only [JA,Zu,Zm,Zz,ZQ,Xl,eq_self,WG,go_sem,seval];exact ⟨k+1,Za,Za,Weak.mk (by simp (disch:=omega) only [h5,EZ,hsk,Xi,List.replicate,Nat.reduceAdd,Jc,Qh,Qi,Qj,Qk,ZN,Zk,ZP,ZR,go_sem,seval])⟩
        ·have hkl:k=x.orders.length:=Za
         clear hk h1;refine Zp (Weak.fz (o:=4+x.orders.length) (S:=1) (xs:=(skF x k).map eI) (by rw [h5];rfl)) ?_;refine Zf [] _ _ _ _ ?_;simp (disch:=omega) only [h5,ZN,Zk,X2,Xj,Zu,JA,Nat.reduceAdd,eq_self,go_sem,seval,↓reduceIte];exact ⟨.tup [.ptr 2 0,.p (.int .i64 0)],_,Weak.mk (by simp (disch:=omega) only [hkl,h5,XX,YS,shO,shVs,shV,Jc,Qh,Qi,Qj,Qk,ZN,Zk,go_sem,seval]),.inr (.inr ⟨Za,hall,ys,⟨hC,hyl⟩,rfl,rfl⟩)⟩
theorem ZbN : ∀S:Fin 16,0<S.val->sHas (S.val:Int) (Ad S.val)=true:=by decide+kernel
theorem Mp {x:Inst} (hx:InstOk x) (i:Nat): -1<=skpF x i/\skpF x i<=18014398509481984:=by
 unfold skpF
 split
 ·rename_i h
  have hm:(unsF x i).1.cost<=1000000/\(unsF x i).1.moved<=1/\0<=(unsF x i).1.moved/\(unsF x i).1.other=0/\(unsF x i).1.work=0:=by
   unfold unsF
   split
   ·simp [zSco]
   ·split
    ·simp [zSco]
    ·split
     ·simp [zSco]
     ·have ha:=(hx.orders.2 (i:Int).toNat Za).arg;simp only [argOk,rng,ZG,Zl] at ha
      grind
  obtain ⟨_,h2⟩:=h;unfold Wm at h2 ⊢
  grind
 ·omega
theorem OF {x:Inst} {l ys:List Col} (hx:InstOk x) (hn:x.orders.length<=4) (hC:Cheap l ys) (hr: ∀c∈l,rightB x c=true) (hs: ∀c∈l,c.set<9223372036854775808):ChOk x.orders.length x (fstF x.orders.length ys) (skF x x.orders.length):=by
 refine ⟨fun i hi c hc=> ?_,?_,fun i hi=> ?_⟩
 ·have e:nth (fstF x.orders.length ys) i=X8 ys i:=by
   grind [fstF,Zi]
  rw [e,X8,U2] at hc;obtain ⟨h1,h2⟩:=hc;simp only [Zl] at h2;obtain ⟨j,hj,hjl,_⟩:=hC.bst c h1
  have hm:c∈l:=by grind [ZV]
  obtain ⟨S,q1,q2,q3,_⟩:=UK (hr c hm) (hs c hm);have h16:S<16:=Qn q3 (Yi (n:=2) Za hn);have hb:=ZbN ⟨S,h16⟩ q2;have hr1:=hr c hm;simp only [rightB,ZG,Zl] at hr1
  grind
 ·have ht:=hx.types;simp only [typesOk,rng,Zl] at ht;refine ⟨Za,fun t _=> ?_⟩;rcases Ww t x.types.length with h | h
  ·have:=ht.2 t h;unfold Au at this;have:=this.1.1.1.1.1.1.2;simp only [rng,Zl] at this;omega
  ·rw [show nth x.types t=default from by grind [nth]]
   decide
 simp_all [skF,Zi,Mp]
def zSt : St:=⟨0,0,[0,0,0,0,0,0]⟩
def HJ (x:Inst) (ys:List Col):Int:=YT x.orders.length ((Yh x x.orders.length:Nat):Int) x (fstF x.orders.length ys) (skF x x.orders.length) 20 (W4 x.orders.length ((Yh x x.orders.length:Nat):Int) zSt)
theorem sD (n:Nat):StV n zSt:=⟨rfl,⟨by decide,by simp [zSt]⟩,⟨0,rfl,Za⟩,fun j hj=>by
 have:nth zSt.used j=0:=by
  have:j=0\/j=1\/j=2\/j=3\/j=4\/j=5:=Za
  rcases this with rfl | rfl | rfl | rfl | rfl | rfl<;>rfl
 omega⟩
def kp (c:Col):Int×Int×Int:=(c.typ,c.set,c.price)
theorem E1 {α:Type} {r:α->α->Prop} (irr: ∀a,¬r a a) (asy: ∀a b,r a b-> ¬r b a): ∀ {l l':List α},l.Pairwise r->l'.Pairwise r->(∀a,a∈l↔a∈l')->l=l'
 | [],[],_,_,_=>rfl
 | [],b::_,_,_,h=>by have:=(h b).2 Zb;simp at this
 | a::_,[],_,_,h=>by have:=(h a).1 Zb;simp at this
 | a::l,b::l',h1,h2,h=>by
  rw [List.pairwise_cons] at h1 h2
  have hab:a=b:=by
   rcases Xq.1 ((h a).1 Zb) with e | e
   ·exact e
   ·rcases Xq.1 ((h b).2 Zb) with e' | e'
    ·exact e'.symm
    ·exact absurd (h1.1 b e') (asy _ _ (h2.1 a e))
  subst hab
  rw [E1 irr asy h1.2 h2.2 fun c=>⟨fun hc=>by
   rcases Xq.1 ((h c).1 (YF _ hc)) with e | e
   ·subst e;exact absurd (h1.1 c hc) (irr c)
   ·exact e,fun hc=>by
   rcases Xq.1 ((h c).2 (YF _ hc)) with e | e
   ·subst e;exact absurd (h2.1 c hc) (irr c)
   ·exact e⟩]
theorem aB {l ys:List Col} (h:Cheap l ys) {c:Col} (hc:c∈l): ∃d∈ys,kd d=kd c/\d.price<=c.price:=by
 obtain ⟨d,hd,e⟩:=h.all c hc;obtain ⟨j,hj,rfl⟩:=ZD.1 hc;obtain ⟨i,hi,_,h3⟩:=h.bst d hd
 grind [Zi]
theorem aA {l ys:List Col} (h:Cheap l ys) {d:Col} (hd:d∈ys):d∈l:=by
 obtain ⟨j,hj,e,_⟩:=h.bst d hd
 grind [ZV]
theorem LK {n i:Nat} {ys:List Col} :nth (fstF n ys) i=if i<n then X8 ys i else []:=by
 split
 ·grind [fstF,Zi]
 ·rename_i h;rw [nth,Xv,List.getElem?_eq_none (by simp [fstF];omega)];rfl
def Tl (a b:Int):Prop:=b<0\/(0<=a/\a<=b)
theorem OU {x:Inst} {s:St} {r:Col->Int} (hr: ∀c,-1<=r c): ∀ {l:List Col} {a:Int},(∀c∈l,0<=c.price) ->
  Tl (l.foldl (fun o c=>if Yo x s c=true then YI o c.price (r c) else o) a) a/\ ∀c∈l,Yo x s c=true->0<=r c->Tl (l.foldl (fun o c=>if Yo x s c=true then YI o c.price (r c) else o) a) (c.price+r c)
 | [],a,_=>⟨by grind [Tl],fun c hc=>by simp at hc⟩
 | d::l,a,hp=>by
  have hd:=hp d Zb;obtain ⟨g1,g2⟩:=OU (x:=x) (s:=s) hr (l:=l) (a:=if Yo x s d=true then YI a d.price (r d) else a) fun c hc=>hp c (YF _ hc);rw [XF];generalize l.foldl (fun o c=>if Yo x s c=true then YI o c.price (r c) else o) (if Yo x s d=true then YI a d.price (r d) else a)=M at g1 g2;refine ⟨?_,fun c hc hy h0=> ?_⟩
  ·grind [Tl,YI]
  ·rcases Xq.1 hc with rfl | hc
   ·rw [if_pos hy] at g1
    grind [Tl,YI]
   grind
theorem F4 {x:Inst} {s:St} {r:Col->Int} : ∀ {l:List Col} {a:Int},l.foldl (fun o c=>if Yo x s c=true then YI o c.price (r c) else o) a=a\/ ∃c∈l,Yo x s c=true/\0<=r c/\l.foldl (fun o c=>if Yo x s c=true then YI o c.price (r c) else o) a=c.price+r c
 | [],a=> .inl rfl
 | d::l,a=>by
  rw [XF];rcases F4 (x:=x) (s:=s) (r:=r) (l:=l) (a:=if Yo x s d=true then YI a d.price (r d) else a) with h | ⟨c,h1,h2,h3,h4⟩
  ·rw [h]
   split
   ·rename_i hy;unfold YI
    split
    ·grind
    omega
   omega
  grind
abbrev Cm := { c:Col // ∃S:Nat,c.set=S/\0<S/\S<16 }
instance : Inhabited Cm := ⟨⟨⟨0, 1, 0, default⟩, 1, rfl, by decide, by decide⟩⟩
def lo (c:Col):Int:=Ad c.set.toNat
def kS (a b:Col):Int:=mS [Vq a.typ b.typ,Vq (lo a) (lo b)]
theorem Q9 {a b:Col} :kS a b<0↔a.typ<b.typ\/(a.typ=b.typ/\lo a<lo b):=by
 grind [kS,HR,aN,aM]
def uI (a b:Cm):Int:=kS a.val b.val
theorem kU : Go.Sort.SWO (ltOf uI) where
 irrefl x:=by grind [ltOf,uI,Q9]
 trans x y z h1 h2:=by simp only [ltOf,uI,Zl,Q9] at *;omega
 ntrans x y z h1 h2:=by grind [ltOf,uI,Q9]
theorem ZhE (c:Cm):PC 107 [.p (.int .i64 c.val.set)] (.int .i64 (lo c.val)):=by
 obtain ⟨c,S,h1,h2,h3⟩:=c
 grind [lo,Me]
theorem RB (a b:Cm):PC 104 [.p (Xg a.val),.p (Xg b.val)] (.int .i64 (uI a b)):=by
 refine Zc Tryz.func104 rfl vN ?_;simp (disch:=omega) only [Tryz.f104,go_sem,seval];refine Xd (Yv ?_);refine Zo (FU a.val.typ b.val.typ) (Yv ?_);refine Zo (ZhE a) (Yv ?_);refine Zo (ZhE b) (Yv ?_);refine Zo (FU (lo a.val) (lo b.val)) (Yv ?_);refine Zo (Zbi [Vq a.val.typ b.val.typ,Vq (lo a.val) (lo b.val)] false Zb) (Yv ?_)
 rfl
theorem nY (xs:List Cm) (hl:xs.length<=1048576) {H:List AM.Obj} {o:Nat} (hH:H[o]? =some (.elems 7 (xs.map fun c=>Xg c.val))) :
  ACalls Tryz.prog 103 [.sl o 0 xs.length xs.length,.fn (.func 104) [] []] H fun y H'=>y= .tup []/\ ∃ys:List Cm,ys.Perm xs/\ys.Pairwise (fun a b=> ¬uI b a<0)/\H'=H.set o (.elems 7 (ys.map fun c=>Xg c.val)) :=
 ACalls.sortFunc Mq cL 7 Tryz.isAgg158 Tryz.sizeOf158 (fun c:Cm=>Xg c.val) (fun x=>⟨_,rfl,rfl,rfl⟩) uI kU 104 RB xs Za hH
theorem Cy {n:Nat} {m:Int} {x:Inst} {fst:List (List Col)} {sk:List Int} : ∀(d:Nat) (s:St),∀c∈(Yc n m x fst sk d s).1,∃i,i<fst.length/\c∈nth fst i
 | 0,s,c,h=>by simp [Yc] at h
 | d+1,s,c,h=>by
  rw [Yc] at h
  split at h
  ·simp at h
  ·split at h
   ·rename_i c' hf;simp only [Xq] at h;rcases h with rfl | h
    ·refine ⟨s.ix.toNat,?_,YY hf⟩;rcases Ww s.ix.toNat fst.length with h | h
     ·exact h
     ·rw [show nth fst s.ix.toNat= [] from by simp [nth,Xv,List.getElem?_eq_none h];rfl] at hf;simp at hf
    ·exact Cy d _ c h
   ·exact Cy d _ c h
def zPlC : Pln:=⟨true,[],true,[]⟩
def ChoR (x:Inst) (l:List Col) (p:Pln) (c e:Int):Prop:=(8192<l.length/\p=zPlC/\c=0/\e=4)\/(l.length<=8192/\(∃c∈l,rightB x c=false)/\p=zPlC/\c=0/\e=2) \/
 (l.length<=8192/\(∀c∈l,rightB x c=true)/\ ∃ys,Cheap l ys/\ys.length<=l.length/\((HJ x ys<0/\p=zPlC/\c=0/\e=24)\/(0<=HJ x ys/\c=HJ x ys/\e=0 /\
  ∃zs:List Col,zs.Perm (Yc x.orders.length ((Yh x x.orders.length:Nat):Int) x (fstF x.orders.length ys) (skF x x.orders.length) 20 (W4 x.orders.length ((Yh x x.orders.length:Nat):Int) zSt)).1/\zs.Pairwise (fun a b=> ¬kS b a<0) /\
   p=⟨false,zs.map (·.route),false,(Yc x.orders.length ((Yh x x.orders.length:Nat):Int) x (fstF x.orders.length ys) (skF x x.orders.length) 20 (W4 x.orders.length ((Yh x x.orders.length:Nat):Int) zSt)).2⟩)))
theorem Cx {n:Nat} {m:Int} {x:Inst} {fst:List (List Col)} {sk:List Int} : ∀(d:Nat) (s:St),(Yc n m x fst sk d s).1.length<=d/\(Yc n m x fst sk d s).2.length<=d
 | 0,s=>by simp [Yc]
 | d+1,s=>by
  rw [Yc]
  split
  ·simp
  ·split
   ·rename_i c' hf;have:=Cx (n:=n) (m:=m) (x:=x) (fst:=fst) (sk:=sk) d (Vi n m s c');simp;omega
   ·have:=Cx (n:=n) (m:=m) (x:=x) (fst:=fst) (sk:=sk) d (Ct n m s);simp;omega
theorem Sq (x:Inst) (l:List Col) (lc:Bool) (hx:InstOk x) (hn:x.orders.length<=4) (ht:x.types.length<=1048576) (hs: ∀c∈l,c.set<9223372036854775808) (hl:l.length<=1048576) :
  ACalls Tryz.prog 64 [.p (Zs x),.p (.list lc (l.map Xg))] [] fun y H'=> ∃p c e,ChoR x l p c e/\y= .tup [.p (W2 p),.p (.int .i64 c),.p (.int .i64 e)]/\H'= []:=by
 refine Ze [16] Tryz.func64 rfl Zhe ?_;simp (disch:=omega) only [Tryz.f64,go_sem,seval];refine ((Rx x l lc hn ht (fun i=>K8 Za (MA hx _)) hs hl).behind (by rfl) _).mono ?_;rintro y H' ⟨y1,H1,hq,rfl,rfl⟩;rcases hq with ⟨h1,rfl,rfl⟩ | ⟨h1,h2,rfl,rfl⟩ | ⟨h1,h2,ys,⟨hC,hyl⟩,rfl,rfl⟩
 ·simp (disch:=omega) only [shV,shVs,Zk,go_sem,seval];exact ⟨.tup [.p (W2 zPlC),.p (.int .i64 0),.p (.int .i64 4)],[],Weak.mk (by simp (disch:=omega) only [zPlC,Zk,go_sem,seval]),_,_,_,Or.inl ⟨h1,rfl,rfl,rfl⟩,rfl,rfl⟩
 ·simp (disch:=omega) only [shV,shVs,Zk,go_sem,seval];exact ⟨.tup [.p (W2 zPlC),.p (.int .i64 0),.p (.int .i64 2)],[],Weak.mk (by simp (disch:=omega) only [zPlC,Zk,go_sem,seval]),_,_,_,Or.inr (Or.inl ⟨h1,h2,rfl,rfl,rfl⟩),rfl,rfl⟩
 ·have hok:=OF hx hn hC h2 hs
  have hcl: ∀r∈fstF x.orders.length ys,r.length<=1048576:=fun r hr=>by
   obtain ⟨p,_,rfl⟩:=Xz.1 hr
   grind [X8]
  obtain ⟨m,hm⟩: ∃m:Int,m=((Yh x x.orders.length:Nat):Int):=⟨_,rfl⟩;obtain ⟨B,hB⟩: ∃B,B=HJ x ys:=⟨_,rfl⟩;simp (disch:=omega) only [shV,shVs,shO,XX,YS,ZN,Zk,List.replicate,ZP,ZR,go_sem,seval];rw [<- hm];refine ACalls.mono ((EX x (.list false ((fstF x.orders.length ys).map Y2)) (.list false ((skF x x.orders.length).map eI)) m [] zSt rfl (by decide) Za (by decide)).back [Zg x,.cells [.p (.list true []),.p (.list true [])],.cells (List.replicate 6 .junk)] (by rfl)) ?_;rintro y H' ⟨y1,H1,⟨rfl,rfl⟩,rfl,rfl⟩;obtain ⟨v1,_⟩:=Ib (m:=m) (sD x.orders.length)
  have hrg:=VK (m:=m) hok 20 _ v1
  have hbb:B=YT x.orders.length m x (fstF x.orders.length ys) (skF x x.orders.length) 20 (W4 x.orders.length m zSt):=by rw [hB,HJ,hm]
  rw [<- hbb] at hrg;obtain ⟨R,hR⟩: ∃R,R=Yc x.orders.length m x (fstF x.orders.length ys) (skF x x.orders.length) 20 (W4 x.orders.length m zSt):=⟨_,rfl⟩;obtain ⟨i,w,b0,b1,b2,b3,b4,b5,hw⟩:=Yy v1.len;have hRr:=hR;rw [hw] at hbb v1 hR ⊢;simp (disch:=omega) only [shV,shVs,shO,XX,YS,ZN,Zk,List.replicate,ZP,ZR,go_sem,seval];have c3:=((Dn x (fstF x.orders.length ys) (skF x x.orders.length) false false m Za (by simp [fstF]) (by simp [skF]) hok hcl 20 ⟨i,w,[b0,b1,b2,b3,b4,b5]⟩ [] Za v1 (by have:=v1.ix;omega) (fun p hp=>by simp at hp)).mono (fun y H' hq=>(⟨hq,by obtain ⟨l',_,_,rfl⟩:=hq;rfl⟩:_/\H'.length=(XX x (.list false ((fstF x.orders.length ys).map Y2)) (.list false ((skF x x.orders.length).map eI)) m []).length))).front (by rfl) (by rfl) [Kv ⟨i,w,[b0,b1,b2,b3,b4,b5]⟩]
  refine ACalls.mono (c3.back [Zg x,.cells [.p (.list true []),.p (.list true [])],.cells (List.replicate 6 .junk)] (by rfl)) ?_;rintro y H' ⟨y1,H1,⟨H2,⟨l',hl',rfl,rfl⟩,rfl⟩,rfl,rfl⟩;rw [<- hbb];simp (disch:=omega) only [shV,shVs,shO,XX,YS,Kv,ZN,Zk,List.replicate,ZP,ZR,go_sem,seval];refine cD ?_ ?_<;>intro h3<;>simp (disch:=omega) only [Sh.out h3,go_sem,seval,↓reduceIte]
  ·exact ⟨.tup [.p (W2 zPlC),.p (.int .i64 0),.p (.int .i64 24)],[],Weak.mk (by simp (disch:=omega) only [zPlC,Zk,go_sem,seval]),_,_,_,Or.inr (Or.inr ⟨h1,h2,ys,hC,hyl,Or.inl ⟨Za,rfl,rfl,rfl⟩⟩),rfl,rfl⟩
  ·refine ACalls.mono ((Zbn (Kv ⟨i,w,[b0,b1,b2,b3,b4,b5]⟩) (by intro H n;simp (disch:=omega) only [Kv,ZN,Zk,go_sem,seval]) (by intro o xs;rfl) x (fstF x.orders.length ys) (skF x x.orders.length) false false m Za (by simp [fstF]) (by simp [skF]) hok hcl ⟨i,w,[b0,b1,b2,b3,b4,b5]⟩ l' v1 hl').back [Zg x,.cells [.p (.list true []),.p (.list true [])],.cells (List.replicate 6 .junk)] (by rfl)) ?_;rintro y H' ⟨y1,H1,⟨l2,A,U,hl2,hAU,rfl,rfl⟩,rfl,rfl⟩;rw [<- hR] at hAU;have hlen:=Cx (n:=x.orders.length) (m:=m) (x:=x) (fst:=fstF x.orders.length ys) (sk:=skF x x.orders.length) 20 (W4 x.orders.length m zSt)
   rw [<- hRr,<- hAU] at hlen
   have hA: ∀c∈A,∃S:Nat,c.set=S/\0<S/\S<16:=fun c hc=>by
    have hc':c∈(Yc x.orders.length m x (fstF x.orders.length ys) (skF x x.orders.length) 20 (W4 x.orders.length m zSt)).1:=by grind
    obtain ⟨j,hj,hm2⟩:=Cy _ _ _ hc'
    have e:nth (fstF x.orders.length ys) j=X8 ys j:=by
     grind [fstF,Zi]
    rw [e,X8,U2] at hm2;obtain ⟨q,hq,hql,_⟩:=hC.bst c hm2.1
    have hmem:c∈l:=by grind [ZV]
    obtain ⟨S,q1,q2,q3,_⟩:=UK (h2 c hmem) (hs c hmem);exact ⟨S,q1,q2,Qn q3 (Yi (n:=2) Za hn)⟩
   obtain ⟨L,hL⟩: ∃L:List Cm,L.map Subtype.val=A:=⟨A.pmap (fun c h=>⟨c,h⟩) hA,by simp [List.map_pmap]⟩;subst hL
   have hLl:(L.map Subtype.val).length=L.length:=Zb
   have hLe:(L.map Subtype.val).map Xg=L.map fun c=>Xg c.val:=Zb
   simp only at hlen;rw [hLl] at hlen;simp (disch:=omega) only [shV,shVs,shO,XX,YS,Kv,ZN,Zk,List.replicate,ZP,ZR,hLl,hLe,go_sem,seval];refine ((nY L Za (H:=_) (o:=7) rfl)).mono ?_;rintro y H' ⟨rfl,zs,hp,hsr,rfl⟩;have hzl:zs.length=L.length:=hp.length_eq;rw [<- hzl] at hlen ⊢;simp (disch:=omega) only [X2,Xj,go_sem,seval];obtain ⟨Z,hZ⟩: ∃Z,Z=zs.map Subtype.val:=⟨_,rfl⟩
   have hZl:Z.length=zs.length:=by rw [hZ];simp
   have hZe:Z.map Xg=zs.map fun c=>Xg c.val:=by rw [hZ];simp
   rw [<- hZl] at hlen ⊢
   have htl: ∀k,k<=Z.length->(Z.take k).length=k:=fun k hk=>by simp;omega
   refine Zj [4,10,13,45,46] (fun k:Nat=> [(47,.p (.int .i64 k))]) (fun k=> [Zg x,.cells [.p (.list true []),.p (.list true [])],.cells (List.replicate 6 .junk),.map (l2.map (I5 Aj)),shO 3 (YS x (.list false ((fstF x.orders.length ys).map Y2)) (.list false ((skF x x.orders.length).map eI)) m),Kv ⟨i,w,[b0,b1,b2,b3,b4,b5]⟩,.cells (List.replicate 8 .junk),.elems 7 (Z.map Xg),.cells [.sl 9 0 k k,.p (.list false (U.map eI))],.elems 4 ((Z.take k).map fun c=>YJ c.route)]) (fun k=>k<=Z.length) (fun k=>Z.length-k) 0 Za ((Weak.nilC (o:=8) (j:=0) 4 (by rfl) (by rfl) Zb).trans (Weak.mk ?_)) ?_
   ·simp (disch:=omega) only [hZe,UF,X2,Xj,Zz,ZQ,Xl,Nat.reduceAdd,shV,shVs,shO,YS,Kv,ZN,Zk,List.replicate,ZP,ZR,Zg,go_sem,seval]
   ·intro k hk;simp (disch:=omega) only [shV,shVs,shO,YS,Kv,ZN,Zk,List.replicate,Zg,go_sem,seval];refine cD ?_ ?_<;>intro h4<;>simp (disch:=omega) only [Sh.out h4,go_sem,seval,↓reduceIte]
    ·have hk2:k<Z.length:=Za
     simp (disch:=first | omega | (simp only [Zz,ZQ,Zm,Zu,Zy,ZK]<;>omega)) only [Yx hk2,hk2,go_sem,seval,↓reduceIte]
     have hsc:Z.take (k+1)=Z.take k++ [nth Z k]:=by rw [ZE hk2,Zi hk2]
     rw [if_pos ⟨htl k hk,Za,Za⟩];simp (disch:=omega) only [htl k hk,Zu,Zm,Zz,ZQ,Xl,eq_self,WG,go_sem,seval];exact ⟨k+1,Za,Za,Weak.mk (by simp (disch:=omega) only [hsc,Xi,ZN,Zk,go_sem,seval])⟩
    ·have hkl:k=Z.length:=Za
     subst hkl;refine Zp (Weak.fz (o:=9) (by rfl)) ?_;refine Zf [] _ _ _ _ ?_;simp (disch:=omega) only [ZN,Zk,X2,Xj,UB,go_sem,seval];exact ⟨.tup [.p (W2 ⟨false,Z.map (·.route),false,U⟩),.p (.int .i64 B),.p (.int .i64 0)],[],Weak.mk (by simp (disch:=omega) only [List.map_map,Function.comp_def,go_sem,seval]),_,_,_,Or.inr (Or.inr ⟨h1,h2,ys,hC,hyl,Or.inr ⟨Za,hB,rfl,Z,by grind,by rw [hZ];exact List.pairwise_map.2 hsr,by grind⟩⟩),rfl,rfl⟩
def Zlz (x:Inst) (l:List Col) (a e:Int):Prop:=(8192<l.length/\a=0/\e=4)\/(l.length<=8192/\(∃c∈l,rightB x c=false)/\a=0/\e=2) \/
 (l.length<=8192/\(∀c∈l,rightB x c=true)/\ ∃ys,Cheap l ys/\a=(if HJ x ys<0 then 0 else HJ x ys)/\e=(if HJ x ys<0 then 24 else 0))
def ky (l:List Col) (a:Int):Int×Int×Int:=if a<0 then (1,0,0) else (0,(nth l a.toNat).typ,(nth l a.toNat).set)
def dC (a b:Int×Int×Int):Prop:=a.1<b.1\/(a.1=b.1/\(a.2.1<b.2.1\/(a.2.1=b.2.1/\a.2.2<b.2.2)))
def KE (n:Nat) (l:List Col) (a b:List Int):Prop:= ∀t,t<n->ky l (nth a t)=ky l (nth b t)/\nth a t<=nth b t
def KL (n:Nat) (l:List Col) (a b:List Int):Prop:=(∃i,i<n/\(∀t,t<i->ky l (nth a t)=ky l (nth b t))/\dC (ky l (nth a i)) (ky l (nth b i)))\/KE n l a b
def mI (x:Inst):Int:=((Yh x x.orders.length:Nat):Int)
theorem Ep {x:Inst} (hn:x.orders.length<=4) {k:Nat} (hk:k<x.orders.length):sHas (mI x) k= !(nth x.orders k).off:=by
 grind [mI,Wg,Uk]
theorem A6 {n:Nat} {s:St} (h:StV n s) {k:Nat} (hk:k<=62):sHas s.cov k=s.cov.toNat.testBit k:=by
 obtain ⟨C,hC,_⟩:=h.cov
 grind [Wg]
structure Ctx (x:Inst) (l ys:List Col):Prop where
 n4:x.orders.length<=4
 t6:x.types.length<=6
 ch:Cheap l ys
 rt: ∀c∈l,rightB x c=true
 st: ∀c∈l,c.set<9223372036854775808
 ok:ChOk x.orders.length x (fstF x.orders.length ys) (skF x x.orders.length)
 sk: ∀k,k<x.orders.length->(nth x.orders k).off=false->(0<=(nth x.orders k).penalty↔0<=skpF x k)/\(0<=skpF x k->skpF x k=skR x k)
theorem Za6 : ∀S:Fin 16,0<S.val-> ∀k:Fin 4,(Ad S.val=(k.val:Int)↔(S.val.testBit k.val=true/\ ∀i:Fin 4,i.val<k.val->S.val.testBit i.val=false)):=by decide+kernel
theorem Ob {S n k:Nat} (hS:0<S) (h:S<2^n) (hn:n<=4) (hk:k<n):Ad S=(k:Int)↔(S.testBit k=true/\ ∀i,i<n->S.testBit i=true->k<=i):=by
 have h16:S<16:=Qn h (Yi (n:=2) Za hn);rw [show Ad S=(k:Int)↔_ from Za6 ⟨S,h16⟩ hS ⟨k,Za⟩];refine and_congr_right fun _=>⟨fun g i hi hb=> ?_,fun g i hi=> ?_⟩
 ·rcases Ww i k with h1 | h1
  ·have:=g ⟨i,Za⟩ h1
   grind
  ·exact h1
 grind
theorem Ctx.set {x:Inst} {l ys:List Col} (h:Ctx x l ys) {c:Col} (hc:c∈l):c.set=(c.set.toNat:Int)/\0<c.set.toNat/\c.set.toNat<2^x.orders.length/\ ∀i,c.set.toNat.testBit i=true->i<x.orders.length/\(nth x.orders i).off=false:=by
 obtain ⟨S,h1,h2,h3,h4⟩:=UK (h.rt c hc) (h.st c hc)
 grind
theorem Ctx.typ {x:Inst} {l ys:List Col} (h:Ctx x l ys) {c:Col} (hc:c∈l):(0<=c.typ/\c.typ<x.types.length)/\0<=c.price:=by
 have:=h.rt c hc;simp only [rightB,ZG,Zl] at this;omega
structure Nd (x:Inst) (l:List Col) (a:List Int) (s:St) (k:Nat):Prop where
 len:a.length=x.orders.length
 ix:s.ix=k
 v:StV x.orders.length s
 cov: ∀i,i<x.orders.length->s.cov.toNat.testBit i=decide (0<=nth a i)
 rng: ∀i,i<x.orders.length-> -1<=nth a i/\nth a i<l.length
 used: ∀T:Nat,T<6->nth s.used T=usdI l a T x.orders.length
 grp: ∀i,i<x.orders.length->0<=nth a i-> ∀t,t<x.orders.length->(nth l (nth a i).toNat).set.toNat.testBit t=true->nth a t=nth a i
 old: ∀i,i<x.orders.length->k<=i->0<=nth a i-> ∃t,t<k/\(nth l (nth a i).toNat).set.toNat.testBit t=true
 own: ∀i,i<x.orders.length->0<=nth a i->(nth l (nth a i).toNat).set.toNat.testBit i=true
def Fh (s:St):St:= { s with ix:=s.ix+1 }
def K0 (s:St) (c:Col):St:=⟨s.ix+1,((s.cov.toNat|||c.set.toNat:Nat):Int),s.used.set c.typ.toNat (nth s.used c.typ.toNat+1)⟩
theorem Nd.skip {x:Inst} {l:List Col} {a:List Int} {s:St} {k:Nat} (h:Nd x l a s k) (hk:k<x.orders.length) (ho:0<=nth a k-> ∃t,t<k/\(nth l (nth a k).toNat).set.toNat.testBit t=true):Nd x l a (Fh s) (k+1) :=
 ⟨h.len,by simp only [Fh,h.ix];omega,⟨h.v.len,by have:=h.ix;simp only [Fh];omega,h.v.cov,h.v.used⟩,h.cov,h.rng,h.used,h.grp,fun i hi hki h0=>by
  obtain ⟨t,h1,h2⟩:=h.old i hi Za h0
  grind,h.own⟩
theorem Nd.skip' {x:Inst} {l:List Col} {a:List Int} {s:St} {k:Nat} (h:Nd x l a s k) (hk:k<x.orders.length):Nd x l a (Fh s) (k+1):=h.skip hk fun h0=>h.old k hk (ZL _) h0
theorem OE {x:Inst} {l ys:List Col} (hc:Ctx x l ys) {a:List Int} {s:St} {k j:Nat} (h:Nd x l a s k) (hk:k<x.orders.length) (hj:j<l.length):Da x l a j k=true↔(Yo x s (nth l j)=true/\Ad (nth l j).set.toNat=(k:Int)):=by
 obtain ⟨hS,hS0,hS1,hS2⟩:=hc.set (ZV hj);obtain ⟨⟨ht0,ht1⟩,_⟩:=hc.typ (ZV hj);have ht6:=hc.t6;have hu:=h.used (nth l j).typ.toNat Za;rw [show (((nth l j).typ.toNat:Nat):Int)=(nth l j).typ by omega] at hu;rw [Ob hS0 hS1 hc.n4 hk];simp only [Da,Yo,Dg,ZG,Zl,K2,h.len,hu]
 constructor
 ·rintro ⟨h1,h2,h3⟩;refine ⟨⟨Bo fun i=> ?_,h2⟩,h1,fun i hi hb=>(h3 i hi hb).2⟩;rw [Nat.testBit_and,Nat.zero_testBit]
  cases hb:(nth l j).set.toNat.testBit i with
  | false=>simp
  | true =>
   have hi:=(hS2 i hb).1;rw [h.cov i hi,Jm,X3]
   grind
 ·rintro ⟨⟨h1,h2⟩,h3,h4⟩;refine ⟨h3,h2,fun i hi hb=>⟨?_,h4 i hi hb⟩⟩;have:=Qm (fun z=>z.testBit i) h1;simp only [Nat.testBit_and,Nat.zero_testBit,hb,Jm] at this;rw [h.cov i hi,X3] at this;omega
theorem GS {x:Inst} {l:List Col} {a:List Int} {k:Nat} {S:Nat} {j:Nat} (hl:a.length=x.orders.length) (hk:k<x.orders.length) (hb:S.testBit k=true) (hneg: ∀i,i<x.orders.length->S.testBit i=true->nth a i<0/\k<=i) (hfr: ∀i,i<x.orders.length->S.testBit i=false->nth a i≠(j:Int)) (T:Int) :
  ∀m,m<=x.orders.length->usdI l (UN S a j) T m=usdI l a T m+(if k<m/\(nth l j).typ=T then 1 else 0)
 | 0,_=>by simp [usdI]
 | i+1,hm=>by
  have hi:i<a.length:=Za
  rw [usdI,usdI,GS hl hk hb hneg hfr T i Za];have ZF: ∀t,t<i->nth (UN S a j) t=if S.testBit t=true then (j:Int) else nth a t:=fun t ht=>XA Za
  cases hs:S.testBit i with
  | false =>
   have e:BZ l (UN S a j) T i=BZ l a T i:=by
    rw [BZ,BZ,XA hi,hs,if_neg Zb]
    by_cases h0:0<=nth a i
    ·have ef:RO (UN S a j) i=RO a i:=by
      rw [Wu,Ef,Ef,XA hi,hs,if_neg Zb]
      grind
     rw [ef]
    ·simp [h0]
   grind
  | true =>
   obtain ⟨hn,hki⟩:=hneg i Za hs
   have e2:BZ l a T i=false:=by
    simp_all [BZ,UG]
   have e1:BZ l (UN S a j) T i=(decide ((nth l j).typ=T)&&decide (k=i)):=by
    rw [BZ,XA hi,hs,if_pos rfl,Wv Za,Zge,XK]
    congr 1
    rw [Wu,Ef,XA hi,hs,if_pos rfl,Zl]
    grind
   grind
theorem Nd.child {x:Inst} {l ys:List Col} (hc:Ctx x l ys) {a:List Int} {s:St} {k j:Nat} (h:Nd x l a s k) (hk:k<x.orders.length) (hj:j<l.length) (hcan:Da x l a j k=true):Nd x l (UN (nth l j).set.toNat a j) (K0 s (nth l j)) (k+1):=by
 obtain ⟨hS,hS0,hS1,hS2⟩:=hc.set (ZV hj);obtain ⟨⟨ht0,ht1⟩,_⟩:=hc.typ (ZV hj);have ht6:=hc.t6;have hl6:s.used.length=6:=h.v.len;have hu:=h.used (nth l j).typ.toNat Za;rw [show (((nth l j).typ.toNat:Nat):Int)=(nth l j).typ by omega] at hu;have hcan':=hcan;simp only [Da,ZG,Zl,K2,h.len] at hcan';obtain ⟨hb,hcnt,hneg⟩:=hcan';rw [<- hu] at hcnt;have hcount:=hc.ok.typ.2 (nth l j).typ.toNat Za;have hak:=(hneg k hk hb).1
 have hfr: ∀i,i<x.orders.length->(nth l j).set.toNat.testBit i=false->nth a i≠(j:Int):=fun i hi _ e=>by
  have:=h.grp i hi Za k hk (by grind [XK]);omega
 obtain ⟨C,hC,hC2⟩:=h.v.cov;have hS10:(nth l j).set.toNat<1024:=Qn hS1 (Yi (n:=2) Za (show x.orders.length<=10 by have:=hc.n4;omega));refine ⟨by rw [QT];exact h.len,by simp only [K0,h.ix];omega,⟨by simp only [StR,K0,KS];exact hl6,by have:=h.ix;simp only [K0];omega,⟨_,rfl,?_⟩,fun t ht=> ?_⟩,fun i hi=> ?_,fun i hi=> ?_,fun T hT=> ?_,fun i hi h0 t ht hbt=> ?_,fun i hi hki h0=> ?_,fun i hi h0=> ?_⟩
 ·rw [hC,XK];exact Qo (n:=10) hC2 hS10
 ·simp only [K0];rw [Bw Za]
  split
  ·omega
  ·exact h.v.used t ht
 ·simp only [K0,XK];rw [KU,h.cov i hi,XA (by rw [h.len];exact hi)]
  grind
 ·rw [XA (by rw [h.len];exact hi)]
  split
  ·omega
  ·exact h.rng i hi
 ·simp only [K0];rw [Bw Za,GS h.len hk hb hneg hfr T _ (ZL _),h.used T hT]
  grind
 ·rw [XA (i:=i) (by rw [h.len];exact hi)] at h0 hbt ⊢;rw [XA (i:=t) (by rw [h.len];exact ht)]
  cases hbi:(nth l j).set.toNat.testBit i with
  | true =>
   rw [hbi,if_pos rfl,XK] at hbt
   grind
  | false =>
   rw [hbi,if_neg Zb] at h0 hbt;have e:=h.grp i hi h0 t ht hbt
   grind
 ·rw [XA (by rw [h.len];exact hi)] at h0 ⊢
  cases hbi:(nth l j).set.toNat.testBit i with
  | true =>
   rw [if_pos rfl,XK]
   grind
  | false =>
   rw [hbi,if_neg Zb] at h0;rw [if_neg Zb];obtain ⟨t,h1,h2⟩:=h.old i hi Za h0
   grind
 ·rw [XA (by rw [h.len];exact hi)] at h0 ⊢
  cases hbi:(nth l j).set.toNat.testBit i with
  | true=>rw [if_pos rfl,XK];exact hbi
  | false =>
   rw [hbi,if_neg Zb] at h0;rw [if_neg Zb];exact h.own i hi h0
def Lx (x:Inst) (ys:List Col) (D:Nat) (s:St):Int:=YT x.orders.length (mI x) x (fstF x.orders.length ys) (skF x x.orders.length) D (W4 x.orders.length (mI x) s)
theorem Tu {x:Inst} {ys:List Col} {D:Nat} {s:St} (h:s.ix=x.orders.length):Lx x ys D s=0:=by
 unfold Lx
 cases D with
 | zero=>rfl
 | succ D =>
  simp_all [YT,W4,BU]
theorem CF {n:Nat} {m:Int} {s:St} {k:Nat} (hk:s.ix=k) (hkn:k<n) (hc:sHas m k=false\/sHas s.cov k=true):W4 n m s=W4 n m (Fh s):=by
 simp_all [W4,Fh,DD]
theorem CG {n:Nat} {m:Int} {s:St} {k:Nat} (hk:s.ix=k) (h1:sHas m k=true) (h2:sHas s.cov k=false):W4 n m s=s:=by
 obtain ⟨i,v,u⟩:=s
 simp_all [W4,CH]
theorem E7 {n:Nat} {m:Int} {s:St} {c:Col} {k:Nat} (hk:s.ix=k) (hkn:k<n) (hn:n<=4) (hb:c.set.toNat.testBit k=true):Vi n m s c=W4 n m (K0 s c):=by
 have e:=CF (n:=n) (m:=m) (s:=⟨s.ix,((s.cov.toNat|||c.set.toNat:Nat):Int),s.used.set c.typ.toNat (nth s.used c.typ.toNat+1)⟩) (k:=k) hk hkn (.inr (by
  simp only
  rw [Wg _ _ Za,KU,hb,Bool.or_true]))
 exact e
theorem Kn {x:Inst} {l ys:List Col} (hc:Ctx x l ys) {k:Nat} (hk:k<x.orders.length) {c:Col} (hm:c∈X8 ys k):c∈ys/\c∈l/\Ad c.set.toNat=(k:Int)/\c.set.toNat.testBit k=true:=by
 rw [X8,U2,Zl] at hm;have hl:=aA hc.ch hm.1;obtain ⟨_,h0,h1,_⟩:=hc.set hl;exact ⟨hm.1,hl,hm.2,((Ob h0 h1 hc.n4 hk).1 hm.2).1⟩
theorem MP {x:Inst} {l ys:List Col} (hc:Ctx x l ys) {D:Nat} (hD:10<D) {s:St} {k:Nat} (hv:StV x.orders.length s) (hk:s.ix=k) (hkn:k<x.orders.length) (ho:(nth x.orders k).off=false) (hcv:s.cov.toNat.testBit k=false) :
  Lx x ys D s=if 0<=skpF x k then YI ((X8 ys k).foldl (fun o c=>if Yo x s c=true then YI o c.price (Lx x ys D (K0 s c)) else o) (-1)) (skpF x k) (Lx x ys D (Fh s)) else (X8 ys k).foldl (fun o c=>if Yo x s c=true then YI o c.price (Lx x ys D (K0 s c)) else o) (-1):=by
 have hn:=hc.n4
 have e1:Lx x ys D s=YT x.orders.length (mI x) x (fstF x.orders.length ys) (skF x x.orders.length) (D+1) s:=by
  rw [Lx,CG hk (by grind [Ep]) (by grind [A6])];exact QL hc.ok _ _ s hv Za Za
 rw [e1,YT,if_neg Za]
 have e2:nth (fstF x.orders.length ys) s.ix.toNat=X8 ys k:=by simp_all [LK]
 have e3:nth (skF x x.orders.length) s.ix.toNat=skpF x k:=by grind [skF,Zi]
 have e4:(X8 ys k).foldl (fun o c=>if Yo x s c=true then YI o c.price (YT x.orders.length (mI x) x (fstF x.orders.length ys) (skF x x.orders.length) D (Vi x.orders.length (mI x) s c)) else o) (-1)=(X8 ys k).foldl (fun o c=>if Yo x s c=true then YI o c.price (Lx x ys D (K0 s c)) else o) (-1) :=
  Jb fun c hm o=>by rw [E7 hk hkn hn (Kn hc hkn hm).2.2.2];rfl
 simp only [e2,e3,e4]
 rfl
def Kr (x:Inst) (ys:List Col) (D:Nat) (s:St) (c:Col):Bool:=Yo x s c&&(decide (0<=Lx x ys D (K0 s c))&&decide (c.price+Lx x ys D (K0 s c)=Lx x ys D s))
noncomputable def AI (l:List Col) (d:Col):Nat:=open Classical in if h:Bst l l.length d then h.choose else 0
theorem Pv {l:List Col} {d:Col} (h:Bst l l.length d):AI l d<l.length/\nth l (AI l d)=d/\ ∀i,i<l.length->kd (nth l i)=kd d->d.price<(nth l i).price\/(d.price=(nth l i).price/\AI l d<=i):=by
 have e:AI l d=h.choose:=by rw [AI,dif_pos h]
 grind
noncomputable def gr (x:Inst) (l ys:List Col) (D:Nat):Nat->Nat->St->List Int->List Int
 | 0,_,_,a=>a
 | d+1,k,s,a=>if (nth x.orders k).off=true\/0<=nth a k then gr x l ys D d (k+1) (Fh s) a else
  match (X8 ys k).find? (Kr x ys D s) with
  | some c=>gr x l ys D d (k+1) (K0 s c) (UN c.set.toNat a (AI l c))
  | none=>gr x l ys D d (k+1) (Fh s) a
theorem Jx {x:Inst} {l ys:List Col} (hc:Ctx x l ys) {a:List Int} {s:St} {k:Nat} (h:Nd x l a s k) (hk:k<x.orders.length) {c:Col} (hm:c∈X8 ys k) (hy:Yo x s c=true):AI l c<l.length/\nth l (AI l c)=c/\Da x l a (AI l c) k=true:=by
 obtain ⟨h1,h2,h3,h4⟩:=Kn hc hk hm;obtain ⟨p1,p2,_⟩:=Pv (hc.ch.bst c h1)
 grind [OE]
theorem A4 {x:Inst} {l:List Col} {a:List Int} {k j:Nat} (hl:a.length=x.orders.length) (hcan:Da x l a j k=true):(nth l j).set.toNat.testBit k=true/\ ∀t,t<x.orders.length->(t<k\/0<=nth a t)->nth (UN (nth l j).set.toNat a j) t=nth a t:=by
 simp only [Da,ZG,K2,hl] at hcan
 grind [XA]
theorem Ci {x:Inst} {l ys:List Col} (hc:Ctx x l ys) {D:Nat} : ∀(d k:Nat) (s:St) (a:List Int),k+d=x.orders.length->Nd x l a s k->(gr x l ys D d k s a).length=x.orders.length/\ ∀t,t<x.orders.length->(t<k\/0<=nth a t)->nth (gr x l ys D d k s a) t=nth a t
 | 0,k,s,a,_,h=>⟨h.len,fun _ _ _=>rfl⟩
 | d+1,k,s,a,hd,h=>by
  have hk:k<x.orders.length:=Za
  rw [gr];have skip:=Ci hc (D:=D) d (k+1) (Fh s) a Za (h.skip' hk)
  split
  ·grind
  ·split
   ·rename_i c hf;have hsel:=U1 hf;simp only [Kr,ZG] at hsel;obtain ⟨p1,p2,p3⟩:=Jx hc h hk (YY hf) hsel.1;have hch:=h.child hc hk p1 p3;rw [p2] at hch;have ho:=(A4 h.len p3).2;rw [p2] at ho;obtain ⟨g1,g2⟩:=Ci hc (D:=D) d (k+1) (K0 s c) _ Za hch;refine ⟨g1,fun t ht hh=> ?_⟩
    rw [g2 t ht (by
     rcases hh with h1 | h1
     ·left;omega
     ·right;rw [ho t ht (.inr h1)];exact h1),ho t ht hh]
   grind
theorem Bs {x:Inst} {l:List Col} : ∀(d:Nat) (a:List Int) (p:Int),d<=x.orders.length->a.length=x.orders.length-> ∀q∈B7 x l d a p,q.1.length=x.orders.length/\ ∀t,t<x.orders.length->(t<x.orders.length-d\/0<=nth a t)->nth q.1 t=nth a t
 | 0,a,p,_,h,q,hq=>by
  simp only [B7,Xq,Jj,or_false] at hq
  grind
 | d+1,a,p,hd,h,q,hq=>by
  rw [B7] at hq
  split at hq
  ·obtain ⟨g1,g2⟩:=Bs d a p Za h q hq;exact ⟨g1,fun t ht hh=>g2 t ht (hh.imp Za id)⟩
  ·rw [Xy,Yk] at hq;rcases hq with ⟨j,hj,hq⟩ | hq
   ·split at hq
    ·rename_i hcan;have ho:=(A4 h hcan).2;obtain ⟨g1,g2⟩:=Bs d _ _ Za (by rw [QT];exact h) q hq;refine ⟨g1,fun t ht hh=> ?_⟩
     rw [g2 t ht (by
      rcases hh with h1 | h1
      ·left;omega
      ·right;rw [ho t ht (.inr h1)];exact h1),ho t ht hh]
    ·simp at hq
   ·split at hq
    ·obtain ⟨g1,g2⟩:=Bs d a _ Za h q hq;exact ⟨g1,fun t ht hh=>g2 t ht (hh.imp Za id)⟩
    ·simp at hq
theorem KE.refl {n:Nat} {l:List Col} {a:List Int} :KE n l a a:=fun _ _=>⟨rfl,Int.le_refl _⟩
theorem Za2 {l:List Col} {a:Int} (h:a<0):ky l a=(1,0,0):=if_pos h
theorem HF {l:List Col} {a:Int} (h:0<=a):ky l a=(0,(nth l a.toNat).typ,(nth l a.toNat).set):=if_neg Za
theorem Zhw {l:List Col} {i j:Nat} :ky l (i:Int)=ky l (j:Int)↔kd (nth l i)=kd (nth l j):=by
 grind [HF,kd]
theorem bW {x:Inst} {s:St} {r:Col->Int} {ls:List Col} (hp: ∀c∈ls,0<=c.price) (hr: ∀c∈ls,Yo x s c=true-> -1<=r c) {c:Col} (hc:c∈ls) (hy:Yo x s c=true) (h0:0<=r c) :
  Tl (ls.foldl (fun o c=>if Yo x s c=true then YI o c.price (r c) else o) (-1)) (c.price+r c):=by
 have e:=Jb (f:=fun o c=>if Yo x s c=true then YI o c.price (r c) else o) (g:=fun o c=>if Yo x s c=true then YI o c.price (max (-1) (r c)) else o) (l:=ls) (b:=(-1:Int)) fun c hc o=>by
  grind
 rw [e];have:=(OU (x:=x) (s:=s) (r:=fun c=>max (-1) (r c)) (fun c=>Za) (l:=ls) (a:= -1) hp).2 c hc hy Za
 grind
theorem MQ {x:Inst} {l ys:List Col} (hc:Ctx x l ys) {D:Nat} {s:St} (hv:StV x.orders.length s): -1<=Lx x ys D s:=(VK (m:=mI x) hc.ok D _ (Ib hv).1).1
theorem OC {o p r:Int} (hr: -1<=r) (hp:0<=p):Tl (YI o p r) o/\(0<=r->Tl (YI o p r) (p+r)):=by
 grind [Tl,YI]
theorem sF {x:Inst} {l ys:List Col} (hc:Ctx x l ys) {D:Nat} (hD:10<D) {a:List Int} {s:St} {k:Nat} (h:Nd x l a s k) (hk:k<x.orders.length) (ho:(nth x.orders k).off=false) (hak:nth a k<0) {c:Col} (hm:c∈X8 ys k) (hy:Yo x s c=true) (h0:0<=Lx x ys D (K0 s c)) :
  Tl (Lx x ys D s) (c.price+Lx x ys D (K0 s c)):=by
 have hcv:s.cov.toNat.testBit k=false:=by rw [h.cov k hk];grind
 rw [MP hc hD h.v h.ix hk ho hcv]
 have nd: ∀e∈X8 ys k,Yo x s e=true->StV x.orders.length (K0 s e):=fun e he hye=>by
  obtain ⟨p1,p2,p3⟩:=Jx hc h hk he hye;have:=(h.child hc hk p1 p3).v
  grind
 have low:=bW (x:=x) (s:=s) (r:=fun c=>Lx x ys D (K0 s c)) (ls:=X8 ys k) (fun e he=>(hc.typ (Kn hc hk he).2.1).2) (fun e he hye=>MQ hc (nd e he hye)) hm hy h0
 split
 ·rename_i hs;have b:=(OC (o:=(X8 ys k).foldl (fun o c=>if Yo x s c=true then YI o c.price (Lx x ys D (K0 s c)) else o) (-1)) (MQ hc (D:=D) (h.skip' hk).v) hs).1
  grind [Tl]
 ·exact low
theorem jE {x:Inst} {l ys:List Col} (hc:Ctx x l ys) {D:Nat} (hD:10<D) {a:List Int} {s:St} {k:Nat} (h:Nd x l a s k) (hk:k<x.orders.length) (ho:(nth x.orders k).off=false) (hak:nth a k<0) (hs:0<=skpF x k) (h0:0<=Lx x ys D (Fh s)) :
  Tl (Lx x ys D s) (skpF x k+Lx x ys D (Fh s)):=by
 have hcv:s.cov.toNat.testBit k=false:=by rw [h.cov k hk];grind
 rw [MP hc hD h.v h.ix hk ho hcv,if_pos hs]
 grind [OC]
theorem Oi {x:Inst} {l ys:List Col} (hc:Ctx x l ys) {D:Nat} {a:List Int} {s:St} {k:Nat} (h:Nd x l a s k) (hk:k<x.orders.length) (ho:(nth x.orders k).off=true\/0<=nth a k):Lx x ys D s=Lx x ys D (Fh s):=by
 unfold Lx;rw [CF h.ix hk (ho.imp (fun e=>by rw [Ep hc.n4 hk,e];rfl) fun e=>by rw [A6 h.v (by have:=hc.n4;omega),h.cov k hk];grind)]
theorem Bd {x:Inst} {l ys:List Col} (hc:Ctx x l ys) {D:Nat} (hD:10<D): ∀(d k:Nat) (s:St) (a b:List Int) (p:Int),k+d=x.orders.length->Nd x l a s k->Nd x l b s k->KE x.orders.length l a b-> ∀q∈B7 x l d b p,
  0<=Lx x ys D s/\p+Lx x ys D s<=q.2/\(q.2=p+Lx x ys D s->KL x.orders.length l (gr x l ys D d k s a) q.1)
 | 0,k,s,a,b,p,hd,ha,hb,he,q,hq=>by
  simp only [B7,Xq,Jj,or_false] at hq;subst hq;rw [Tu (by rw [ha.ix];omega)];exact ⟨Za,Zb,fun _=> .inr he⟩
 | d+1,k,s,a,b,p,hd,ha,hb,he,q,hq=>by
  have hk:k<x.orders.length:=Za
  have hkd:x.orders.length-(d+1)=k:=Za
  have hneg: ∀t,t<x.orders.length->(0<=nth a t↔0<=nth b t):=fun t ht=>by
   have h1:=ha.cov t ht;rw [hb.cov t ht,decide_eq_decide] at h1;exact h1.symm
  rw [B7,hkd] at hq;rw [gr]
  split at hq
  ·rename_i ho;have ho':(nth x.orders k).off=true\/0<=nth a k:=ho.imp id (hneg k hk).2;rw [if_pos ho',Oi hc ha hk ho'];exact Bd hc hD d (k+1) (Fh s) a b p Za (ha.skip' hk) (hb.skip' hk) he q hq
  ·rename_i ho;have ho': ¬((nth x.orders k).off=true\/0<=nth a k):=fun g=>ho (g.imp id (hneg k hk).1);rw [if_neg ho']
   have hoff:(nth x.orders k).off=false:=by
    grind
   have hbk:nth b k<0:=Int.not_le.1 fun g=>ho (.inr g);have hak:nth a k<0:=Int.not_le.1 fun g=>ho' (.inr g)
   -- what was picked stands at k
   have hpick: ∀c,(X8 ys k).find? (Kr x ys D s)=some c->Yo x s c=true/\c∈ys/\(∀t,t<k->nth (gr x l ys D d (k+1) (K0 s c) (UN c.set.toNat a (AI l c))) t=nth a t)/\nth (gr x l ys D d (k+1) (K0 s c) (UN c.set.toNat a (AI l c))) k=AI l c/\nth l (AI l c)=c:=fun c hf=>by
    have hsel:=U1 hf;simp only [Kr,ZG] at hsel;obtain ⟨p1,p2,p3⟩:=Jx hc ha hk (YY hf) hsel.1;have hch:=ha.child hc hk p1 p3;obtain ⟨c1,c2⟩:=A4 ha.len p3;rw [p2] at hch c1 c2;have g2:=(Ci hc (D:=D) d (k+1) (K0 s c) _ Za hch).2;refine ⟨hsel.1,(Kn hc hk (YY hf)).1,fun t ht=> ?_,?_,p2⟩
    ·grind
    ·rw [g2 k hk (.inl Za),XA (by rw [ha.len];exact hk),if_pos c1]
   rw [Xy,Yk] at hq;rcases hq with ⟨j,hj,hq⟩ | hq
   ·have hj:=Xa.1 hj
    split at hq
    ·rename_i hcan;obtain ⟨hy,htz⟩:=(OE hc hb hk hj).1 hcan;have hjl:=ZV hj;obtain ⟨d',hd',hkd',hpr⟩:=aB hc.ch hjl
     have hst:d'.set=(nth l j).set/\d'.typ=(nth l j).typ:=by
      grind [kd]
     have hm:d'∈X8 ys k:=by
      simp_all [X8]
     have hy':Yo x s d'=true:=by grind [Yo]
     have hnx:K0 s d'=K0 s (nth l j):=by grind [K0]
     have hcb:=hb.child hc hk hj hcan;obtain ⟨cb1,cb2⟩:=A4 hb.len hcan;have hqo:=(Bs d _ _ Za (by rw [QT];exact hb.len) q hq).2
     have hqt: ∀t,t<k->nth q.1 t=nth b t:=fun t ht=>by rw [hqo t Za (.inl Za),cb2 t Za (.inl ht)]
     have hqk:nth q.1 k=j:=by rw [hqo k hk (.inl Za),XA (by rw [hb.len];exact hk),if_pos cb1]
     obtain ⟨i1,i2,_⟩:=Bd hc hD d (k+1) _ _ _ _ Za hcb hcb KE.refl q hq;rw [<- hnx] at i1 i2;have hle:=sF hc hD ha hk hoff hak hm hy' i1;have hp0:=(hc.typ (Kn hc hk hm).2.1).2
     have hL0:0<=Lx x ys D s/\Lx x ys D s<=d'.price+Lx x ys D (K0 s d'):=by
      rcases hle with h | h
      ·-- the least price would be lacking: not so, azs the column leads on
       omega
      ·exact h
     refine ⟨hL0.1,Za,fun hqc=> ?_⟩
     have hpe:d'.price=(nth l j).price:=Za
     have hLe:d'.price+Lx x ys D (K0 s d')=Lx x ys D s:=Za
     have hsel:Kr x ys D s d'=true:=by simp_all [Kr]
     have hpos:=Pv (hc.ch.bst d' hd')
     have hpj:AI l d'<=j:=by
      rcases hpos.2.2 j hj hkd'.symm with h | h
      ·omega
      ·exact h.2
     cases hf:(X8 ys k).find? (Kr x ys D s) with
     | none=>rw [KN] at hf;simp_all
     | some c =>
      obtain ⟨k1,k2,k3,k4,k5⟩:=hpick c hf;simp only
      by_cases hcd:c=d'
      ·subst hcd;obtain ⟨p1,p2,p3⟩:=Jx hc ha hk hm hy';have hca:=ha.child hc hk p1 p3;rw [p2] at hca;rw [<- hnx] at hcb;refine (Bd hc hD d (k+1) _ _ _ _ Za hca hcb (fun t ht=> ?_) q hq).2.2 Za;rw [hst.1,XA (by rw [ha.len];exact ht),XA (by rw [hb.len];exact ht)]
       cases hbt:(nth l j).set.toNat.testBit t with
       | true =>
        rw [if_pos rfl,if_pos rfl,Zhw,p2]
        grind
       | false =>
        rw [if_neg Zb,if_neg Zb];exact he t ht
      ·-- an earlier kind
       have hlt:cfK c d'<0:=by
        have hpw:(X8 ys k).Pairwise fun a b=>cfK a b<0:=hc.ch.asc.filter _;obtain ⟨_,u,w,hab,hno⟩:=List.find?_eq_some_iff_append.1 hf;rw [hab] at hpw hm;rw [Dw,List.pairwise_cons] at hpw;rcases Xy.1 hm with h | h
        ·have:=hno d' h
         grind
        ·rcases Xq.1 h with h | h
         ·grind
         ·exact hpw.2.1.1 d' h
       rw [DZ] at hlt;refine .inl ⟨k,hk,fun t ht=> ?_,?_⟩
       ·rw [k3 t ht,hqt t ht];exact (he t Za).1
       ·rw [k4,hqk,HF Za,HF Za,XK,XK,k5]
        right
        grind
    ·simp at hq
   ·split at hq
    ·rename_i hpen;obtain ⟨s1,s2⟩:=hc.sk k hk hoff;have hs0:=s1.1 hpen;have hse:=s2 hs0;rw [<- hse] at hq;have hqo:=(Bs d _ _ Za hb.len q hq).2;obtain ⟨i1,i2,i3⟩:=Bd hc hD d (k+1) (Fh s) a b _ Za (ha.skip' hk) (hb.skip' hk) he q hq;have hle:=jE hc hD ha hk hoff hak hs0 i1;have hrg:=MQ hc (D:=D) ha.v
     have hL0:0<=Lx x ys D s/\Lx x ys D s<=skpF x k+Lx x ys D (Fh s):=by
      rcases hle with h | h
      ·omega
      ·exact h
     refine ⟨hL0.1,Za,fun hqc=> ?_⟩
     cases hf:(X8 ys k).find? (Kr x ys D s) with
     | none=>grind
     | some c =>
      obtain ⟨k1,k2,k3,k4,k5⟩:=hpick c hf;simp only;refine .inl ⟨k,hk,fun t ht=> ?_,?_⟩
      ·rw [k3 t ht,hqo t Za (.inl Za)];exact (he t Za).1
      ·rw [k4,hqo k hk (.inl Za),HF Za,Za2 hbk]
       left;omega
    ·simp at hq
theorem iH {x:Inst} {S:Nat} (hn:x.orders.length<=4) (hS:S<9223372036854775808):iG S (Yh x x.orders.length)=(decide (S<2^x.orders.length)&&(List.range x.orders.length).all fun i=> !(S.testBit i&&(nth x.orders i).off)):=by
 rw [Wu,ZG,Zl,iG,ZC,ZC]
 constructor
 ·intro h
  have key: ∀i,S.testBit i=true->i<x.orders.length/\(nth x.orders i).off=false:=fun i hi=>by
   have h63:i<63:=by
    rcases Ww i 63 with h | h
    ·exact h
    ·have:2^63<=2^i:=Yi Za h
     grind [KK]
   grind [Uk]
  refine ⟨Nat.lt_pow_two_of_testBit _ fun i hi=> ?_,fun i _=> ?_⟩
  ·grind
  grind
 ·rintro ⟨h1,h2⟩ i _
  cases hb:S.testBit i with
  | false=>rfl
  | true =>
   have hi:i<x.orders.length:=by
    rcases Ww i x.orders.length with h | h
    ·exact h
    ·have:2^x.orders.length<=2^i:=Yi Za h
     grind [KK]
   have:=h2 i (Xa.2 hi)
   simp_all [Uk]
theorem SG (x:Inst) (c:Col) (hn:x.orders.length<=4) (ht:x.types.length<=1048576) (hs:c.set<9223372036854775808):PC 162 [.p (Zs x),.p (Xg c)] (.bool (rightB x c)):=by
 obtain ⟨B,hB⟩: ∃B,B=rightB x c:=⟨_,rfl⟩;rw [<- hB]
 have h54:((pw 54:Nat):Int)=18014398509481984:=by decide
 refine Zc Tryz.func162 rfl wY ?_;simp (disch:=omega) only [Tryz.f162,go_sem,seval];refine Xd (Yv ?_);refine gF ?_ ?_<;>intro h1<;>simp (disch:=omega) only [Sh.out h1,go_sem,seval,↓reduceIte]
 ·grind [rightB]
 ·refine gF ?_ ?_<;>intro h2<;>simp (disch:=omega) only [Sh.out h2,go_sem,seval,↓reduceIte]
  ·grind [rightB]
  ·refine gF ?_ ?_<;>intro h3<;>simp (disch:=omega) only [Sh.out h3,go_sem,seval,↓reduceIte]
   ·grind [rightB]
   ·obtain ⟨S,hS⟩: ∃S:Nat,c.set=S:=⟨c.set.toNat,Za⟩
    have e0:B=(decide (S<2^x.orders.length)&&((List.range x.orders.length).all fun i=> !(S.testBit i&&(nth x.orders i).off))&&(decide (0<=c.price)&&decide (c.price<=18014398509481984))):=by
     grind [rightB,iH]
    rw [hS];refine Zo (Hh x.orders.length Za) (Yv ?_);have hpw:pw x.orders.length=2^x.orders.length:=rfl;refine gF ?_ ?_<;>intro h4<;>simp (disch:=omega) only [Sh.out h4,go_sem,seval,↓reduceIte]
    ·grind [UG]
    ·refine gF ?_ ?_<;>intro h5<;>simp (disch:=omega) only [Sh.out h5,go_sem,seval,↓reduceIte]
     ·grind
     ·refine Zo (Hh 54 Za) (Yv ?_);rw [h54];refine cD ?_ ?_<;>intro h6<;>simp (disch:=omega) only [Sh.out h6,go_sem,seval]
      ·grind
      ·have e1:B=((List.range x.orders.length).all fun i=> !(S.testBit i&&(nth x.orders i).off)):=by grind
       refine Zj [2,3] (fun k:Nat=> [(5,.p (.int .i64 k))]) (fun _=> [Zg x,Hr c]) (fun k=>k<=x.orders.length/\ ∀j,j<k->(!(S.testBit j&&(nth x.orders j).off))=true) (fun k=>x.orders.length-k) 0 ⟨Zb,fun j hj=>Za⟩ (Weak.mk ?_) ?_
       ·simp (disch:=omega) only [Zg,Hr,hS,go_sem,seval]
       ·rintro k ⟨hk,hno⟩;simp (disch:=omega) only [Zg,Hr,hS,go_sem,seval];refine cD ?_ ?_<;>intro h7<;>simp (disch:=omega) only [Sh.out h7,go_sem,seval,↓reduceIte]
        ·have hk2:k<x.orders.length:=Za
         refine (HC S k Za Za).use (Yv ?_);refine US ?_ ?_<;>intro h8
         ·refine ZH ?_ ?_<;>intro h9
          ·grind
          ·exact ⟨k+1,⟨Za,YX hno (by grind)⟩,Za,Weak.mk (by simp (disch:=omega) only [hS,go_sem,seval])⟩
         ·exact ⟨k+1,⟨Za,YX hno (by rw [h8];rfl)⟩,Za,Weak.mk (by simp (disch:=omega) only [hS,go_sem,seval])⟩
        grind
def DI : Chc:=⟨false,[],0⟩
def RH (b:Chc):PV:= .agg [.bool b.found,.list (!b.found) (b.places.map eI),.int .i64 b.price]
@[go_sem] theorem ZjI (b:Chc):RH b= .agg [.bool b.found,.list (!b.found) (b.places.map eI),.int .i64 b.price]:=Zw rfl rfl
def Im (b:Chc):AM.Obj:= .cells [.p (.bool b.found),.p (.list (!b.found) (b.places.map eI)),.p (.int .i64 b.price)]
def Fl (x:Inst) (l:List Col):Chc:=(B7 x l x.orders.length (List.replicate x.orders.length (-1)) 0).foldl (VA l) DI
def Tq (x:Inst) (l:List Col) (b:Chc) (e:Int):Prop:=(8192<l.length/\b=DI/\e=4)\/(l.length<=8192/\(∃c∈l,rightB x c=false)/\b=DI/\e=2) \/
 (l.length<=8192/\(∀c∈l,rightB x c=true)/\(((Fl x l).found=false/\b=DI/\e=24)\/((Fl x l).found=true/\b=Fl x l/\e=0)))
theorem HO {n i:Nat} (h:i<n):nth (List.replicate n (-1:Int)) i= -1:=by
 grind [Zi]
theorem Px {x:Inst} {l:List Col} :RngA x l (List.replicate x.orders.length (-1)):=⟨Zb,fun i hi=>by rw [HO hi];omega⟩
theorem I0 {x:Inst} {l:List Col} (h4:x.orders.length<=4) (h6:x.types.length<=6) (hl:l.length<=1048576) (hs: ∀c∈l,c.set<9223372036854775808) (hr: ∀c∈l,rightB x c=true)
  (hsk: ∀k,k<x.orders.length->(nth x.orders k).off=false->0<=(nth x.orders k).penalty->0<=skR x k/\skR x k<=18014398509481984) (hus: ∀i,scoR 1152921504606846976 (unsF x i).1):ColsR x l :=
 ⟨h4,h6,hl,fun c hc=>by
  obtain ⟨S,q1,q2,q3,_⟩:=UK (hr c hc) (hs c hc);have h:=hr c hc;simp only [rightB,ZG,Zl] at h
  exact ⟨⟨h.1,h.2.1⟩,h.2.2.2.2,S,q1,Qn q3 (Yi (n:=2) Za h4)⟩,hsk,hus⟩
theorem Nf (x:Inst) (l:List Col) (lc:Bool) (h4:x.orders.length<=4) (h6:x.types.length<=6) (hl:l.length<=1048576) (hs: ∀c∈l,c.set<9223372036854775808)
  (hsk: ∀k,k<x.orders.length->(nth x.orders k).off=false->0<=(nth x.orders k).penalty->0<=skR x k/\skR x k<=18014398509481984) (hus: ∀i,scoR 1152921504606846976 (unsF x i).1) :
  ACalls Tryz.prog 110 [.p (Zs x),.p (.list lc (l.map Xg))] [] fun y H'=> ∃b e,Tq x l b e/\y= .tup [.p (RH b),.p (.int .i64 e)]/\H'= []:=by
 refine Ze [14] Tryz.func110 rfl vR ?_;simp (disch:=omega) only [Tryz.f110,go_sem,seval];refine cD ?_ ?_<;>intro h1<;>simp (disch:=omega) only [Sh.out h1,go_sem,seval,↓reduceIte]
 ·exact ⟨.tup [.p (RH DI),.p (.int .i64 4)],[],Weak.mk (by simp (disch:=omega) only [DI,VZ,Zk,go_sem,seval]),_,_,.inl ⟨Za,rfl,rfl⟩,rfl,rfl⟩
 ·refine Zj [1,2,4] (fun k:Nat=> [(6,.p (.int .i64 k))]) (fun _=> [Zg x,Im DI]) (fun k=>k<=l.length/\ ∀j,j<k->rightB x (nth l j)=true) (fun k=>l.length-k) 0 ⟨Zb,fun j hj=>Za⟩ (Weak.mk ?_) ?_
  ·simp (disch:=omega) only [Zg,Im,DI,VZ,Zk,go_sem,seval]
  ·rintro k ⟨hk,hno⟩;simp (disch:=omega) only [Zg,Im,DI,VZ,Zk,go_sem,seval];refine cD ?_ ?_<;>intro h2<;>simp (disch:=omega) only [Sh.out h2,go_sem,seval,↓reduceIte]
   ·have hk2:k<l.length:=Za
    refine Xd (Yv ?_);refine Zo (SG x (nth l k) h4 Za (hs _ (ZV hk2))) (Yv ?_)
    cases hr:rightB x (nth l k) with
    | false =>
     refine Zdu ?_;exact ⟨.tup [.p (RH DI),.p (.int .i64 2)],[],Weak.mk (by simp (disch:=omega) only [DI,VZ,Zk,go_sem,seval]),_,_,.inr (.inl ⟨Za,⟨_,ZV hk2,hr⟩,rfl,rfl⟩),rfl,rfl⟩
    | true =>
     refine Mv ?_;exact ⟨k+1,⟨Za,YX hno hr⟩,Za,wk⟩
   ·have hr: ∀c∈l,rightB x c=true:=fun c hc=>by
     obtain ⟨j,hj,rfl⟩:=ZD.1 hc
     grind [Zi]
    have hC:=I0 h4 h6 hl hs hr hsk hus;clear hno hk h2;refine ZS [14] [2,4,7] (fun k:Nat=> [(8,.sl 3 0 k k),(9,.p (.int .i64 k))]) (fun k=> [Zg x,Im DI,Vk x lc l DI,.elems 1 ((List.replicate k (-1:Int)).map eI)]) (fun k=>k<=x.orders.length) (fun k=>x.orders.length-k) 0 Zb (Weak.ofNil 8 1 (by simp (disch:=omega) only [go_sem,seval]) Zb (Weak.mk ?_)) ?_
    ·simp (disch:=omega) only [Zg,Im,Vk,DI,VZ,Zk,List.replicate_zero,ZQ,go_sem,seval]
    ·intro k hk;simp (disch:=omega) only [Zg,Im,Vk,DI,VZ,Zk,go_sem,seval];refine cD ?_ ?_<;>intro h2<;>simp (disch:=omega) only [Sh.out h2,go_sem,seval,↓reduceIte]
     ·have hk2:k<x.orders.length:=Za
      have hrp:(List.replicate k (-1:Int))++ [-1]=List.replicate (k+1) (-1):=by rw [List.replicate_succ']
      simp (disch:=omega) only [Du,go_sem,seval];rw [if_pos ⟨Za,Za⟩];refine Yv ?_;exact ⟨k+1,Za,Za,Weak.mk (by simp (disch:=omega) only [<- hrp,Xi,ZN,Zk,go_sem,seval])⟩
     ·have hkn:k=x.orders.length:=Za
      subst hkn;refine Zp (Weak.fz (o:=3) (by rfl)) ?_;refine Zf [] _ _ _ _ ?_;simp (disch:=omega) only [ZN,Zk,X2,Xj,Du,eq_self,go_sem,seval];have ht:=PN x lc l hC x.orders.length (List.replicate x.orders.length (-1)) 0 DI (ZL _) Px Za Za (fun h=>by cases h);rw [Nat.sub_self] at ht;obtain ⟨B,hB⟩: ∃B,B=Fl x l:=⟨_,rfl⟩;rw [show (B7 x l x.orders.length (List.replicate x.orders.length (-1)) 0).foldl (VA l) DI=B from hB.symm] at ht;refine ACalls.mono (((ht.mono fun y H' hq=>(⟨hq,by grind⟩:_/\H'.length= [Vk x lc l DI].length)).front (by rfl) (by rfl) [.dead]).back [Zg x,Im DI] (by rfl)) ?_
      rintro y H' ⟨y1,H1,⟨H2,⟨rfl,rfl⟩,rfl⟩,rfl,rfl⟩;obtain ⟨f,bp,bc⟩:=B
      cases f with
      | false =>
       simp (disch:=omega) only [shV,shVs,shO,Vk,Zg,Im,DI,ZN,Zk,ZP,ZR,VZ,go_sem,seval];exact ⟨.tup [.p (RH DI),.p (.int .i64 24)],[],Weak.mk (by simp (disch:=omega) only [DI,VZ,Zk,go_sem,seval]),_,_,.inr (.inr ⟨Za,hr,.inl ⟨by rw [<- hB],rfl,rfl⟩⟩),rfl,rfl⟩
      | true =>
       simp (disch:=omega) only [shV,shVs,shO,Vk,Zg,Im,DI,ZN,Zk,ZP,ZR,Uy,go_sem,seval];exact ⟨.tup [.p (RH ⟨true,bp,bc⟩),.p (.int .i64 0)],[],Weak.mk (by simp (disch:=omega) only [Uy,go_sem,seval]),_,_,.inr (.inr ⟨Za,hr,.inr ⟨by rw [<- hB],hB,rfl⟩⟩),rfl,rfl⟩
theorem dD {l:List Col} {x y:Int} (hx: -1<=x) (hy: -1<=y) (h:ky l x=ky l y):(x<0->x=y)/\(y<0->x=y)/\(0<=x->0<=y/\(nth l x.toNat).typ=(nth l y.toNat).typ/\(nth l x.toNat).set=(nth l y.toNat).set):=by
 unfold ky at h
 grind
theorem Cd {l:List Col} : ∀ {a b:List Int},a.length=b.length->(∀t,t<a.length-> -1<=nth a t/\ -1<=nth b t/\ky l (nth a t)=ky l (nth b t))->JM l a b=none
 | [],[],_,_=>Zjj
 | [],_::_,h,_=>by simp at h
 | _::_,[],h,_=>by simp at h
 | x::a,y::b,hl,h=>by
  have ih:=Cd (l:=l) (a:=a) (b:=b) (by grind) fun t ht=>h (t+1) (by grind);obtain ⟨h1,h2,h3⟩:=h 0 Zb;obtain ⟨k1,k2,k3⟩:=dD (show-1<=x from h1) (show-1<=y from h2) h3;rw [JM]
  grind
theorem Oz {l:List Col} : ∀ {a b:List Int} {i:Nat},a.length=b.length->i<a.length->(∀t,t<a.length-> -1<=nth a t/\ -1<=nth b t)->(∀t,t<i->ky l (nth a t)=ky l (nth b t))->dC (ky l (nth a i)) (ky l (nth b i))->JM l a b=some true/\JM l b a=some false
 | [],_,_,_,h,_,_,_=>by simp at h
 | _::_,[],_,h,_,_,_,_=>by simp at h
 | x::a,y::b,0,_,_,hr,_,h=>by
  obtain ⟨h1,h2⟩:=hr 0 Zb;have h':dC (ky l x) (ky l y):=h
  have hne:x≠y:=fun e=>by grind [dC]
  rw [JM,JM,if_neg hne,if_neg (Ne.symm hne)];unfold ky dC at h'
  grind
 | x::a,y::b,i+1,hl,hi,hr,he,h=>by
  have ih:=Oz (l:=l) (a:=a) (b:=b) (i:=i) (by grind) (by grind) (fun t ht=>hr (t+1) (by grind)) (fun t ht=>he (t+1) Za) h;obtain ⟨h1,h2⟩:=hr 0 Zb;have h3:ky l x=ky l y:=he 0 Za;obtain ⟨k1,k2,k3⟩:=dD (show-1<=x from h1) (show-1<=y from h2) h3;rw [JM,JM]
  grind
theorem OA : ∀ {a b:List Int},a.length=b.length->(∀t,t<a.length->nth a t<=nth b t)->a=b\/(C8 a b=true/\C8 b a=false)
 | [],[],_,_=> .inl rfl
 | [],_::_,h,_=>by simp at h
 | _::_,[],h,_=>by simp at h
 | x::a,y::b,hl,h=>by
  have h0:x<=y:=h 0 Zb;rw [C8,C8]
  by_cases hxy:x=y
  ·subst hxy;rw [if_pos rfl,if_pos rfl];rcases OA (a:=a) (b:=b) (by grind) (fun t ht=>h (t+1) (by grind)) with e | e
   ·grind
   grind
  grind
theorem sE {x:Inst} {l:List Col} {a b:List Int} (ha:RngA x l a) (hb:RngA x l b) (h:KL x.orders.length l a b):a=b\/(DU l a b=true/\DU l b a=false):=by
 have hl:a.length=b.length:=by rw [ha.1,hb.1]
 have hr: ∀t,t<a.length-> -1<=nth a t/\ -1<=nth b t:=fun t ht=>⟨(ha.2 t (by rw [<- ha.1];exact ht)).1,(hb.2 t (by rw [<- ha.1];exact ht)).1⟩;rcases h with ⟨i,hi,he,hlt⟩ | h
 ·obtain ⟨h1,h2⟩:=Oz hl (by rw [ha.1];exact hi) hr he hlt
  grind [QA]
 ·have h1:=Cd (l:=l) hl fun t ht=>⟨(hr t ht).1,(hr t ht).2,(h t (by rw [<- ha.1];exact ht)).1⟩;have h2:=Cd (l:=l) hl.symm fun t ht=>⟨(hr t Za).2,(hr t Za).1,((h t (by rw [<- hb.1];exact ht)).1).symm⟩;rcases OA hl fun t ht=>(h t (by rw [<- ha.1];exact ht)).2 with e | ⟨e1,e2⟩
  ·exact .inl e
  grind [FO]
def Prf (l:List Col) (P:List Int) (W:Int) (q:List Int×Int):Prop:=W<=q.2/\(q.2=W->P=q.1\/(DU l P q.1=true/\DU l q.1 P=false))
theorem MD {l:List Col} {P:List Int} {W:Int} : ∀ {L:List (List Int×Int)},(∀q∈L,Prf l P W q)->L.foldl (VA l) ⟨true,P,W⟩=⟨true,P,W⟩
 | [],_=>rfl
 | q::L,h=>by
  have e:VA l ⟨true,P,W⟩ q=⟨true,P,W⟩:=by
   obtain ⟨h1,h2⟩:=h q Zb;unfold VA
   split
   ·rename_i hc;rcases hc with hc | hc | ⟨hc,hd⟩
    ·cases hc
    ·simp only at hc;omega
    ·simp only at hc hd;rcases h2 hc with e | ⟨_,e⟩
     ·rw [<- e,hc]
     ·rw [e] at hd;cases hd
   ·rfl
  rw [XF,e];exact MD fun q hq=>h q (YF _ hq)
theorem GR {l:List Col} {P:List Int} {W:Int} : ∀ {L:List (List Int×Int)} {b:Chc},(b.found=false\/Prf l P W (b.places,b.price))->(∀q∈L,Prf l P W q)->(P,W)∈L->L.foldl (VA l) b=⟨true,P,W⟩
 | [],_,_,_,hm=>by simp at hm
 | q::L,b,hb,h,hm=>by
  rw [XF];have hq:=h q Zb;have hL: ∀q∈L,Prf l P W q:=fun q hq=>h q (YF _ hq)
  by_cases e:q=(P,W)
  ·have:VA l b q=⟨true,P,W⟩:=by
    subst e;unfold VA
    split
    ·rfl
    ·rename_i hc;rcases hb with hb | ⟨h1,h2⟩
     ·grind
     ·simp only at h1 h2 hc
      have h3:b.price=W:=by
       omega
      rcases h2 h3 with e | ⟨e,_⟩
      ·obtain ⟨f,bp,bc⟩:=b
       grind
      grind
   grind [MD]
  ·refine GR ?_ hL (by
    rcases Xq.1 hm with h | h
    ·exact absurd h.symm e
    ·exact h)
   unfold VA
   split
   ·exact .inr hq
   ·exact hb
theorem O0 {x:Inst} {l ys:List Col} (hc:Ctx x l ys) {D:Nat} (hD:10<D): ∀(d k:Nat) (s:St) (a:List Int) (p:Int),k+d=x.orders.length->Nd x l a s k->0<=Lx x ys D s->(gr x l ys D d k s a,p+Lx x ys D s)∈B7 x l d a p
 | 0,k,s,a,p,hd,ha,h0=>by
  rw [Tu (by rw [ha.ix];omega),V3,gr,B7];simp
 | d+1,k,s,a,p,hd,ha,h0=>by
  have hk:k<x.orders.length:=Za
  have hkd:x.orders.length-(d+1)=k:=Za
  rw [B7,hkd,gr]
  split
  ·rename_i ho;rw [Oi hc ha hk ho] at h0 ⊢;exact O0 hc hD d (k+1) _ a p Za (ha.skip' hk) h0
  ·rename_i ho
   have hoff:(nth x.orders k).off=false:=by
    cases e:(nth x.orders k).off with
    | false=>rfl
    | true=>exact absurd (.inl e) ho
   have hak:nth a k<0:=Int.not_le.1 fun g=>ho (.inr g)
   have hcv:s.cov.toNat.testBit k=false:=by rw [ha.cov k hk];exact UG Za
   rw [Xy,Yk]
   cases hf:(X8 ys k).find? (Kr x ys D s) with
   | some c =>
    left
    have hsel:=U1 hf;simp only [Kr,ZG,Zl] at hsel;obtain ⟨p1,p2,p3⟩:=Jx hc ha hk (YY hf) hsel.1;have hch:=ha.child hc hk p1 p3;rw [p2] at hch;refine ⟨AI l c,Xa.2 p1,?_⟩;rw [if_pos p3,p2];have:=O0 hc hD d (k+1) _ _ (p+c.price) Za hch hsel.2.1;rw [show p+c.price+Lx x ys D (K0 s c)=p+Lx x ys D s by omega] at this;exact this
   | none =>
    right
    rw [KN] at hf;have hdec:=MP hc hD ha.v ha.ix hk hoff hcv;have hno: ∀c∈X8 ys k,Yo x s c=true->0<=Lx x ys D (K0 s c)->c.price+Lx x ys D (K0 s c)≠Lx x ys D s:=fun c hm hy hL e=>hf c hm (by simp only [Kr,hy,Wv hL,Wv e,Bool.and_self]);obtain ⟨s1,s2⟩:=hc.sk k hk hoff;have hfold:=F4 (x:=x) (s:=s) (r:=fun c=>Lx x ys D (K0 s c)) (l:=X8 ys k) (a:= -1)
    by_cases hs:0<=skpF x k
    ·rw [if_pos (s1.2 hs),<- s2 hs];rw [if_pos hs] at hdec;unfold YI at hdec
     split at hdec
     ·rename_i hb;have:=O0 hc hD d (k+1) _ a (p+skpF x k) Za (ha.skip' hk) hb.1;rw [show p+skpF x k+Lx x ys D (Fh s)=p+Lx x ys D s by omega] at this;exact this
     ·exfalso;rcases hfold with e | ⟨c,h1,h2,h3,h4⟩
      ·unfold YI at e;omega
      ·exact hno c h1 h2 h3 (by rw [hdec];exact h4.symm)
    ·exfalso;rw [if_neg hs] at hdec;rcases hfold with e | ⟨c,h1,h2,h3,h4⟩
     ·omega
     ·exact hno c h1 h2 h3 (by rw [hdec];exact h4.symm)
def Pz (l:List Col) (g:List Int) (T:Nat):Nat->List Col
 | 0=> []
 | i+1=>Pz l g T i++(if 0<=nth g i/\(nth l (nth g i).toNat).typ=T/\(nth l (nth g i).toNat).set%(pw i:Nat)=0 then [nth l (nth g i).toNat] else [])
def Ip (l:List Col) (g:List Int) (n:Nat):Nat->List Col
 | 0=> []
 | T+1=>Ip l g n T++Pz l g T n
def To (x:Inst) (g:List Int):Nat->List Int
 | 0=> []
 | i+1=>To x g i++(if nth g i<0/\(nth x.orders i).off=false then [(i:Int)] else [])
theorem H4 {l:List Col} {g:List Int} {T:Nat} : ∀k,(Pz l g T k).length<=k
 | 0=>ZL _
 | k+1=>by
  have:=H4 (l:=l) (g:=g) (T:=T) k;rw [Pz,Zm];split<;>simp<;>omega
theorem H5 {l:List Col} {g:List Int} {n:Nat} : ∀T,(Ip l g n T).length<=T*n
 | 0=>by simp [Ip]
 | T+1=>by
  have:=H5 (l:=l) (g:=g) (n:=n) T;have:=H4 (l:=l) (g:=g) (T:=T) n;rw [Ip,Zm,YN];omega
theorem Ig {x:Inst} {g:List Int} : ∀k,(To x g k).length<=k
 | 0=>ZL _
 | k+1=>by
  have:=Ig (x:=x) (g:=g) k;rw [To,Zm];split<;>simp<;>omega
def P1 (x:Inst) (l:List Col) (p:Pln) (c e:Int):Prop:= ∃b,Tq x l b e/\(e≠0->p=zPlC/\c=0)/\(e=0->c=b.price/\p=⟨false,(Ip l b.places b.places.length x.types.length).map (·.route),false,To x b.places b.places.length⟩)
def Tn (v w:V):AM.Obj:= .cells [v,w]
theorem IY (x:Inst) (l:List Col) (lc:Bool) (h4:x.orders.length<=4) (h6:x.types.length<=6) (hl:l.length<=1048576) (hs: ∀c∈l,c.set<9223372036854775808)
  (hsk: ∀k,k<x.orders.length->(nth x.orders k).off=false->0<=(nth x.orders k).penalty->0<=skR x k/\skR x k<=18014398509481984) (hus: ∀i,scoR 1152921504606846976 (unsF x i).1) :
  ACalls Tryz.prog 66 [.p (Zs x),.p (.list lc (l.map Xg))] [] fun y H'=> ∃p c e,P1 x l p c e/\y= .tup [.p (W2 p),.p (.int .i64 c),.p (.int .i64 e)]/\H'= []:=by
 refine Ze [18] Tryz.func66 rfl Zhf ?_;simp (disch:=omega) only [Tryz.f66,go_sem,seval];refine ((Nf x l lc h4 h6 hl hs hsk hus).behind (by rfl) _).mono ?_;rintro y H' ⟨y1,H1,⟨b,e,hb,rfl,rfl⟩,rfl,rfl⟩;simp (disch:=omega) only [shV,shVs,Zk,go_sem,seval];refine cD ?_ ?_<;>intro h1<;>simp (disch:=omega) only [Sh.out h1,go_sem,seval,↓reduceIte]
 ·exact ⟨.tup [.p (W2 zPlC),.p (.int .i64 0),.p (.int .i64 e)],[],Weak.mk (by simp (disch:=omega) only [zPlC,Zk,go_sem,seval]),_,_,_,⟨b,hb,fun _=>⟨rfl,rfl⟩,fun h=>absurd h h1⟩,rfl,rfl⟩
 ·have he:e=0:=Za
  subst he;have hcv:=hb;rcases hb with ⟨_,_,h⟩ | ⟨_,_,_,h⟩ | ⟨hl2,hr,⟨_,_,h⟩ | ⟨hf,rfl,_⟩⟩
  ·cases h
  ·cases h
  ·cases h
  ·have hC:=I0 h4 h6 hl hs hr hsk hus;have hrg:RngA x l (Fl x l).places:=(Ii (x:=x) (l:=l) (b:=DI) (fun h=>by cases h) (KY x.orders.length Px)) hf;obtain ⟨⟨f,g,c⟩,hB⟩: ∃B,B=Fl x l:=⟨_,rfl⟩;rw [<- hB] at hcv hf hrg ⊢;simp only at hf hrg;subst hf;have hgl:g.length=x.orders.length:=hrg.1;refine Zj [1,2,4,7,9] (fun T:Nat=> [(10,.p (.int .i64 T))]) (fun T=> [Zg x,Tn (.p (.list true [])) (.p (.list true [])),Im ⟨true,g,c⟩,Tn (.sl 4 0 (Ip l g g.length T).length (Ip l g g.length T).length) (.p (.list true [])),.elems 4 ((Ip l g g.length T).map fun c=>YJ c.route)]) (fun T=>T<=x.types.length) (fun T=>x.types.length-T) 0 Zb ((Weak.nilC (o:=3) (j:=0) 4 (by rfl) (by rfl) Zb).trans (Weak.mk ?_)) ?_
   ·simp (disch:=omega) only [Zg,Tn,Im,Uy,Ip,Zk,ZQ,X2,Xj,go_sem,seval]
   ·intro T hT;obtain ⟨R,hR⟩: ∃R,R=Ip l g g.length T:=⟨_,rfl⟩;have hRl:=H5 (l:=l) (g:=g) (n:=g.length) T;rw [<- hR] at hRl ⊢
    have hRs:Ip l g g.length (T+1)=R++Pz l g T g.length:=by rw [hR];rfl
    have hTn:T*g.length<=6*4:=Br Za Za;simp (disch:=omega) only [Zg,Tn,Im,Uy,go_sem,seval];refine cD ?_ ?_<;>intro h2<;>simp (disch:=omega) only [Sh.out h2,go_sem,seval,↓reduceIte]
    ·obtain ⟨W,hW⟩: ∃W:Nat->List Col,W=fun i=>R++Pz l g T i:=⟨_,rfl⟩
     have hW0:W 0=R:=by grind [Pz]
     have hWn:Ip l g g.length (T+1)=W g.length:=by rw [hRs,hW]
     have hWl: ∀i,(W i).length<=R.length+i:=fun i=>by
      grind [H4]
     have hWs: ∀i,W (i+1)=W i++(if 0<=nth g i/\(nth l (nth g i).toNat).typ=T/\(nth l (nth g i).toNat).set%(pw i:Nat)=0 then [nth l (nth g i).toNat] else []):=fun i=>by grind [Pz]
     clear hW hRs;refine Zj [1,2,4,7,9,10] (fun i:Nat=> [(11,.p (.int .i64 i))]) (fun i=> [Zg x,Tn (.p (.list true [])) (.p (.list true [])),Im ⟨true,g,c⟩,Tn (.sl 4 0 (W i).length (W i).length) (.p (.list true [])),.elems 4 ((W i).map fun c=>YJ c.route)]) (fun i=>i<=g.length) (fun i=>g.length-i) 0 Zb (Weak.mk ?_) ?_
     ·simp (disch:=omega) only [Zg,Tn,Im,Uy,hW0,go_sem,seval]
     ·intro i hi
      have hQl:(W i).length<=28:=by grind
      have hQs:=hWs i;simp (disch:=omega) only [Zg,Tn,Im,Uy,go_sem,seval];refine ZH ?_ ?_<;>intro h3
      ·have hi2:i<g.length:=Za
       have hri:=hrg.2 i Za;refine Xd (Yv ?_);refine US ?_ ?_<;>intro h5
       ·have hj:(nth g i).toNat<l.length:=Za
        obtain ⟨⟨t0,t1⟩,⟨c0,c1⟩,S,hS,hS2⟩:=hC.col _ (ZV hj);refine US ?_ ?_<;>intro h7
        ·have hpp:0<pw i/\pw i<=pw 4:=⟨EI i,JK Za⟩;refine Zo (Hh i Za) (Yv ?_);rw [hS];refine ZH ?_ ?_<;>intro h8
         ·rw [if_pos ⟨h5,h7,by grind⟩] at hQs;refine Z1 12 mixed Zd Zd ?_;refine Yv ?_;exact ⟨i+1,Za,Za,Weak.mk (by simp (disch:=omega) only [hQs,Xi,ZN,Zk,Zm,Zz,ZQ,Xl,go_sem,seval])⟩
         ·rw [if_neg (fun h=>h8 (by grind)),We] at hQs;exact ⟨i+1,Za,Za,Weak.mk (by simp (disch:=omega) only [hQs,go_sem,seval])⟩
        ·rw [if_neg (fun h=>h7 h.2.1),We] at hQs;exact ⟨i+1,Za,Za,Weak.mk (by simp (disch:=omega) only [hQs,go_sem,seval])⟩
       ·rw [if_neg (fun h=>h5 h.1),We] at hQs;exact ⟨i+1,Za,Za,Weak.mk (by simp (disch:=omega) only [hQs,go_sem,seval])⟩
      ·have hig:i=g.length:=Za
       subst hig;exact ⟨T+1,Za,Za,Weak.mk (by simp (disch:=omega) only [hWn,go_sem,seval])⟩
    ·have hTt:T=x.types.length:=Za
     subst hTt;refine ZS [18] [2,4,7,9] (fun i:Nat=> [(12,.p (.int .i64 i))]) (fun i=> [Zg x,Tn (.p (.list true [])) (.p (.list true [])),Im ⟨true,g,c⟩,Tn (.sl 4 0 R.length R.length) (.sl 5 0 (To x g i).length (To x g i).length),.elems 4 (R.map fun c=>YJ c.route),.elems 1 ((To x g i).map eI)]) (fun i=>i<=g.length) (fun i=>g.length-i) 0 Zb ((Weak.nilC (o:=3) (j:=1) 1 (by rfl) (by rfl) Zb).trans (Weak.mk ?_)) ?_
     ·simp (disch:=omega) only [Zg,Tn,Im,Uy,To,Zk,ZQ,X2,Xj,go_sem,seval]
     ·intro i hi;obtain ⟨U,hU⟩: ∃U,U=To x g i:=⟨_,rfl⟩;have hUl:=Ig (x:=x) (g:=g) i
      have hUs:To x g (i+1)=U++(if nth g i<0/\(nth x.orders i).off=false then [(i:Int)] else []):=by rw [hU];rfl
      rw [<- hU] at hUl ⊢;simp (disch:=omega) only [Zg,Tn,Im,Uy,go_sem,seval];refine cD ?_ ?_<;>intro h3<;>simp (disch:=omega) only [Sh.out h3,go_sem,seval,↓reduceIte]
      ·have hi2:i<g.length:=Za
       refine US ?_ ?_<;>intro h5
       ·cases ho:(nth x.orders i).off with
        | true =>
         rw [if_neg (by rw [ho];simp),We] at hUs;refine Mv ?_;exact ⟨i+1,Za,Za,Weak.mk (by simp (disch:=omega) only [hUs,go_sem,seval])⟩
        | false =>
         rw [if_pos ⟨h5,ho⟩] at hUs;refine Zdu ?_;exact ⟨i+1,Za,Za,Weak.mk (by simp (disch:=omega) only [hUs,Xi,ZN,Zk,Zm,Zz,ZQ,Xl,go_sem,seval])⟩
       ·rw [if_neg (fun h=>h5 h.1),We] at hUs;exact ⟨i+1,Za,Za,Weak.mk (by simp (disch:=omega) only [hUs,go_sem,seval])⟩
      ·have hig:i=g.length:=Za
       subst hig;refine Zp (Weak.fz (o:=4) (by rfl)) ?_;refine Zp (Weak.fz (o:=5) (by rfl)) ?_;refine Zf [] _ _ _ _ ?_;simp (disch:=omega) only [ZN,Zk,X2,Xj,eq_self,go_sem,seval];refine Q7 [3] [1,2] [2] 4 mixed Zd Zd Zd Zd Zb (Yv ?_);refine ⟨fun q hq p' hp=> ?_,?_⟩
       ·simp only [Xq,Jj,or_false] at hq;rcases hq with rfl | rfl
        ·obtain rfl:7=p':=Vu hp;exact WY (by decide)
        ·obtain rfl:114=p':=Vu hp;exact WY (by decide)
       ·refine Lw 3 _ _ Zd (by refine Yv ?_;exact ⟨rfl,rfl⟩) ?_;refine ⟨fun k hk=>by simp at hk;subst hk;rfl,HG ?_⟩;refine Yv ?_;exact ⟨.tup [.p (W2 ⟨false,R.map (·.route),false,U⟩),.p (.int .i64 c),.p (.int .i64 0)],[],Weak.mk (by simp (disch:=omega) only [List.map_map,Function.comp_def,go_sem,seval]),_,_,_,⟨_,hcv,fun h=>absurd rfl h,fun _=>⟨rfl,by rw [hR,hU]⟩⟩,rfl,rfl⟩
theorem D9 {α:Type} {p q:α->Bool} : ∀ {l:List α},(∀a∈l,p a=q a)->l.find? p=l.find? q
 | [],_=>rfl
 | a::l,h=>by
  rw [List.find?_cons,List.find?_cons,h a Zb,D9 fun a ha=>h a (YF _ ha)]
def RA (l:List Col) (g:List Int):Nat->Nat->List Col
 | 0,_=> []
 | d+1,k=>(if 0<=nth g k/\Ad (nth l (nth g k).toNat).set.toNat=(k:Int) then [nth l (nth g k).toNat] else [])++RA l g d (k+1)
def UA (x:Inst) (g:List Int):Nat->Nat->List Int
 | 0,_=> []
 | d+1,k=>(if nth g k<0/\(nth x.orders k).off=false then [(k:Int)] else [])++UA x g d (k+1)
theorem nR {x:Inst} {l ys:List Col} (hc:Ctx x l ys) {D:Nat} (hD:D=20) {s:St} {k:Nat} (hv:StV x.orders.length s) (hk:s.ix=k) (hkn:k<x.orders.length) (ho:(nth x.orders k).off=false) (hcv:s.cov.toNat.testBit k=false) {c:Col} (hm:c∈X8 ys k) :
  Ia x.orders.length (mI x) x (fstF x.orders.length ys) (skF x x.orders.length) s c=Kr x ys D s c:=by
 have hn:=hc.n4;have e1:=CG (n:=x.orders.length) hk (m:=mI x) (by grind [Ep]) (by grind [A6]);have e2:=E7 (m:=mI x) hk hkn hn (Kn hc hkn hm).2.2.2
 grind [Ia,Kr,Lx]
theorem DA {x:Inst} {l ys:List Col} (hc:Ctx x l ys) {D:Nat} (hD:D=20): ∀(d k:Nat) (s:St) (a:List Int) (f:Nat),k+d=x.orders.length->d<f->Nd x l a s k ->
  Yc x.orders.length (mI x) x (fstF x.orders.length ys) (skF x x.orders.length) f (W4 x.orders.length (mI x) s)=(RA l (gr x l ys D d k s a) d k,UA x (gr x l ys D d k s a) d k)
 | 0,k,s,a,0,_,hf,_=>Za
 | 0,k,s,a,f+1,hd,_,h=>by
  rw [Yc,if_pos,RA,UA];simp only [W4];have:=BU (n:=x.orders.length) (m:=mI x) (cov:=s.cov) (x.orders.length-s.ix.toNat) s.ix.toNat;have:=h.ix;omega
 | d+1,k,s,a,0,_,hf,_=>Za
 | d+1,k,s,a,f+1,hd,hf,h=>by
  have hk:k<x.orders.length:=Za
  have hn:=hc.n4;rw [gr]
  split
  ·rename_i ho;have hsk:=ho.imp (fun e=>show sHas (mI x) k=false by grind [Ep]) (fun e=>show sHas s.cov k=true by rw [A6 h.v Za,h.cov k hk];grind);rw [CF h.ix hk hsk,DA hc hD d (k+1) (Fh s) a (f+1) Za Za (h.skip' hk)];have hg:=(Ci hc (D:=D) d (k+1) (Fh s) a Za (h.skip' hk)).2 k hk (.inl Za);rw [RA,UA,hg,if_neg,if_neg,ZR,ZR]
   ·grind
   ·rintro ⟨g1,g2⟩;obtain ⟨t,t1,t2⟩:=h.old k hk (ZL _) g1;have hr:=h.rng k hk;obtain ⟨_,s0,s1,_⟩:=hc.set (ZV (l:=l) (i:=(nth a k).toNat) Za);have:=((Ob s0 s1 hn hk).1 g2).2 t Za t2;omega
  ·rename_i ho
   have hoff:(nth x.orders k).off=false:=by
    grind
   have hak:nth a k<0:=Int.not_le.1 fun g=>ho (.inr g)
   have hcv:s.cov.toNat.testBit k=false:=by rw [h.cov k hk];grind
   rw [CG h.ix (by grind [Ep]) (by rw [A6 h.v Za,hcv]),Yc,if_neg (by rw [h.ix];omega)]
   have e2:nth (fstF x.orders.length ys) s.ix.toNat=X8 ys k:=by rw [h.ix,XK,LK,if_pos hk]
   rw [e2,D9 (q:=Kr x ys D s) fun c hm=>nR hc hD h.v h.ix hk hoff hcv hm]
   cases hfd:(X8 ys k).find? (Kr x ys D s) with
   | some c =>
    have hsel:=U1 hfd;have hm:=YY hfd;simp only [Kr,ZG] at hsel;obtain ⟨p1,p2,p3⟩:=Jx hc h hk hm hsel.1;have hch:=h.child hc hk p1 p3;obtain ⟨c1,c2⟩:=A4 h.len p3;rw [p2] at hch c1 c2;have hg:=(Ci hc (D:=D) d (k+1) (K0 s c) _ Za hch).2 k hk (.inl Za);rw [XA (by rw [h.len];exact hk),if_pos c1] at hg;simp only;rw [E7 h.ix hk hn (Kn hc hk hm).2.2.2,DA hc hD d (k+1) (K0 s c) _ f Za Za hch,RA,UA,hg,if_pos ⟨Za,by rw [XK,p2];exact (Kn hc hk hm).2.2.1⟩,if_neg Za,XK,p2]
    rfl
   | none =>
    have hg:=(Ci hc (D:=D) d (k+1) (Fh s) a Za (h.skip' hk)).2 k hk (.inl Za);simp only;have e3:Ct x.orders.length (mI x) s=W4 x.orders.length (mI x) (Fh s):=rfl;rw [e3,DA hc hD d (k+1) (Fh s) a f Za Za (h.skip' hk),RA,UA,hg,if_neg Za,if_pos ⟨hak,hoff⟩,h.ix]
    rfl
theorem GZ {l:List Col} {g:List Int} {c:Col} : ∀(d k:Nat),c∈RA l g d k↔ ∃i,k<=i/\i<k+d/\0<=nth g i/\Ad (nth l (nth g i).toNat).set.toNat=(i:Int)/\c=nth l (nth g i).toNat
 | 0,k=>by simp [RA];omega
 | d+1,k=>by
  rw [RA,Xy,GZ d (k+1)]
  constructor
  ·rintro (h | ⟨i,h1,h2,h3⟩)
   ·split at h
    ·grind
    ·simp at h
   grind
  grind
theorem Tv {l:List Col} {g:List Int} : ∀(d k:Nat),(RA l g d k).Pairwise fun a b=>Ad a.set.toNat<Ad b.set.toNat
 | 0,k=> .nil
 | d+1,k=>by
  rw [RA,Dw];refine ⟨?_,Tv d (k+1),fun a ha b hb=> ?_⟩
  ·split<;>simp
  ·split at ha
   ·rename_i hh;obtain ⟨i,h1,h2,h3,h4,rfl⟩:=(GZ _ _).1 hb
    grind
   ·simp at ha
theorem ZjG {x:Inst} {g:List Int} : ∀(d k:Nat),UA x g (d+1) k=UA x g d k++(if nth g (k+d)<0/\(nth x.orders (k+d)).off=false then [((k+d:Nat):Int)] else [])
 | 0,k=>by simp [UA]
 | d+1,k=>by
  rw [UA,ZjG d (k+1),UA,UC,show k+1+d=k+(d+1) by omega]
theorem Tx {x:Inst} {g:List Int} : ∀n,UA x g n 0=To x g n
 | 0=>rfl
 | n+1=>by rw [ZjG,Tx n,To,Xl]
theorem Zbs : ∀S:Fin 16,0<S.val-> ∀i:Fin 4,S.val.testBit i.val=true->((S.val:Int)%(pw i.val:Nat)=0↔Ad S.val=(i.val:Int)):=by decide+kernel
theorem K7 {l:List Col} {g:List Int} {T:Nat} {c:Col} : ∀k,c∈Pz l g T k↔ ∃i,i<k/\0<=nth g i/\(nth l (nth g i).toNat).typ=T/\(nth l (nth g i).toNat).set%(pw i:Nat)=0/\c=nth l (nth g i).toNat
 | 0=>by simp [Pz]
 | k+1=>by
  rw [Pz,Xy,K7 k]
  constructor
  ·grind
  grind
theorem H6 {l:List Col} {g:List Int} {n:Nat} {c:Col} : ∀T,c∈Ip l g n T↔ ∃t,t<T/\c∈Pz l g t n
 | 0=>by simp [Ip]
 | T+1=>by
  rw [Ip,Xy,H6 T]
  grind
theorem sA {x:Inst} (hx:InstOk x) {k:Nat} (hk:k<x.orders.length) (ho:(nth x.orders k).off=false):(0<=(nth x.orders k).penalty↔0<=skpF x k)/\(0<=skpF x k->skpF x k=skR x k):=by
 have ha:=(hx.orders.2 k hk).arg;simp only [argOk,rng,ZG,Zl] at ha
 have e:unsF x k=if (nth x.orders k).penalty= -1 then (zSco,23) else (⟨(nth x.orders k).penalty,if (nth x.orders k).now= -1 then 0 else 1,0,0⟩,0):=by
  simp_all [unsF,if_neg]
 by_cases hp:(nth x.orders k).penalty= -1
 ·simp_all [skpF]
 ·have hm:(if (nth x.orders k).now= -1 then (0:Int) else 1)=0\/(if (nth x.orders k).now= -1 then (0:Int) else 1)=1:=Za
  have e2:skpF x k=skR x k/\0<=skR x k:=by
   rw [skpF,skR,e,if_neg hp];generalize (if (nth x.orders k).now= -1 then (0:Int) else 1)=m at hm
   have:Wm ⟨(nth x.orders k).penalty,m,0,0⟩=((((nth x.orders k).penalty*16+m)*16+0)*65536+0,0):=by
    rw [Wm,if_neg (by grind),if_neg (by grind)]
   grind
  omega
theorem aV {x:Inst} {l ys:List Col} (hx:InstOk x) (hn:x.orders.length<=4) (hC:Cheap l ys) (hr: ∀c∈l,rightB x c=true) (hs: ∀c∈l,c.set<9223372036854775808):Ctx x l ys :=
 have hok:=OF hx hn hC hr hs
 ⟨hn,hok.typ.1,hC,hr,hs,hok,fun _ hk ho=>sA hx hk ho⟩
theorem PQ {l:List Col} {n:Nat} {T:Int} : ∀m,m<=n->usdI l (List.replicate n (-1)) T m=0
 | 0,_=>rfl
 | m+1,h=>by
  rw [usdI,PQ m Za,BZ,HO Za,UG Za];rfl
theorem Pm (x:Inst) (l:List Col):Nd x l (List.replicate x.orders.length (-1)) zSt 0:=by
 have hz: ∀i,i<x.orders.length->nth (List.replicate x.orders.length (-1:Int)) i= -1:=fun i hi=>HO hi;refine ⟨Zb,rfl,sD _,fun i hi=> ?_,fun i hi=>by grind,fun T hT=> ?_,fun i hi h=>by grind,fun i hi _ h=>by grind,fun i hi h=>by grind⟩
 ·simp_all [zSt]
 ·rw [PQ _ (ZL _)]
  have:T=0\/T=1\/T=2\/T=3\/T=4\/T=5:=Za
  rcases this with rfl | rfl | rfl | rfl | rfl | rfl<;>rfl
theorem Nd.RngA {x:Inst} {l:List Col} {a:List Int} {s:St} {k:Nat} (h:Nd x l a s k):RngA x l a:=⟨h.len,h.rng⟩
theorem Ln {x:Inst} {l ys:List Col} (hc:Ctx x l ys) {D:Nat} : ∀(d k:Nat) (s:St) (a:List Int),k+d=x.orders.length->Nd x l a s k-> ∃s',Nd x l (gr x l ys D d k s a) s' x.orders.length
 | 0,k,s,a,hd,h=>⟨s,by grind [gr]⟩
 | d+1,k,s,a,hd,h=>by
  have hk:k<x.orders.length:=Za
  rw [gr]
  split
  ·exact Ln hc d (k+1) _ _ Za (h.skip' hk)
  ·split
   ·rename_i c hf;have hsel:=U1 hf;simp only [Kr,ZG] at hsel;obtain ⟨p1,p2,p3⟩:=Jx hc h hk (YY hf) hsel.1;have hch:=h.child hc hk p1 p3;rw [p2] at hch;exact Ln hc d (k+1) _ _ Za hch
   ·exact Ln hc d (k+1) _ _ Za (h.skip' hk)
theorem Oo {x:Inst} {l ys:List Col} (hc:Ctx x l ys) {D:Nat} (hD:10<D) :
  (Lx x ys D zSt<0->(Fl x l).found=false)/\(0<=Lx x ys D zSt->Fl x l=⟨true,gr x l ys D x.orders.length 0 zSt (List.replicate x.orders.length (-1)),Lx x ys D zSt⟩):=by
 have hz:=Pm x l;have hb:=Bd hc hD x.orders.length 0 zSt _ _ 0 Za hz hz KE.refl;obtain ⟨s',hg⟩:=Ln hc (D:=D) x.orders.length 0 zSt _ Za hz
 constructor
 ·intro h
  have:B7 x l x.orders.length (List.replicate x.orders.length (-1)) 0= []:=by
   cases e:B7 x l x.orders.length (List.replicate x.orders.length (-1)) 0 with
   | nil=>rfl
   | cons q L=>grind
  rw [Fl,this];rfl
 ·intro h;have hin:=O0 hc hD x.orders.length 0 zSt _ 0 Za hz h;rw [Int.zero_add] at hin;refine GR (.inl rfl) (fun q hq=> ?_) hin;obtain ⟨_,h2,h3⟩:=hb q hq;rw [Int.zero_add] at h2 h3;exact ⟨h2,fun e=>sE hg.RngA (KY _ hz.RngA q hq) (h3 e)⟩
theorem PA {l:List Col} {g:List Int} {T n:Nat} (hdv: ∀i,i<n->0<=nth g i->((nth l (nth g i).toNat).set%(pw i:Nat)=0↔Ad (nth l (nth g i).toNat).set.toNat=(i:Int))): ∀k,k<=n->(Pz l g T k).Pairwise fun a b=>kS a b<0
 | 0,_=> .nil
 | k+1,hk=>by
  rw [Pz,Dw];refine ⟨PA hdv k Za,by split<;>simp,fun a ha b hb=> ?_⟩
  split at hb
  ·rename_i hh
   obtain rfl:b=nth l (nth g k).toNat:=by grind
   obtain ⟨i,h1,h2,h3,h4,rfl⟩:=(K7 _).1 ha;rw [Q9,h3,hh.2.1]
   right
   refine ⟨rfl,?_⟩
   show Ad _<Ad _
   grind
  ·simp at hb
theorem PB {l:List Col} {g:List Int} {n:Nat} (hdv: ∀i,i<n->0<=nth g i->((nth l (nth g i).toNat).set%(pw i:Nat)=0↔Ad (nth l (nth g i).toNat).set.toNat=(i:Int))): ∀T,(Ip l g n T).Pairwise fun a b=>kS a b<0
 | 0=> .nil
 | T+1=>by
  rw [Ip,Dw];refine ⟨PB hdv T,PA hdv n (ZL _),fun a ha b hb=> ?_⟩;obtain ⟨t,h1,h2⟩:=(H6 _).1 ha;obtain ⟨i,_,_,h3,_,rfl⟩:=(K7 _).1 h2;obtain ⟨j,_,_,h5,_,rfl⟩:=(K7 _).1 hb
  simp_all [Q9]
theorem SK {x:Inst} {l ys:List Col} (hc:Ctx x l ys) {g:List Int} {s:St} (hg:Nd x l g s x.orders.length) {zs:List Col} (hp:zs.Perm (RA l g x.orders.length 0)) (ha:zs.Pairwise fun a b=> ¬kS b a<0):zs=Ip l g x.orders.length x.types.length:=by
 have hn:=hc.n4;have hin: ∀i,i<x.orders.length->0<=nth g i->nth l (nth g i).toNat∈l:=fun i hi h0=>ZV (by have:=hg.rng i hi;omega)
 have hdv: ∀i,i<x.orders.length->0<=nth g i->((nth l (nth g i).toNat).set%(pw i:Nat)=0↔Ad (nth l (nth g i).toNat).set.toNat=(i:Int)):=fun i hi h0=>by
  obtain ⟨e,s0,s1,_⟩:=hc.set (hin i hi h0);have h16:(nth l (nth g i).toNat).set.toNat<16:=Qn s1 (Yi (n:=2) Za hn);have:=Zbs ⟨_,h16⟩ s0 ⟨i,Za⟩ (hg.own i hi h0)
  grind
 have hne:zs.Pairwise fun a b=>lo a≠lo b:=by
  have h1:(RA l g x.orders.length 0).Pairwise fun a b=>lo a≠lo b:=(Tv _ _).imp fun {a b} h e=>by
   have e':Ad a.set.toNat=Ad b.set.toNat:=e;omega
  exact (hp.pairwise_iff fun h e=>h e.symm).2 h1
 have hz:zs.Pairwise fun a b=>kS a b<0:=(hne.and ha).imp fun {a b} h=>by
  have h1:=h.1;have h2:=h.2;rw [Q9] at h2 ⊢;omega
 refine E1 (r:=fun a b=>kS a b<0) (fun a=>by rw [Q9];omega) (fun a b=>by rw [Q9,Q9];omega) hz (PB hdv _) fun c=> ?_;rw [hp.mem_iff,GZ,H6]
 constructor
 ·rintro ⟨i,_,h1,h2,h3,rfl⟩;have ht:=(hc.typ (hin i Za h2)).1;exact ⟨(nth l (nth g i).toNat).typ.toNat,Za,(K7 _).2 ⟨i,Za,h2,Za,(hdv i Za h2).2 h3,rfl⟩⟩
 ·rintro ⟨t,_,h⟩;obtain ⟨i,h1,h2,h3,h4,rfl⟩:=(K7 _).1 h
  grind
theorem IP {x:Inst} {ys:List Col} {D:Nat} (hD:D=20):HJ x ys=Lx x ys D zSt:=by subst hD;rfl
theorem Zhz {x:Inst} {l:List Col} {a e e':Int} {b:Chc} (hx:InstOk x) (hn:x.orders.length<=4) (hs: ∀c∈l,c.set<9223372036854775808) (h:Zlz x l a e) (h':Tq x l b e'):a=b.price/\e=e':=by
 rcases h with ⟨g1,rfl,rfl⟩ | ⟨g1,⟨c,gc,g2⟩,rfl,rfl⟩ | ⟨g1,g2,ys,g3,rfl,rfl⟩<;>rcases h' with ⟨k1,rfl,rfl⟩ | ⟨k1,⟨c',kc,k2⟩,rfl,rfl⟩ | ⟨k1,k2,k3⟩
 ·exact ⟨rfl,rfl⟩
 ·omega
 ·omega
 ·omega
 ·exact ⟨rfl,rfl⟩
 ·grind
 ·omega
 ·grind
 ·obtain ⟨D,hD⟩: ∃D:Nat,D=20:=⟨20,rfl⟩;rw [IP hD];obtain ⟨q1,q2⟩:=Oo (aV hx hn g3 g2 hs) (D:=D) Za;rcases k3 with ⟨f,rfl,rfl⟩ | ⟨f,rfl,rfl⟩
  ·have:Lx x ys D zSt<0:=Int.not_le.1 fun h0=>by grind
   rw [if_pos this,if_pos this];exact ⟨rfl,rfl⟩
  grind
theorem IX {x:Inst} {l:List Col} {p q:Pln} {c e c' e':Int} (hx:InstOk x) (hn:x.orders.length<=4) (hs: ∀c∈l,c.set<9223372036854775808) (h:ChoR x l p c e) (h':P1 x l q c' e'):c=c'/\e=e'/\p.routes=q.routes/\p.unserved=q.unserved/\p.routes.length<=24/\p.unserved.length<=24/\ ∀r∈p.routes,∃c∈l,r=c.route:=by
 obtain ⟨b,hb,h1,h2⟩:=h';have z:zPlC.routes.length<=24/\zPlC.unserved.length<=24/\ ∀r∈zPlC.routes,∃c∈l,r=c.route:=⟨by simp [zPlC],by simp [zPlC],fun r hr=>by simp [zPlC] at hr⟩;rcases h with ⟨g1,rfl,rfl,rfl⟩ | ⟨g1,⟨c,gc,g2⟩,rfl,rfl,rfl⟩ | ⟨g1,g2,ys,g3,g4,g5⟩<;>rcases hb with ⟨k1,rfl,rfl⟩ | ⟨k1,⟨c',kc,k2⟩,rfl,rfl⟩ | ⟨k1,k2,k3⟩
 ·grind
 ·omega
 ·omega
 ·omega
 ·grind
 ·grind
 ·omega
 ·grind
 ·obtain ⟨D,hD⟩: ∃D:Nat,D=20:=⟨20,rfl⟩;have hc:=aV hx hn g3 g2 hs;obtain ⟨q1,q2⟩:=Oo hc (D:=D) Za;rw [IP hD] at g5;rcases g5 with ⟨g6,rfl,rfl,rfl⟩ | ⟨g6,rfl,rfl,zs,hp,ha,rfl⟩
  ·grind
  ·rcases k3 with ⟨f,rfl,rfl⟩ | ⟨f,rfl,rfl⟩
   ·grind
   ·obtain ⟨rfl,rfl⟩:=h2 rfl;have hz:=Pm x l;have hpk:=DA hc hD x.orders.length 0 zSt _ 20 Za Za hz;obtain ⟨s',hg⟩:=Ln hc (D:=D) x.orders.length 0 zSt _ Za hz;rw [q2 g6];simp only [mI] at hpk;rw [hpk] at hp ⊢;simp only at hp ⊢;have hzs:=SK hc hg hp ha;rw [hg.len,Tx,hzs];have l1:=H5 (l:=l) (g:=gr x l ys D x.orders.length 0 zSt (List.replicate x.orders.length (-1))) (n:=x.orders.length) x.types.length;have l2:=Ig (x:=x) (g:=gr x l ys D x.orders.length 0 zSt (List.replicate x.orders.length (-1))) x.orders.length
    have l3:x.types.length*x.orders.length<=6*4:=Br hc.t6 hn;refine ⟨trivial,trivial,rfl,rfl,by grind,Za,fun r hr=> ?_⟩;obtain ⟨c,hcm,rfl⟩:=Xz.1 hr;rw [<- hzs,hp.mem_iff,GZ] at hcm;obtain ⟨i,_,i1,i2,_,rfl⟩:=hcm;exact ⟨_,ZV (by have:=hg.rng i Za;omega),rfl⟩
theorem CJ {g:FuncId} {args:List V} {R:Pln->Int->Int->Prop} {H:List AM.Obj} {K:V->List AM.Obj->Prop} (h:ACalls Tryz.prog g args [] fun y H'=> ∃p c e,R p c e/\y= .tup [.p (W2 p),.p (.int .i64 c),.p (.int .i64 e)]/\H'= []) (k: ∀p c e,R p c e->K (.tup [.p (W2 p),.p (.int .i64 c),.p (.int .i64 e)]) H) (ha:Xb 0 args=true:=by rfl):ACalls Tryz.prog g args H K :=
 (h.behind ha H).mono fun x H' hq=>by
  obtain ⟨y,H1,⟨p,c,e,hr,rfl,rfl⟩,rfl,rfl⟩:=hq
  grind [shV,shVs]
theorem GO {ok:List Vis->Bool} {col:List Vis->Col} {better:Col->Col->Bool} : ∀(L:List (List Vis)) (b:Col×Bool),(L.foldl (XQ ok col better) b).2=true->(b.2=true/\(L.foldl (XQ ok col better) b).1=b.1)\/ ∃m∈L,ok m=true/\(L.foldl (XQ ok col better) b).1=col m
 | [],b,h=> .inl ⟨h,rfl⟩
 | l::L,b,h=>by
  rw [XF] at h ⊢;rcases GO L _ h with ⟨h1,h2⟩ | ⟨m,h1,h2,h3⟩
  ·rw [h2];unfold XQ at h1 ⊢
   grind
  grind
theorem Ru {x:Inst} {k:Int} {S:Nat} (h:(Ur x k S).2=0): ∃m,m∈Pg x k S (WS x S) [] (st0 (nth x.types k.toNat))/\HQ x k m=true/\(Ur x k S).1=YM x k S m:=by
 unfold Ur at h ⊢
 split at h
 ·rename_i hc;rw [if_pos hc];rcases GO _ _ hc.2 with ⟨h1,_⟩ | ⟨m,h1,h2,h3⟩
  ·cases h1
  ·exact ⟨m,h1,h2,h3⟩
 ·cases h
theorem LZ {one:Nat->List Col} {c:Col} : ∀q,c∈AL one q↔ ∃S,1<=S/\S<=q/\c∈one S
 | 0=>by simp [AL];omega
 | q+1=>by
  rw [AL,Xy,LZ q]
  grind
theorem Iy {one:Nat->Nat->List Col} {N:Nat} {c:Col} : ∀K,c∈VG one N K↔ ∃k S,k<K/\1<=S/\S<=N/\c∈one k S
 | 0=>by simp [VG]
 | K+1=>by
  rw [VG,Xy,Iy K,LZ]
  grind
noncomputable def allL (x:Inst):List Col:=VG (Vd x) (2^x.orders.length-1) x.types.length
theorem TO {x:Inst} {c:Col} :c∈allL x↔ ∃k S,k<x.types.length/\0<S/\S<2^x.orders.length/\(Ur x (k:Int) S).2=0/\c=(Ur x (k:Int) S).1:=by
 have hp1:1<=2^x.orders.length:=Nat.one_le_two_pow;rw [allL,Iy]
 constructor
 ·grind [Vd]
 ·rintro ⟨k,S,h1,h2,h3,h4,h5⟩;exact ⟨k,S,h1,Za,Za,by simp_all [Vd]⟩
theorem TN {x:Inst} {c:Col} (h:c∈allL x): ∃(k S:Nat) (m:List Vis),k<x.types.length/\0<S/\S<2^x.orders.length/\m.length=WS x S/\HQ x k m=true/\c=YM x k S m:=by
 obtain ⟨k,S,h1,h2,h3,h4,rfl⟩:=TO.1 h;obtain ⟨m,m1,m2,m3⟩:=Ru h4;exact ⟨k,S,m,h1,h2,h3,by have:=HK _ _ _ m m1;grind,m2,m3⟩
theorem Dk {x:Inst} (hn:x.orders.length<=4) (h6:x.types.length<=6):(allL x).length<=96/\ ∀c∈allL x,c.set<9223372036854775808/\FA c.route:=by
 have hp2:2^x.orders.length<=2^4:=Yi Za hn;refine ⟨?_,fun c hc=> ?_⟩
 ·have h1:=AW (N:=2^x.orders.length-1) (Kk (x:=x)) x.types.length;have h2:x.types.length*(2^x.orders.length-1)<=6*16:=Br Za Za;unfold allL;omega
 ·obtain ⟨k,S,m,_,_,h3,h4,_,rfl⟩:=TN hc;have:=BX x S x.orders.length;unfold WS at h4;exact ⟨by grind [YM],by grind [YM,Fg],by simp [YM,Fg]⟩
theorem PH (x:Inst) (hx:InstOk x) (hn:x.orders.length<=4) (h6:x.types.length<=6) (hbl:x.before.length<=1048576) (hal:x.apart.length<=1048576) :
  ACalls Tryz.prog 37 [.p (Zs x)] [] fun y H'=> ∃p c e,ChoR x (allL x) p c e/\y= .tup [.p (W2 p),.p (.int .i64 c),.p (.int .i64 e)]/\H'= []:=by
 obtain ⟨hl,hc⟩:=Dk hn h6;have ca:=Zjt x hx hn h6 hbl hal;have cc:=Sq x (allL x) false hx hn Za (fun c h=>(hc c h).1) Za;rw [show VG (Vd x) (2^x.orders.length-1) x.types.length=allL x from rfl] at ca;generalize allL x=L at ca cc ⊢;refine Ze [] Tryz.func37 rfl ZgY ?_;simp (disch:=omega) only [Tryz.f37,go_sem,seval];refine Qv ca (Yv ?_);refine CJ cc fun p c e hR=>Yv ?_;exact ⟨.tup [.p (W2 p),.p (.int .i64 c),.p (.int .i64 e)],[],wk,p,c,e,hR,rfl,rfl⟩
theorem GJ (x:Inst) (hx:InstOk x) (hn:x.orders.length<=4) (h6:x.types.length<=6) (hbl:x.before.length<=1048576)
  (hsk: ∀k,k<x.orders.length->(nth x.orders k).off=false->0<=(nth x.orders k).penalty->0<=skR x k/\skR x k<=18014398509481984) (hus: ∀i,scoR 1152921504606846976 (unsF x i).1) :
  ACalls Tryz.prog 40 [.p (Zs x)] [] fun y H'=> ∃p c e,P1 x (allL x) p c e/\y= .tup [.p (W2 p),.p (.int .i64 c),.p (.int .i64 e)]/\H'= []:=by
 obtain ⟨hl,hc⟩:=Dk hn h6;have ca:=jI x hx hn h6 hbl;have cc:=IY x (allL x) false hn h6 Za (fun c h=>(hc c h).1) hsk hus;rw [show VG (Vd x) (2^x.orders.length-1) x.types.length=allL x from rfl] at ca;generalize allL x=L at ca cc ⊢;refine Ze [] Tryz.func40 rfl Zg1 ?_;simp (disch:=omega) only [Tryz.f40,go_sem,seval];refine Qv ca (Yv ?_);refine CJ cc fun p c e hR=>Yv ?_;exact ⟨.tup [.p (W2 p),.p (.int .i64 c),.p (.int .i64 e)],[],wk,p,c,e,hR,rfl,rfl⟩
theorem Mo {x:Inst} (hx:InstOk x):(∀k,k<x.orders.length->(nth x.orders k).off=false->0<=(nth x.orders k).penalty->0<=skR x k/\skR x k<=18014398509481984)/\ ∀i,scoR 1152921504606846976 (unsF x i).1 :=
 ⟨fun k hk hof hp=>by
  obtain ⟨s1,s2⟩:=sA hx hk hof;have:=Mp hx k
  omega,fun i=>K8 Za (MA hx i)⟩
def dayI (ds:List Inst) (P:List Pln) (X:List Inst) (j:Nat):Inst:=if j=0 then iZ (nth ds 0) else RG (nth ds j) (nth X (j-1)) (nth P (j-1))
def dayE (ds:List Inst) (P:List Pln) (X:List Inst) (j:Nat):Int:=if j=0 then 0 else I1 (nth ds j) (nth X (j-1)) (nth P (j-1))
structure WkS (ds:List Inst) (P:List Pln) (X:List Inst) (k:Nat):Prop where
 pl:P.length=k
 xl:X.length=k
 st: ∀j,j<k->nth X j=dayI ds P X j/\dayE ds P X j=0/\ ∃c,ChoR (nth X j) (allL (nth X j)) (nth P j) c 0
def Iq (ds:List Inst) (P:List Pln) (X:List Inst) (e:Int):Prop :=
 ∃P' X' k,WkS ds P' X' k/\k<=ds.length/\((k=ds.length/\e=0/\P=P'/\X=X')\/(k<ds.length/\e≠0/\P= []/\X= [] /\
  ((dayE ds P' X' k=e)\/(dayE ds P' X' k=0/\ ∃p c,ChoR (dayI ds P' X' k) (allL (dayI ds P' X' k)) p c e))))
def P2 (x:Inst):Prop:=C6 x 2/\x.wf 1048576
theorem Bx {α:Type} [Inhabited α] {a b:List α} {j:Nat} (h:j<a.length):nth (a++b) j=nth a j:=by
 grind [Zi]
theorem LL {α:Type} [Inhabited α] {a:List α} {x:α} :nth (a++ [x]) a.length=x:=by
 grind [Zi]
theorem aW {ds:List Inst} {P:List Pln} {X:List Inst} {j:Nat} {p:Pln} {x:Inst} (h1:j<=P.length) (h2:j<=X.length):dayI ds (P++ [p]) (X++ [x]) j=dayI ds P X j/\dayE ds (P++ [p]) (X++ [x]) j=dayE ds P X j:=by
 unfold dayI dayE
 by_cases h:j=0
 ·simp [h]
 ·rw [if_neg h,if_neg h,if_neg h,if_neg h,Bx Za,Bx Za];simp
theorem WkS.zero {ds:List Inst} :WkS ds [] [] 0:=⟨rfl,rfl,fun j h=>Za⟩
theorem WkS.snoc {ds:List Inst} {P:List Pln} {X:List Inst} {k:Nat} (h:WkS ds P X k) {p:Pln} {c:Int} (he:dayE ds P X k=0) (hp:ChoR (dayI ds P X k) (allL (dayI ds P X k)) p c 0):WkS ds (P++ [p]) (X++ [dayI ds P X k]) (k+1):=by
 obtain ⟨rfl,h2,h3⟩:=h;refine ⟨Zb,by simp [h2],fun j hj=> ?_⟩;obtain ⟨e1,e2⟩:=aW (ds:=ds) (P:=P) (X:=X) (p:=p) (x:=dayI ds P X P.length) (show j<=P.length by omega) (show j<=X.length by omega);rw [e1,e2]
 by_cases hjk:j<P.length
 ·rw [Bx hjk,Bx Za]
  grind
 ·have:j=P.length:=Za
  subst this;have n1:nth (P++ [p]) P.length=p:=LL
  have n2:nth (X++ [dayI ds P X P.length]) P.length=dayI ds P X P.length:=by rw [<- h2];exact LL
  grind
theorem J2 {ds:List Inst} {P:List Pln} {X:List Inst} {j:Nat} :(dayI ds P X j).orders.length=(nth ds j).orders.length/\(dayI ds P X j).types=(nth ds j).types/\(dayI ds P X j).apart=(nth ds j).apart/\(dayI ds P X j).before=(nth ds j).before:=by
 unfold dayI
 by_cases h:j=0
 ·subst h;exact ⟨YV,rfl,rfl,rfl⟩
 ·rw [if_neg h];exact ⟨YV,rfl,rfl,rfl⟩
theorem OK {ds:List Inst} {P:List Pln} {X:List Inst} {k:Nat} (hk:k<ds.length) (hD: ∀x∈ds,P2 x) (h: ∀i,i<k->nth X i=dayI ds P X i) (he:dayE ds P X k=0):InstOk (dayI ds P X k)/\(dayI ds P X k).wf 1048576:=by
 have hd:=hD _ (Zq hk)
 by_cases h0:k=0
 ·subst h0;rw [dayI,if_pos rfl];exact ⟨uZ hd.1.2.2.2.2.2.2,vA hd.2 (by have:=hd.1.2.1;omega)⟩
 ·have hd1:=hD _ (Zq (show k-1<ds.length by omega))
  have ht:(nth X (k-1)).types.length=(nth ds (k-1)).types.length:=by grind [J2]
  rw [dayE,if_neg h0] at he;rw [dayI,if_neg h0]
  have hz:Vl (nth X (k-1)) (nth P (k-1))=0:=by grind [I1]
  exact ⟨aR hd.1.2.2.2.2.2.2 he,aS hd.2 hz (by have:=hd1.1.2.1;omega)⟩
theorem kX (x:Inst) (l:List Col): ∃q c e,P1 x l q c e:=by
 suffices h: ∃b e,Tq x l b e by
  obtain ⟨b,e,h⟩:=h
  by_cases he:e=0
  ·exact ⟨_,_,e,b,h,fun h=>absurd he h,fun _=>⟨rfl,rfl⟩⟩
  ·exact ⟨_,_,e,b,h,fun _=>⟨rfl,rfl⟩,fun h=>absurd h he⟩
 unfold Tq
 by_cases h1:8192<l.length
 ·grind
 ·by_cases h2: ∃c∈l,rightB x c=false
  ·exact ⟨_,_,.inr (.inl ⟨Za,h2,rfl,rfl⟩)⟩
  ·have h3: ∀c∈l,rightB x c=true:=fun c hc=>by
    grind
   cases hf:(Fl x l).found with
   | false=>exact ⟨_,_,.inr (.inr ⟨Za,h3,.inl ⟨rfl,rfl,rfl⟩⟩)⟩
   | true=>exact ⟨_,_,.inr (.inr ⟨Za,h3,.inr ⟨rfl,rfl,rfl⟩⟩)⟩
theorem uK {x:Inst} {p:Pln} {c e:Int} (hx:InstOk x) (hn:x.orders.length<=4) (h6:x.types.length<=6) (h:ChoR x (allL x) p c e):p.routes.length<=24/\p.unserved.length<=24/\ ∀r∈p.routes,FA r:=by
 obtain ⟨q,c',e',h'⟩:=kX x (allL x);obtain ⟨_,hc⟩:=Dk hn h6;obtain ⟨_,_,_,_,r3,r4,r5⟩:=IX hx hn (fun c h=>(hc c h).1) h h'
 grind
theorem Rz {x:Inst} {l:List Col} {p:Pln} {c:Int} (h:ChoR x l p c 0):p.routes_c=false/\p.unserved_c=false:=by
 rcases h with ⟨_,_,_,h⟩ | ⟨_,_,_,_,h⟩ | ⟨_,_,ys,_,_,⟨_,_,_,h⟩ | ⟨_,_,_,zs,_,_,rfl⟩⟩
 ·cases h
 ·cases h
 ·cases h
 simp
theorem aF {x:Inst} {p q:Pln} {c c' e e':Int} (hx:InstOk x) (hn:x.orders.length<=4) (h6:x.types.length<=6) (h:ChoR x (allL x) p c e) (h':P1 x (allL x) q c' e'):e'=e/\(e=0->q=p):=by
 obtain ⟨_,hc⟩:=Dk hn h6;obtain ⟨_,rfl,r1,r2,_⟩:=IX hx hn (fun c h=>(hc c h).1) h h';refine ⟨rfl,fun he=> ?_⟩;subst he;obtain ⟨f1,f2⟩:=Rz h;obtain ⟨b,_,_,h2⟩:=h';obtain ⟨_,rfl⟩:=h2 rfl;obtain ⟨pc,pr,uc,pu⟩:=p
 grind
theorem WkS.facts {ds:List Inst} {P:List Pln} {X:List Inst} {k:Nat} (h:WkS ds P X k) (hD: ∀x∈ds,P2 x) (hk:k<=ds.length) {j:Nat} (hj:j<k):InstOk (nth X j)/\(nth X j).wf 1048576/\(nth X j).orders.length<=2/\(nth X j).types.length<=2 /\
  (nth P j).routes.length<=24/\(nth P j).unserved.length<=24/\ ∀r∈(nth P j).routes,FA r:=by
 obtain ⟨e1,e2,c,e3⟩:=h.st j hj;have hd:=hD _ (Zq (show j<ds.length by omega));have hok:=OK (show j<ds.length by omega) hD (fun i hi=>(h.st i Za).1) e2;obtain ⟨l1,l2,_,_⟩:=J2 (ds:=ds) (P:=P) (X:=X) (j:=j);rw [<- e1] at hok l1 l2
 have o2:(nth X j).orders.length<=2:=by rw [l1];have:=hd.1.1;omega
 have t2:(nth X j).types.length<=2:=by rw [l2];exact hd.1.2.1
 exact ⟨hok.1,hok.2,o2,t2,uK hok.1 Za Za e3⟩
theorem WkS.next {ds:List Inst} {P:List Pln} {X:List Inst} {k m:Nat} (h:WkS ds P X m) (hD: ∀x∈ds,P2 x) (hm:k<=m) (hk:k<ds.length) (he:dayE ds P X k=0):InstOk (dayI ds P X k)/\(dayI ds P X k).wf 1048576/\(dayI ds P X k).orders.length<=2/\(dayI ds P X k).types.length<=2:=by
 have hd:=hD _ (Zq hk);have hok:=OK hk hD (fun i hi=>(h.st i Za).1) he;obtain ⟨l1,l2,_,_⟩:=J2 (ds:=ds) (P:=P) (X:=X) (j:=k);exact ⟨hok.1,hok.2,by rw [l1];have:=hd.1.1;omega,by rw [l2];exact hd.1.2.1⟩
theorem bY (x:Inst) (ho:x.orders.length<=1048576):PC 35 [.p (Zs x)] (Zs (iZ x)) :=
 ACalls.read ((OY x ho).mono fun y H' h=>by
  obtain ⟨rfl,rfl⟩:=h;simp [rd,rds,rd1,Fw,oat,iZ,Zs,YV]
  grind [Kb,YV])
def EE (P:List Pln) (X:List Inst) (e:Int):V:= .tup [.p (.list (decide (e≠0)) (P.map W2)),.p (.list (decide (e≠0)) (X.map Zs)),.p (.int .i64 e)]
theorem fD (ds:List Inst) (c:Bool) (hl:ds.length<=3) (hD: ∀x∈ds,P2 x) :
  ACalls Tryz.prog 11 [.p (.list c (ds.map Zs))] [] fun y H'=> ∃P X e,Iq ds P X e/\y=EE P X e/\H'= []:=by
 refine Ze [5] Tryz.func11 rfl ZgR ?_;simp (disch:=omega) only [Tryz.f11,go_sem,seval];refine cD ?_ ?_<;>intro h0<;>simp (disch:=omega) only [Sh.out h0,go_sem,seval]
 ·omega
 refine Zp (Weak.ofNil 5 2 (by simp (disch:=omega) only [go_sem,seval]) Zb (Weak.ofNil 6 6 (by simp (disch:=omega) only [go_sem,seval]) Zb (Weak.refl _ _ _))) ?_;refine Zf [20] _ _ _ _ (Yv ?_);refine ZS [20] [18,19] (fun q:Nat×List Pln×List Inst=> [(5,.sl 0 0 q.2.1.length q.2.1.length),(6,.sl 1 0 q.2.2.length q.2.2.length),(20,.p (.int .i64 q.1))]) (fun q=> [.elems 2 (q.2.1.map W2),.elems 6 (q.2.2.map Zs)]) (fun q=>WkS ds q.2.1 q.2.2 q.1/\q.1<=ds.length) (fun q=>ds.length-q.1) (0,[],[]) ⟨WkS.zero,Zb⟩ (Weak.mk ?_) ?_
 ·simp (disch:=omega) only [Zk,go_sem,seval]
 ·rintro ⟨k,P,X⟩ ⟨hw,hk⟩;simp only at hw hk;have hpl:=hw.pl;have hxl:=hw.xl;refine Yv ?_;refine cD ?_ ?_<;>intro h1<;>simp (disch:=omega) only [Sh.out h1,go_sem,seval,↓reduceIte]
  ·have hk2:k<ds.length:=Za
   have hd:=(hD _ (Zq hk2)).1;have hd1:=hd.1;have hd2:=hd.2.1;have hd5:=hd.2.2.2.2.1;have hd6:=hd.2.2.2.2.2.1;obtain ⟨_,l2,l3,l4⟩:=J2 (ds:=ds) (P:=P) (X:=X) (j:=k);have cf:=bY (nth ds k) Za;generalize hY0:iZ (nth ds k)=Y0 at cf;refine (cf).use (Yv ?_);refine cD ?_ ?_<;>intro h2<;>simp (disch:=omega) only [Sh.out h2,go_sem,seval,↓reduceIte]
   ·have hb:=hw.facts hD hk (show k-1<k by omega);have cc:=kR (nth ds k) (nth X (k-1)) (nth P (k-1)) Za Za Za Za Za (fun r hr=>(hb.2.2.2.2.2.2 r hr).1)
    have hix:((k:Int)-1).toNat=k-1:=Za
    have hlt:k-1<k:=Za
    have heX:UW (X.map Zs) (k-1)=Zs (nth X (k-1)):=Yx Za;have heP:UW (P.map W2) (k-1)=W2 (nth P (k-1)):=Yx Za
    have hdE:dayE ds P X k=I1 (nth ds k) (nth X (k-1)) (nth P (k-1)):=by rw [dayE,if_neg Za]
    have hdI:dayI ds P X k=RG (nth ds k) (nth X (k-1)) (nth P (k-1)):=by rw [dayI,if_neg Za]
    by_cases hz:dayE ds P X k=0
    ·obtain ⟨n1,n2,n3,n4⟩:=hw.next hD (ZL _) hk2 hz;have hs:=fun p c (h:ChoR (dayI ds P X k) (allL (dayI ds P X k)) p c 0)=>hw.snoc hz h;have hf: ∀p c e,e≠0->ChoR (dayI ds P X k) (allL (dayI ds P X k)) p c e->Iq ds [] [] e:=fun p c e he h=>⟨P,X,k,hw,hk,.inr ⟨hk2,he,rfl,rfl,.inr ⟨hz,p,c,h⟩⟩⟩;rw [Th,<- hdE,if_pos hz,hz,<- hdI] at cc;generalize dayI ds P X k=Y at cc n1 n2 n3 n4 hs hf l2 l3 l4;have hsv:=PH Y n1 Za Za (by grind) (by grind);refine Xc [15,16] 17 mixed Zd Zd Zd Zb ?_
     simp (disch:=first | omega | (simp only [Zz,ZQ,Zm,Zu,Zy,ZK]<;>omega)) only [hix,heX,heP,hxl,hpl,hlt,eq_self,go_sem,seval,↓reduceIte];refine WW cc (Yv ?_);refine ZU 15 _ _ Zd (by refine Yv ?_;exact ⟨rfl,rfl⟩) ?_;refine Yv ?_;refine ZU 16 _ _ Zd (by refine Yv ?_;exact ⟨rfl,rfl⟩) (Yg ?_);refine Yv ?_;refine CJ hsv fun p c e hP=>Yv ?_;refine cD ?_ ?_<;>intro h4<;>simp (disch:=omega) only [Sh.out h4,go_sem,seval,↓reduceIte]
     ·exact ⟨_,_,Weak.mk (by simp (disch:=omega) only [EE,Zk,Wv h4,go_sem,seval]),[],[],e,hf p c e h4 hP,rfl,rfl⟩
     ·have he:e=0:=Za
      subst he
      have hc1:(k+1)*48<=140737488355328:=Za
      have hc2:k<=140737488355327:=Za
      have hc3:(k+1)*144<=140737488355328:=Za
      simp (disch:=first | omega | (simp only [Zz,ZQ,Zm,Zu,Zy,ZK]<;>omega)) only [hpl,hxl,eq_self,hc1,hc2,hc3,and_self,go_sem,seval];exact ⟨(k+1,P++ [p],X++ [Y]),⟨hs p c hP,Za⟩,Za,Weak.mk (by simp (disch:=first | omega | (simp only [Zz,ZQ,Zm,Zu,Zy,ZK]<;>omega)) only [Xi,ZN,Zk,hxl,hpl,go_sem,seval])⟩
    ·have hf:Iq ds [] [] (dayE ds P X k):=⟨P,X,k,hw,hk,.inr ⟨hk2,hz,rfl,rfl,.inl rfl⟩⟩;rw [Th,<- hdE,if_neg hz] at cc;generalize dayE ds P X k=E at cc hz hf;refine Xc [15,16] 17 mixed Zd Zd Zd Zb ?_;simp (disch:=first | omega | (simp only [Zz,ZQ,Zm,Zu,Zy,ZK]<;>omega)) only [hix,heX,heP,hxl,hpl,hlt,eq_self,go_sem,seval,↓reduceIte];refine WW cc (Yv ?_);refine ZU 15 _ _ Zd (by refine Yv ?_;exact ⟨rfl,rfl⟩) ?_
     refine Yv ?_;refine ZU 16 _ _ Zd (by refine Yv ?_;exact ⟨rfl,rfl⟩) (Yg ?_);refine Yv ?_;refine cD ?_ ?_<;>intro h4<;>simp (disch:=omega) only [Sh.out h4,go_sem,seval,↓reduceIte]
     ·exact ⟨_,_,Weak.mk (by simp (disch:=omega) only [EE,Zk,Wv h4,go_sem,seval]),[],[],E,hf,rfl,rfl⟩
     ·omega
   ·have hk0:k=0:=Za
    subst hk0
    have hz:dayE ds P X 0=0:=by rfl
    have hdI:dayI ds P X 0=Y0:=by rw [dayI,if_pos rfl,hY0]
    obtain ⟨n1,n2,n3,n4⟩:=hw.next hD (ZL _) hk2 hz;have hs:=fun p c (h:ChoR (dayI ds P X 0) (allL (dayI ds P X 0)) p c 0)=>hw.snoc hz h;have hf: ∀p c e,e≠0->ChoR (dayI ds P X 0) (allL (dayI ds P X 0)) p c e->Iq ds [] [] e:=fun p c e he h=>⟨P,X,0,hw,hk,.inr ⟨hk2,he,rfl,rfl,.inr ⟨hz,p,c,h⟩⟩⟩;rw [hdI] at n1 n2 n3 n4 hs hf l2 l3 l4;refine CJ (PH Y0 n1 Za Za (by grind) (by grind)) fun p c e hP=>Yv ?_;refine ZH ?_ ?_<;>intro h4
    ·exact ⟨_,_,Weak.mk (by simp (disch:=omega) only [EE,Zk,Wv h4,go_sem,seval]),[],[],e,hf p c e h4 hP,rfl,rfl⟩
    ·have he:e=0:=Za
     subst he;exact ⟨(1,P++ [p],X++ [Y0]),⟨hs p c hP,Za⟩,Za,Weak.mk (by simp (disch:=first | omega | (simp only [Zz,ZQ,Zm,Zu,Zy,ZK]<;>omega)) only [Xi,ZN,Zk,hxl,hpl,go_sem,seval])⟩
  ·have hkl:k=ds.length:=Za
   refine Zp (Weak.fz (o:=0) (by rfl)) ?_;refine Zp (Weak.fz (o:=1) (by rfl)) ?_;refine Zf [] _ _ _ _ ?_;simp (disch:=omega) only [ZN,Zk,X2,Xj,hxl,hpl,eq_self,go_sem,seval];exact ⟨_,_,Weak.mk (by simp (disch:=omega) only [EE,go_sem,seval]),P,X,0,⟨P,X,k,hw,hk,.inl ⟨hkl,rfl,rfl,rfl⟩⟩,rfl,rfl⟩
theorem N1 (x:Inst) (ho:x.orders.length<=1048576):PC 38 [.p (Zs x)] (Zs (iZ x)):=by
 refine Ze [2,8] Tryz.func38 rfl ZgZ ?_;simp (disch:=omega) only [Tryz.f38,go_sem,seval];refine Zp (Weak.ofNil 3 16 (by simp (disch:=omega) only [go_sem,seval]) Zb (Weak.refl _ _ _)) ?_;refine Zf [8] _ _ _ _ (Yv ?_);refine ZS [8] [1,2] (fun q:Nat×List Ord=> [(3,.sl 2 0 q.2.length q.2.length),(4,.p (.int .i64 q.1))]) (fun q=> [Zg x,.cells (List.replicate 6 (.p (.list true []))),.elems 16 (q.2.map eOrd)]) (fun q=>q.1<=x.orders.length/\q.2=W3 (AC x) q.1) (fun q=>x.orders.length-q.1) (0,[]) ⟨Zb,by simp [W3]⟩ (Weak.mk ?_) ?_
 ·simp (disch:=omega) only [Zg,List.replicate,go_sem,seval]
 ·rintro ⟨k,m⟩ ⟨hk,hm⟩;simp only at hk hm
  have hml:m.length=k:=by rw [hm];exact YV
  simp (disch:=omega) only [Zg,List.replicate,go_sem,seval];refine ZH ?_ ?_<;>intro h2
  ·have hk2:k<x.orders.length:=Za
   have hsn:W3 (AC x) (k+1)=m++ [AC x k]:=by rw [GC,hm]
   exact ⟨(k+1,m++ [AC x k]),⟨Za,hsn.symm⟩,Za,Weak.mk (by simp (disch:=omega) only [AC,go_sem,seval])⟩
  ·have hkl:k=x.orders.length:=Za
   subst hkl;subst hm;refine Zp (Weak.fz (o:=2) (by rfl)) (Zf [] _ _ _ _ (Kw ?_));exact we (by simp (disch:=omega) only [iZ,go_sem,seval])
theorem Ab {α:Type} [Inhabited α] {l:List α} {k:Nat} (h:k<l.length):l.take (k+1)=l.take k++ [nth l k]:=by
 rw [ZE h,Zi h]
theorem SO (ds:List Inst) (c:Bool) (hl:ds.length<=3) (hD: ∀x∈ds,P2 x) (P:List Pln) (X:List Inst) (e:Int) (hR:Iq ds P X e) :
  ACalls Tryz.prog 12 [.p (.list c (ds.map Zs))] [] fun y H'=>y=EE P X e/\H'= []:=by
 obtain ⟨P',X',m,hw,hmn,hR⟩:=hR;have hpl:=hw.pl;have hxl:=hw.xl;refine Ze [5] Tryz.func12 rfl ZgS ?_;simp (disch:=omega) only [Tryz.f12,go_sem,seval];refine cD ?_ ?_<;>intro h0<;>simp (disch:=omega) only [Sh.out h0,go_sem,seval]
 ·omega
 refine Zp (Weak.ofNil 5 2 (by simp (disch:=omega) only [go_sem,seval]) Zb (Weak.ofNil 6 6 (by simp (disch:=omega) only [go_sem,seval]) Zb (Weak.refl _ _ _))) ?_;refine Zf [19] _ _ _ _ (Yv ?_);refine ZS [19] [0] (fun k:Nat=> [(5,.sl 0 0 k k),(6,.sl 1 0 k k),(7,.p (.int .i64 k))]) (fun k=> [.elems 2 ((P'.take k).map W2),.elems 6 ((X'.take k).map Zs)]) (fun k=>k<=m) (fun k=>ds.length-k) 0 Zb (Weak.mk ?_) ?_
 ·simp (disch:=omega) only [UF,Zk,go_sem,seval,↓reduceIte]
 ·intro k hk
  have hpk:(P'.take k).length=k:=by grind
  have hxk:(X'.take k).length=k:=by grind
  refine Yv ?_;refine cD ?_ ?_<;>intro h1<;>simp (disch:=omega) only [Sh.out h1,go_sem,seval,↓reduceIte]
  ·have hk2:k<ds.length:=Za
   have hd:=(hD _ (Zq hk2)).1;have hd1:=hd.1;have hd2:=hd.2.1;have hd6:=hd.2.2.2.2.2.1;obtain ⟨_,l2,_,l4⟩:=J2 (ds:=ds) (P:=P') (X:=X') (j:=k)
   -- what comes of this day
   have hout:(dayE ds P' X' k=0/\(∀q c f,P1 (dayI ds P' X' k) (allL (dayI ds P' X' k)) q c f->(f=0/\k<m/\q=nth P' k/\dayI ds P' X' k=nth X' k)\/(f≠0/\f=e/\P= []/\X= [])))\/(dayE ds P' X' k≠0/\dayE ds P' X' k=e/\P= []/\X= []):=by
    by_cases hkm:k<m
    ·obtain ⟨e1,e2,c1,e3⟩:=hw.st k hkm;have hf:=hw.facts hD hmn hkm;refine .inl ⟨e2,fun q c f hq=> .inl ?_⟩;rw [<- e1] at hq;obtain ⟨rfl,r2⟩:=aF hf.1 Za Za e3 hq
     grind
    ·have hkm2:k=m:=Za
     subst hkm2;rcases hR with ⟨h,_⟩ | ⟨_,he,rfl,rfl,h | ⟨hz,p,c1,h⟩⟩
     ·omega
     ·grind
     ·obtain ⟨n1,_,n3,n4⟩:=hw.next hD (ZL _) hk2 hz;refine .inl ⟨hz,fun q c f hq=> .inr ?_⟩;obtain ⟨rfl,_⟩:=aF n1 Za Za h hq
      grind
   have hn:=fun hz=>hw.next hD hk hk2 hz;have cf:=N1 (nth ds k) Za;generalize hY0:iZ (nth ds k)=Y0 at cf;refine (cf).use (Yv ?_);refine cD ?_ ?_<;>intro h2<;>simp (disch:=omega) only [Sh.out h2,go_sem,seval,↓reduceIte]
   ·have hb:=hw.facts hD hmn (show k-1<m by omega);have cc:=fO (nth ds k) (nth X' (k-1)) (nth P' (k-1)) Za Za Za Za Za (fun r hr=>(hb.2.2.2.2.2.2 r hr).1)
    have hix:((k:Int)-1).toNat=k-1:=Za
    have hlt:k-1<k:=Za
    have heX:UW ((X'.take k).map Zs) (k-1)=Zs (nth X' (k-1)):=by grind [Yx,LM]
    have heP:UW ((P'.take k).map W2) (k-1)=W2 (nth P' (k-1)):=by grind [Yx,LM]
    have hdE:dayE ds P' X' k=I1 (nth ds k) (nth X' (k-1)) (nth P' (k-1)):=by rw [dayE,if_neg Za]
    have hdI:dayI ds P' X' k=RG (nth ds k) (nth X' (k-1)) (nth P' (k-1)):=by rw [dayI,if_neg Za]
    rcases hout with ⟨hz,hout⟩ | ⟨hz,he,rfl,rfl⟩
    ·obtain ⟨n1,n2,n3,n4⟩:=hn hz;rw [Th,<- hdE,if_pos hz,hz,<- hdI] at cc;clear hn;generalize dayI ds P' X' k=Y at cc n1 n2 n3 n4 hout l2 l4;obtain ⟨hsk,hus⟩:=Mo n1;have hsv:=GJ Y n1 Za Za (by grind) hsk hus;refine Xc [18,19] 20 mixed Zd Zd Zd Zb ?_;simp (disch:=first | omega | (simp only [Zz,ZQ,Zm,Zu,Zy,ZK]<;>omega)) only [hix,heX,heP,hxk,hpk,hlt,eq_self,go_sem,seval,↓reduceIte];refine WW cc ?_
     refine Yv ?_;refine ZU 18 _ _ Zd (by refine Yv ?_;exact ⟨rfl,rfl⟩) ?_;refine Yv ?_;refine ZU 19 _ _ Zd (by refine Yv ?_;exact ⟨rfl,rfl⟩) (Yg ?_);refine Yv ?_;refine CJ hsv fun p c f hP=>Yv ?_;refine cD ?_ ?_<;>intro h4<;>simp (disch:=omega) only [Sh.out h4,go_sem,seval,↓reduceIte]
     ·rcases hout p c f hP with ⟨h,_⟩ | ⟨_,rfl,rfl,rfl⟩
      ·omega
      ·exact we (by simp (disch:=omega) only [EE,Zk,Wv h4,go_sem,seval])
     ·rcases hout p c f hP with ⟨_,hkm,rfl,rfl⟩ | ⟨h,_⟩
      ·have hc1:(k+1)*48<=140737488355328:=Za
       have hc2:k<=140737488355327:=Za
       have hc3:(k+1)*144<=140737488355328:=Za
       simp (disch:=first | omega | (simp only [Zz,ZQ,Zm,Zu,Zy,ZK]<;>omega)) only [hpk,hxk,eq_self,hc1,hc2,hc3,and_self,go_sem,seval,↓reduceIte];exact ⟨k+1,Za,Za,Weak.mk (by simp (disch:=first | omega | (simp only [Zz,ZQ,Zm,Zu,Zy,ZK]<;>omega)) only [Ab (show k<P'.length by omega),Ab (show k<X'.length by omega),Xi,ZN,Zk,go_sem,seval])⟩
      ·omega
    ·rw [Th,<- hdE,if_neg hz,he] at cc;rw [he] at hz;refine Xc [18,19] 20 mixed Zd Zd Zd Zb ?_;simp (disch:=first | omega | (simp only [Zz,ZQ,Zm,Zu,Zy,ZK]<;>omega)) only [hix,heX,heP,hxk,hpk,hlt,eq_self,go_sem,seval,↓reduceIte];refine WW cc (Yv ?_);refine ZU 18 _ _ Zd (by refine Yv ?_;exact ⟨rfl,rfl⟩) ?_;refine Yv ?_;refine ZU 19 _ _ Zd (by refine Yv ?_;exact ⟨rfl,rfl⟩) (Yg ?_)
     refine Yv ?_;refine cD ?_ ?_<;>intro h4<;>simp (disch:=omega) only [Sh.out h4,go_sem,seval,↓reduceIte]
     ·exact we (by simp (disch:=omega) only [EE,Zk,Wv h4,go_sem,seval])
     ·omega
   ·have hk0:k=0:=Za
    subst hk0
    have hz:dayE ds P' X' 0=0:=by rfl
    have hdI:dayI ds P' X' 0=Y0:=by rw [dayI,if_pos rfl,hY0]
    rcases hout with ⟨_,hout⟩ | ⟨h,_⟩
    ·obtain ⟨n1,n2,n3,n4⟩:=hn hz;rw [hdI] at n1 n2 n3 n4 hout l2 l4;obtain ⟨hsk,hus⟩:=Mo n1;refine CJ (GJ Y0 n1 Za Za (by grind) hsk hus) fun p c f hP=>Yv ?_;refine cD ?_ ?_<;>intro h4<;>simp (disch:=omega) only [Sh.out h4,go_sem,seval,↓reduceIte]
     ·rcases hout p c f hP with ⟨h,_⟩ | ⟨_,rfl,rfl,rfl⟩
      ·omega
      ·exact we (by simp (disch:=omega) only [EE,Zk,Wv h4,go_sem,seval])
     ·rcases hout p c f hP with ⟨_,hkm,rfl,hy⟩ | ⟨h,_⟩
      ·rw [hy];exact ⟨0+1,Za,Za,Weak.mk (by simp (disch:=first | omega | (simp only [Zz,ZQ,Zm,Zu,Zy,ZK]<;>omega)) only [Ab (show 0<P'.length by omega),Ab (show 0<X'.length by omega),ZN,Zk,go_sem,seval])⟩
      ·omega
    omega
  ·have hkl:k=ds.length:=Za
   rcases hR with ⟨h,rfl,rfl,rfl⟩ | ⟨h,_⟩
   ·have t1:P.take k=P:=Kb Za;have t2:X.take k=X:=Kb Za;refine Zp (Weak.fz (o:=0) (by rfl)) ?_;refine Zp (Weak.fz (o:=1) (by rfl)) ?_;refine Zf [] _ _ _ _ ?_;simp (disch:=omega) only [ZN,Zk,X2,Xj,hxk,hpk,eq_self,go_sem,seval];exact we (by simp (disch:=omega) only [EE,t1,t2,go_sem,seval])
   ·omega
theorem HH (ds:List Inst) (c:Bool) (h1:ds.length<=1048576) (hw: ∀x∈ds,x.wf 1048576) :
  PC 3 [.p (.list c (ds.map Zs))] (.bool true):=by
 have haw:=Rl;refine AT [] Tryz.func3 rfl Zmc ?_;simp (disch:=omega) only [Tryz.f3,go_sem,seval];refine (SY ds c h1 hw).useV fun b hb=>Yv ?_
 cases b with
 | false =>
  refine Zdu ?_;refine (haw).use ?_;simp (disch:=omega) only [go_sem,seval]
 | true =>
  refine Mv ?_;obtain ⟨g1,g2⟩:=hb rfl;have hD: ∀x∈ds,P2 x:=fun x hx=>⟨g2 x hx,hw x hx⟩;refine ((fD ds c g1 hD).behind (by rfl) []).mono ?_;rintro y H' ⟨y1,H1,⟨P,X,e,hR,rfl,rfl⟩,rfl,rfl⟩;have hr:=SO ds c g1 hD P X e hR
  have hq:P.length=X.length/\P.length<=3/\ ∀j,j<P.length->(nth X j).wf 1048576/\(nth P j).routes.length<=24/\(nth P j).unserved.length<=24/\ ∀r∈(nth P j).routes,FA r:=by
   obtain ⟨P',X',k,hk,hkn,⟨_,_,rfl,rfl⟩ | ⟨_,_,rfl,rfl,_⟩⟩:=hR
   ·refine ⟨by rw [hk.pl,hk.xl],by rw [hk.pl];omega,fun j hj=> ?_⟩;have:=hk.facts hD hkn (show j<k by have:=hk.pl;omega)
    grind
   simp
  obtain ⟨q1,q2,q3⟩:=hq;simp only [EE] at hr ⊢;generalize decide (e≠0)=d at hr;simp (disch:=omega) only [shV,shVs,ZR,go_sem,seval];refine GT hr ?_;simp (disch:=omega) only [eq_self,go_sem,seval];refine Zj [3,4,6,7] (fun k:Nat=> [(9,.p (.int .i64 k))]) (fun _=> []) (fun k=>k<=P.length) (fun k=>P.length-k) 0 Zb (Weak.mk ?_) ?_
  ·simp (disch:=omega) only [go_sem,seval]
  ·intro k hk;refine Yv ?_;refine cD ?_ ?_<;>intro h2<;>simp (disch:=omega) only [Sh.out h2,go_sem,seval,↓reduceIte]
   ·have hk2:k<P.length:=Za
    obtain ⟨w1,w2,w3,w4⟩:=q3 k hk2;have hsm:GG (nth P k) (nth P k)=true:=GH rfl (fun i _=>CE.2 ⟨rfl,rfl,rfl,rfl⟩) rfl;have s1:=gI (nth P k) (nth P k) ⟨Za,Za,w4⟩ ⟨Za,Za,w4⟩;rw [hsm] at s1;refine Xd ?_;refine Yv ?_;refine Zo (s1) ?_;refine Yv ?_;refine Zo (gJ (nth X k) w1) ?_;refine Yv ?_;exact ⟨k+1,Za,Za,wk⟩
   ·refine (haw).use ?_;simp (disch:=omega) only [go_sem,seval]
end Go.Proofs.YtiigdaohjanidaaGreatDoor.K
