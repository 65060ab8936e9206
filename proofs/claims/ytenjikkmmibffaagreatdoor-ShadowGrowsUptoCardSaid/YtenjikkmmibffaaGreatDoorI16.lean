/- Declarations that the closing texts need, part 16: joined by tools/slim.py. -/
import Derived.Test.YtenjikkmmibffaaGreatDoorI15
import Derived.Shelf.SlSortCmp.NoneTotal
set_option linter.unusedVariables false
set_option linter.unusedSimpArgs false
namespace Go.AM
open Go.RowKit Go.Shelf Go.Lib Go.Sort Go.Proofs
theorem iY {W w':World} {H':List AM.Obj} {ι':List (Option Nat)} (g:Good A1 [] [] W H' ι' w'): ∃q os',w'=grow (W.drewN q) os':=by
 refine ⟨w'.drawn-W.drawn,w'.heap.extract W.heap.size w'.heap.size,?_⟩
 have h1:w'.heap=W.heap++w'.heap.extract W.heap.size w'.heap.size:=by
  apply Array.ext_getElem?;intro i
  by_cases hi:i<W.heap.size
  ·rw [Du hi];exact g.keep i hi Zb
  ·rw [Array.getElem?_append_right Za];have:=g.size;rw [Array.getElem?_extract]
   split
   ·congr 1;omega
   ·rw [Array.getElem?_eq_none Za]
 have h2:W.drawn<=w'.drawn:=g.tape.2.resolve_right fun h=>h;have h3:=g.tape.1;have h4:=g.os;have h5:=g.output
 cases w'
 simp only [grow,World.drewN] at *
 congr 1
 omega
def PO (c:Array Value) (k i:Nat):List Value:=(List.range k).map fun j=>c.getD (i*k+j) undef
theorem F8 (c k i):(PO c k i).length=k:=by simp [PO]
theorem CQ {c k i j} (h:j<k):(PO c k i)[j]! =c.getD (i*k+j) undef:=by
 rw [List.getElem!_eq_getElem?_getD,PO,Xl,List.getElem?_range h];rfl
theorem ACalls.sortFunc {P : Program} {ρ : Ren} (L : SlLaysF0.n6 P ρ) (hg : Zi P (ρ.f 6)) (k : Nat) (aE : ∀ w, (isAgg (ρ.t 24)).run P w = .ok true w) (zE : ∀ w, (Go.sizeOf (ρ.t 24)).run P w = .ok k w)
    {β : Type} [Inhabited β] (f : β -> PV) (hf : ∀ x, ∃ cs, f x = .agg cs /\ cs.length = k /\ cs.all (·.one) = true) (cf : β -> β -> Int) (hO : SWO (ltOf cf)) (g : FuncId)
    (hcmp : ∀ x y, ACalls P g [.p (f x), .p (f y)] [] fun r H' => r = .p (.int .i64 (cf x y)) /\ H' = []) (xs : List β) (hlen : xs.length < 4611686018427387904) {H : List AM.Obj} {o : Nat} (hHo : H[o]? = some (.elems k (xs.map f))) :
    ACalls P (ρ.f 6) [.sl o 0 xs.length xs.length, .fn (.func g) [] []] H fun y H' => y = .tup [] /\ ∃ ys : List β, ys.Perm xs /\ ys.Pairwise (fun a b => ¬ cf b a < 0) /\ H' = H.set o (.elems k (ys.map f)) := by
  refine ⟨hg, fun F ι w vs hr hv => ?_⟩;obtain ⟨hv1, hv2⟩ := hv;have h0 := hv2 0 _ rfl;have h1 := hv2 1 _ rfl
  have hvs : vs = #[vs.getD 0 undef, vs.getD 1 undef] := by
    apply Array.ext
    · simpa using hv1
    · intro i h2 h3
      have : i = 0 \/ i = 1 := by simp at hv1; omega
      rcases this with rfl | rfl <;> simp [Array.getD, h2]
  rw [hvs];generalize vs.getD 0 undef = v0 at h0 ⊢;generalize vs.getD 1 undef = v1 at h1 ⊢;clear hvs hv1 hv2
  cases h1 with | fn _ _ _ a e hs ht _ _ =>
  have ea : a = #[] := Ew (by simpa using hs);have ee : e = #[] := Ew (by simpa using ht);subst ea; subst ee;generalize hL : xs.length = n at h0 hlen
  by_cases hz : n = 0
  · subst hz
    obtain rfl : xs = [] := List.length_eq_zero_iff.1 hL
    have e1 : H.set o (.elems k (([] : List β).map f)) = H := by
      apply JQ;intro i;rw [QZ]
      split
      · rename_i hi; subst hi; rw [hHo]; simp [(ZQ.1 hHo).1]
      · rfl
    obtain ⟨ad, cap, rfl⟩ : ∃ ad cap, v0 = .slice ad 0 cap := by
      cases h0 with
      | slNil => exact ⟨_, _, rfl⟩
      | sl => exact ⟨_, _, rfl⟩
      | slD _ _ _ _ _ hd => rw [hHo] at hd; cases hd
      | slS _ _ _ _ _ S2 xs2 hd hne => rw [hHo] at hd; simp at hd; obtain ⟨_, rfl⟩ := hd; simp at hne
      | slC _ _ _ _ _ _ hd => rw [hHo] at hd; cases hd
    refine (AnyF.slices_SortFunc_none L ad cap _ w).mono ?_;rintro e w' ⟨rfl, rfl⟩;exact ⟨.tup [], _, ι, _, rfl, ⟨rfl, [], .refl _, .nil, e1.symm⟩, Good.refl hr, .tup [] #[] Zb Zb⟩
  have hn : 0 < n := Za
  cases h0 with
  | slNil => omega
  | slD _ _ _ _ _ hd => rw [hHo] at hd; cases hd
  | slS _ _ _ _ _ S ys hd hlt => rw [hHo] at hd; simp at hd; obtain ⟨_, rfl⟩ := hd; simp at hlt; omega
  | slC _ _ _ _ _ _ hd => rw [hHo] at hd; cases hd
  | sl _ _ _ _ b S cap t ys c hι hH ht2 hw hcap hl hle hm =>
  rw [hHo] at hH;simp at hH;obtain ⟨rfl, rfl⟩ := hH;rcases hr.elm o k (xs.map f) hHo with ⟨e1, _⟩ | ⟨b2, c2, t2, cap2, e1, e2, e3, e4, e5, e6, e7⟩
  · rw [hι] at e1; cases e1
  rw [hι] at e1;simp at e1; subst e1;rw [hw] at e2;simp at e2;obtain ⟨rfl, rfl⟩ := e2;have hbs : b < w.heap.size := (hr.avo o b hι).2;have hbF : ¬ F b := (hr.avo o b hι).1
  -- an index, made one that there is
  let ix : Nat -> Nat := fun i => if i < n then i else 0
  have hix : ∀ i, ix i < n := fun i => by simp only [ix]; split <;> omega
  have hixe : ∀ i, i < n -> ix i = i := fun i hi => by simp only [ix]; rw [if_pos hi]
  let enc : Nat -> List Value := fun i => PO c k (ix i)
  have hk : ∀ x, (enc x).length = k := fun x => F8 _ _ _
  -- one cell of an element
  have cell : ∀ i, i < n -> ∃ cs, f (nth xs i) = .agg cs /\ cs.length = k /\ ∀ (j : Nat) (y : PV), cs[j]? = some y -> y.one = true /\ RP (Own F ι) w y (c.getD (i * k + j) undef) := fun i hi => by
    obtain ⟨cs, q1, q2, q3⟩ := hf (nth xs i);refine ⟨cs, q1, q2, fun j y hj => ⟨Zz.1 q3 y (XD hj), ?_⟩⟩;refine e7 i (f (nth xs i)) j y ?_ (by rw [q1]; exact hj);rw [Xl, JY Za, Zh Za]; rfl
  have one : ∀ x, ∀ v ∈ enc x, v.oneCell' = true := fun x v hv => by
    obtain ⟨j, hj, rfl⟩ := ZT.1 hv
    have hjk : j < k := by rw [hk] at hj; exact hj
    obtain ⟨cs, q1, q2, q3⟩ := cell (ix x) (hix x);have hg := q3 j (cs[j]'(Za)) Zb
    have e9 : (enc x)[j] = c.getD (ix x * k + j) undef := by
      have := CQ (c := c) (i := ix x) hjk;rw [List.getElem!_eq_getElem?_getD, JY (by rw [F8]; exact hjk)] at this;exact this
    rw [e9];exact hg.2.oneCell hg.1
  let d : Array Nat := Array.range n
  have hd : d.size = n := by simp [d]
  let cf' : Nat -> Nat -> Int := fun i j => cf (nth xs (ix i)) (nth xs (ix j))
  have hO' : SWO (ltOf cf') := ⟨fun x => hO.irrefl _, fun x y z h1 h2 => hO.trans _ _ _ h1 h2, fun x y z h1 h2 => hO.ntrans _ _ _ h1 h2⟩
  have hsz : n * k <= c.size := by
    rw [e3]; exact Ys k (by simpa [hL] using e4)
  have hcell : ∀ j, j < c.size -> w.cell? ⟨b, j, none⟩ = some (c.getD j undef) := fun j hj => by
    simp [World.cell?, hw, hj]
  have hHolds : HoldsK enc k w b (0 * k) d := fun j hj => by
    have hj2 : j < n * k := by simpa [hd] using hj
    have k0 : 0 < k := by rcases Nat.eq_zero_or_pos k with h | h; · subst h; simp at hj2
                          · exact h
    rw [get_flatK enc k d j (by rw [hd]; exact hj2)];have hdj : j / k < n := Nat.div_lt_of_lt_mul (by rw [AD]; exact hj2)
    have hde : d[j / k]! = j / k := by simp [d, hdj]
    rw [hde]
    have e9 : (enc (j / k))[j % k]! = c.getD j undef := by
      show (PO c k (ix (j / k)))[j % k]! = _
      rw [hixe _ hdj, CQ (Nat.mod_lt _ k0), Nat.div_add_mod']
    rw [e9, Nat.zero_mul, Xm];exact ⟨hcell j Za, by simp [World.frozen?, hw]⟩
  have hcmp' : CmpLays P g #[] enc k cf' b (0 * k) d.size w := fun m os dk hdk x y => by
    generalize hW : sortWorldK enc k w b (0 * k) m dk os = W
    have hKeep : Keeps (Own F ι) w A1 W := fun b' hb' hs' => by
      have hne : b' ≠ b := fun e => hb' (.inr (e ▸ XD hι));refine ⟨fun h => h, ?_, ?_⟩
      · rw [<- hW]; simp [sortWorldK, grow, putRowK, putRow, mapBlock, ahead]; omega
      · rw [<- hW]
        simp only [sortWorldK, grow, putRowK, putRow, mapBlock, ahead];rw [Du (by simpa using hs'), EA, if_neg (fun e => hne e.symm)]
        rfl
    have heW : Env A1 [] W := (hr.env.of (w' := W) (ι' := ι) (by rw [<- hW]; simp [sortWorldK, grow, putRowK, putRow, mapBlock, ahead]) (fun b' hb' hni => by
      have hne : b' ≠ b := fun e => hni (e ▸ XD hι);rw [<- hW];simp only [sortWorldK, grow, putRowK, putRow, mapBlock, ahead];rw [Du (by simpa using hb'), EA, if_neg (fun e => hne e.symm)]
      rfl) (fun _ _ h => h)).noth
    have arg : ∀ i, RV A1 [] [] W (.p (f (nth xs (ix i)))) (.agg (enc i).toArray) := fun i => by
      obtain ⟨cs, q1, q2, q3⟩ := cell (ix i) (hix i);refine .p _ _ ?_;rw [q1]
      refine (RP.agg cs (enc i).toArray (by simp [hk, q2]) fun j y hj => ?_ : RP A1 W _ _).weaker fun b hb => by
        rcases hb with hb | hb
        · exact hb
        · simp at hb
      have hjk : j < k := by rw [<- q2]; exact (ZQ.1 hj).1
      have e9 : (enc i).toArray.getD j undef = c.getD (ix i * k + j) undef := by
        have := CQ (c := c) (i := ix i) hjk;rw [List.getElem!_eq_getElem?_getD, JY (by rw [F8]; exact hjk)] at this;simp only [XH, Cs];rw [JY (by rw [hk]; exact hjk), JR];rw [JR] at this;simpa only [XH] using this
      rw [e9];exact (q3 j y hj).2.ext hKeep
    refine ((hcmp (nth xs (ix x)) (nth xs (ix y))).2 A1 [] W _ (Gb heW) ⟨rfl, fun j q hj => ?_⟩).mono ?_
    · cases j with
      | zero => simp at hj; subst hj; exact arg x
      | succ j => cases j with
        | zero => simp at hj; subst hj; exact arg y
        | succ j => simp at hj
    · rintro e' w' ⟨x', H', ι', v, rfl, ⟨rfl, rfl⟩, gd, rv⟩
      cases rv with | p _ _ rp =>
      rw [rp.int_inv];exact ⟨rfl, iY gd⟩
  have eg := (hcmp default default).1;have main := AnyQ.slices_SortFunc L k aE zE enc hk one cf' hO' g #[] b (0 * k) cap d w (fun args w => eg args w) hcmp' hHolds hbs (by rw [hd]; exact hlen);rw [hd] at main;refine main.mono ?_;rintro e' w' ⟨rfl, d', m, os, hp, hso, rfl⟩;obtain ⟨p1, _, p3⟩ := hp;rw [hd] at p1
  have hperm : d'.toList.Perm (List.range n) := by
    have e8 : (d'.extract 0 n).toList = d'.toList := by rw [<- p1]; simp
    have e9 : (d.extract 0 n).toList = List.range n := by
      have : d.extract 0 n = d := by rw [<- hd]; simp
      rw [this]; simp [d]
    rw [e8, e9] at p3; exact p3
  have hlt : ∀ i ∈ d'.toList, i < n := fun i hi => by simpa using hperm.mem_iff.1 hi
  have hlt2 : ∀ i, i < n -> d'.toList[i]?.isSome = true := fun i hi => by simp [p1, hi]
  have hget : ∀ i (hi : i < n), d'[i]! = d'.toList[i]'(by simp [p1, hi]) := fun i hi => by
    rw [getElem!_pos d' i Za]; simp
  let ys : List β := d'.toList.map (nth xs)
  have hyl : ys.length = n := by simp [ys, p1]
  have hys : ∀ i (hi : i < n), ys[i]'(Za) = nth xs d'[i]! := fun i hi => by
    simp only [ys, List.getElem_map]; rw [hget i hi]
  have hdl : ∀ i, i < n -> d'[i]! < n := fun i hi => by rw [hget i hi]; exact hlt _ (Aw _)
  have yperm : ys.Perm xs := by
    have h9 : (List.range n).map (nth xs) = xs := by
      refine Q1 (by simp [hL]) fun i h1 h2 => ?_;simp only [List.getElem_map, List.getElem_range];rw [Zh h2]
    have := hperm.map (nth xs);rw [h9] at this; exact this
  have ysort : ys.Pairwise fun a b => ¬ cf b a < 0 := by
    rw [KF];intro i j hi hj hij;rw [hys i Za, hys j Za];have h9 := hso i j (JU _) hij Za;simp only [ltOf, cf', X2] at h9;rwa [hixe _ (hdl j Za), hixe _ (hdl i Za)] at h9
  let c' : Array Value := putCells id (0 * k) (flatK enc k d') c
  have hcs : c'.size = c.size := by simp [c', putCells]
  have hat : (sortWorldK enc k w b (0 * k) m d' os).heap[b]? = some (.cells c' t (0, 0)) := by
    simp only [sortWorldK, grow, putRowK, putRow, mapBlock, ahead];rw [Du (by simpa using hbs), EA, if_pos rfl]
    show Option.map _ w.heap[b]? = _
    rw [hw]; rfl
  have hoth : ∀ q, q < w.heap.size -> q ≠ b -> (sortWorldK enc k w b (0 * k) m d' os).heap[q]? = w.heap[q]? := fun q hq hne => by
    simp only [sortWorldK, grow, putRowK, putRow, mapBlock, ahead];rw [Du (by simpa using hq), EA, if_neg (fun e => hne e.symm)]
    rfl
  have hc' : ∀ i j, i < n -> j < k -> c'.getD (i * k + j) undef = c.getD (d'[i]! * k + j) undef := fun i j hi hj => by
    have hb1 : i * k + j < n * k := by
      have := Ys k (show i + 1 <= n from hi);rw [XR, V6] at this; omega
    have e8 : (flatK enc k d')[i * k + j]! = c.getD (d'[i]! * k + j) undef := by
      rw [get_flatK enc k d' _ (by rw [p1]; exact hb1)]
      have q1 : (i * k + j) / k = i := by rw [AD, Nat.mul_add_div Za, Qw hj]; omega
      have q2 : (i * k + j) % k = j := by rw [AD, Nat.mul_add_mod, Cx hj]
      rw [q1, q2]
      show (PO c k (ix d'[i]!))[j]! = _
      rw [CQ hj, hixe _ (hdl i hi)]
    have e9 : c'[i * k + j]? = some ((flatK enc k d')[i * k + j]!) := by
      simp only [c', putCells, Array.getElem?_mapIdx];rw [Array.getElem?_eq_getElem Za];simp only [Ay, Nat.zero_mul, JU, true_and, Xm, size_flatK, p1, hb1, if_true, Nat.sub_zero, id]
    rw [XH, e9, JR, e8]
  have good := YI (w' := sortWorldK enc k w b (0 * k) m d' os) (c := c') (t := t) (xs' := ys.map f) (cap := cap2) (b' := b) hr (o := o) (S := k) (xs := xs.map f) hHo rfl (Tp.of rfl (by simp [sortWorldK, grow, putRowK, putRow, mapBlock, ahead])) rfl
    (fun c0 t0 h => by rw [hw] at h; simp at h; obtain ⟨rfl, rfl⟩ := h; exact ⟨rfl, hcs⟩) (by simp [sortWorldK, grow, putRowK, putRow, mapBlock, ahead]) hat hoth (.inl ⟨hι, .inl ⟨by simp [hyl, hL], fun c0 t0 h => by rw [hw] at h; simp at h; obtain ⟨rfl, rfl⟩ := h; exact ⟨rfl, hcs⟩⟩⟩)
    (by rw [hcs]; exact e3) (by simp only [Z1, hyl]; simpa [hL] using e4) e5
    (fun i x hi => by
      rw [Xl, ZS] at hi;obtain ⟨y, _, rfl⟩ := hi;obtain ⟨cs, q1, q2, _⟩ := hf y
      rw [q1]; exact q2)
    (fun i x j y hi hj => by
      rw [Xl, ZS] at hi;obtain ⟨z, hz, rfl⟩ := hi
      have hin : i < n := by have := (ZQ.1 hz).1; omega
      have e8 : z = nth xs d'[i]! := by
        obtain ⟨h9, h10⟩ := ZQ.1 hz;rw [<- h10]; exact hys i hin
      obtain ⟨cs, q1, q2, q3⟩ := cell _ (hdl i hin);rw [e8, q1] at hj
      have hjk : j < k := by rw [<- q2]; exact (ZQ.1 hj).1
      rw [hc' i j hin hjk]
      exact (q3 j y hj).2)
  have ZP : ι.set o (some b) = ι := by
    refine JQ fun i => ?_;rw [QZ]
    split
    · rename_i e; subst e
      have := (ZQ.1 hι).1;rw [if_pos this, hι]
    · rfl
  rw [ZP] at good;exact ⟨.tup [], _, ι, .tuple #[], rfl, ⟨rfl, ys, yperm, ysort, rfl⟩, good, .tup [] #[] rfl (fun j c hj => by simp at hj)⟩
end Go.AM
namespace Go.Proofs.YtenjikkmmibffaaGreatDoor.K
open Go Go.AM Go.Proofs
set_option maxRecDepth 8000
set_option maxHeartbeats 8000000
deriving instance DecidableEq for Itm
theorem JP {v w:Itm} :v=w↔v.kind=w.kind/\v.a=w.a:=by cases v;cases w;simp
def Kl (a b:Itm):Int:=if Y0 a.kind b.kind=0 then Y0 a.a b.a else Y0 a.kind b.kind
theorem MG (a b:Itm):PC 66 [.p (X1 a),.p (X1 b)] (.int .i64 (Kl a b)):=by
 refine Zd Tryz.func66 rfl ZiC ?_;simp (disch:=omega) only [Tryz.f66,go_sem,seval];refine Xo (Zc ?_);refine Zo (D0 a.kind b.kind) (Zc ?_);refine Zo (D0 a.a b.a) (Zc ?_);refine Zo (sO [Y0 a.kind b.kind,Y0 a.a b.a] false Zb) (Zc ?_);rw [EN,Kl]
theorem ZeY (a b:Itm):PC 71 [.p (X1 a),.p (X1 b)] (.bool (decide (Kl a b<0))):=by
 refine Zd Tryz.func71 rfl ZiE ?_;simp (disch:=omega) only [Tryz.f71,go_sem,seval]
 repeat' (first | (refine Vy (fun hq=> ?_) (fun hq=> ?_)<;>(try simp only [Zq,X2,Z2] at hq)<;>simp (disch:=omega) only [Sh.out hq,go_sem,seval]) | (refine Ue (fun hq=> ?_) (fun hq=> ?_)<;>(try simp only [Zq,X2,Z2] at hq)<;>simp (disch:=omega) only [Sh.out hq,go_sem,seval]) | (refine UO (fun hq=> ?_) (fun hq=> ?_)<;>(try simp only [Zq,X2,Z2] at hq)<;>simp (disch:=omega) only [Sh.out hq,go_sem,seval]))
 ·have:Kl a b<0:=by simp [Kl,Y0,hq]
  simp [this]
 ·rename_i h1
  have:Kl a b=Y0 a.a b.a:=by simp [Kl,Y0,hq]
  rw [this]
  by_cases h2:a.a<b.a
  ·simp [Y0,h2]
  ·by_cases h3:b.a<a.a<;>simp [Y0,h2,h3]
 ·rename_i h1
  have h2:b.kind<a.kind:=Za
  have: ¬Kl a b<0:=by simp [Kl,Y0,h1,h2]
  simp [this]
def Lv (x:Inst) (o:Int):Bool:=decide (o<0)||decide ((x.orders.length:Int)<=o)||(nth x.orders o.toNat).off
theorem Lu (x:Inst) (o:Int) (hl:x.orders.length<=1048576):PC 64 [.p (Zv x),.p (.int .i64 o)] (.bool (Lv x o)):=by
 refine Zd Tryz.func64 rfl ZiA ?_;simp (disch:=omega) only [Tryz.f64,go_sem,seval];refine gF ?_ ?_<;>intro h<;>simp (disch:=omega) only [Sh.out h,go_sem,seval,↓reduceIte]
 ·simp [Lv,h]
 ·refine gF ?_ ?_<;>intro h2<;>simp (disch:=omega) only [Sh.out h2,go_sem,seval,↓reduceIte]
  ·simp [Lv,h2]
  grind [Lv]
def jO (x:Inst) (i:Nat):List Itm:=if (nth x.orders i).off=true then [] else
 (if (nth x.orders i).pick.place≠ -1 then [⟨1,i⟩] else [])++(if (nth x.orders i).drp.place≠ -1 then [⟨2,i⟩] else [])++(if (nth x.orders i).skills≠0 then [⟨4,i⟩] else [])++(if (nth x.orders i).penalty= -1 then [⟨10,i⟩] else [])
def Dq (x:Inst) (k:Nat):List Itm:=(List.range k).flatMap (jO x)
theorem HD (x k):Dq x (k+1)=Dq x k++jO x k:=by simp [Dq,Yu]
theorem rO (x i):(jO x i).length<=4:=by
 unfold jO
 split
 ·simp
 ·simp only [ZH]
  grind
theorem Cg (x): ∀k,(Dq x k).length<=4*k
 | 0=>by simp [Dq]
 | k+1=>by
  have h1:=Cg x k;have h2:=rO x k;rw [HD,ZH];omega
def hO (x:Inst) (m:List Itm) (i:Nat):List AM.Obj:= [Zj x,.cells [.sl 2 0 m.length m.length],.elems 2 (m.map X1),.cells [.p (.int .i64 (i:Nat))]]
theorem Eo (x:Inst) (m:List Itm) (i:Nat) (has:Bool) (kind:Int) (hm:m.length<=1048576):ACalls Tryz.prog 95 [.p (.bool has),.p (.int .i64 kind),.ptr 1 0,.ptr 3 0] (hO x m i) fun y H'=>y= .tup []/\H'=hO x (if has=true then m++ [⟨kind,i⟩] else m) i:=by
 refine Zf [] Tryz.func95 rfl ZiX ?_
 cases has with
 | true =>
  simp (disch:=omega) only [Tryz.f95,hO,Zj,go_sem,seval];exact ⟨.tup [],hO x (m++ [⟨kind,i⟩]) i,Weak.mk (by simp (disch:=omega) only [hO,Zj,go_sem,seval]),rfl,by simp [hO,Zj,X1]⟩
 | false =>
  simp (disch:=omega) only [Tryz.f95,hO,Zj,go_sem,seval];exact ⟨.tup [],hO x m i,Weak.mk (by simp (disch:=omega) only [hO,Zj,go_sem,seval]),rfl,by rfl⟩
theorem Lt (x:Inst) (hl:x.orders.length<=1000):ACalls Tryz.prog 63 [.p (Zv x)] [] fun y H'=> ∃m:List Itm,m=Dq x x.orders.length/\y= .sl 0 0 m.length m.length/\H'= [.elems 2 (m.map X1)]:=by
 refine ZW [2] Tryz.func63 rfl Ziz ?_;simp (disch:=omega) only [Tryz.f63,go_sem,seval];refine Zp (Weak.nilC (o:=1) (j:=0) 2 rfl rfl Zb) ?_;refine Zg [] _ _ _ _ ?_;simp (disch:=omega) only [Z6,ZX,ZK,Zy,go_sem,seval];refine Zm [3,8,9] (fun q:Nat×List Itm=> [(10,.p (.int .i64 q.1))]) (fun q=> [Zj x,.cells [.sl 2 0 q.2.length q.2.length],.elems 2 (q.2.map X1)]) (fun q=>q.1<=x.orders.length/\q.2=Dq x q.1) (fun q=>x.orders.length-q.1) (0,[]) ⟨Zb,by simp [Dq]⟩ (Weak.mk ?_) ?_
 ·simp (disch:=omega) only [Zj,go_sem,seval]
 ·rintro ⟨i,m⟩ ⟨hi,hm⟩;simp only at hi hm
  have hml:m.length<=4*i:=by grind [Cg]
  have hsc:=HD x i;refine Ye ?_;refine cD ?_ ?_<;>intro h<;>simp (disch:=omega) only [Sh.out h,go_sem,seval,↓reduceIte]
  ·have hi2:i<x.orders.length:=Za
   refine ZO ?_ ?_<;>intro h2
   ·exact ⟨(i+1,m),⟨Za,by simp_all [jO]⟩,Za,wk⟩
   ·have c1:=Eo x m i (decide ((nth x.orders i).pick.place≠ -1)) 1 Za
    have ifl: ∀ {c:Prop} [Decidable c] (m:List Itm) (v:Itm),(if decide c=true then m++ [v] else m)=m++(if c then [v] else []):=fun {c} _ m v=>by grind
    have ifn: ∀ {c:Prop} [Decidable c] (v:Itm),(if c then [v] else []).length<=1:=fun {c} _ v=>by grind
    rw [ifl] at c1;refine c1.useP (L:= [_]) (by rfl) ?_ (by rfl) (by rfl);have n1:=ifn (c:=(nth x.orders i).pick.place≠ -1) ⟨1,i⟩;have n2:=ifn (c:=(nth x.orders i).drp.place≠ -1) ⟨2,i⟩;have n3:=ifn (c:=(nth x.orders i).skills≠0) ⟨4,i⟩;have n4:=ifn (c:=(nth x.orders i).penalty= -1) ⟨10,i⟩
    have hit:jO x i=(if (nth x.orders i).pick.place≠ -1 then [⟨1,i⟩] else [])++(if (nth x.orders i).drp.place≠ -1 then [⟨2,i⟩] else [])++(if (nth x.orders i).skills≠0 then [⟨4,i⟩] else [])++(if (nth x.orders i).penalty= -1 then [⟨10,i⟩] else []):=by simp_all [jO]
    generalize hA:(if (nth x.orders i).pick.place≠ -1 then [(⟨1,i⟩:Itm)] else [])=A at hit n1 c1 ⊢;have c2:=Eo x (m++A) i (decide ((nth x.orders i).drp.place≠ -1)) 2 (by simp;omega);rw [ifl] at c2;generalize (if (nth x.orders i).drp.place≠ -1 then [(⟨2,i⟩:Itm)] else [])=B at hit n2 c2;have c3:=Eo x (m++A++B) i (decide ((nth x.orders i).skills≠0)) 4 (by simp;omega);rw [ifl] at c3;generalize (if (nth x.orders i).skills≠0 then [(⟨4,i⟩:Itm)] else [])=C at hit n3 c3;have c4:=Eo x (m++A++B++C) i (decide ((nth x.orders i).penalty= -1)) 10 (by simp;omega)
    rw [ifl] at c4;generalize (if (nth x.orders i).penalty= -1 then [(⟨10,i⟩:Itm)] else [])=D at hit n4 c4;generalize hm1:m++A=m1 at c2 c3 c4 ⊢;generalize hm2:m1++B=m2 at c2 c3 c4 ⊢;generalize hm3:m2++C=m3 at c3 c4 ⊢;generalize hm4:m3++D=m4 at c4;simp (disch:=omega) only [hO,Zj,go_sem,seval];refine c2.useP (L:= [_]) (by rfl) ?_ (by rfl) (by rfl);simp (disch:=omega) only [hO,Zj,go_sem,seval];refine c3.useP (L:= [_]) (by rfl) ?_ (by rfl) (by rfl);simp (disch:=omega) only [hO,Zj,go_sem,seval];refine c4.useP (L:= [_]) (by rfl) ?_ (by rfl) (by rfl);simp (disch:=omega) only [hO,Zj,go_sem,seval];refine ⟨(i+1,m4),⟨Za,?_⟩,Za,wk⟩
    grind
  ·have hin:i=x.orders.length:=Za
   subst hin;exact ⟨m,hm,2,by simp (disch:=omega) only [go_sem,seval]⟩
def jP (k:Nat):List Itm:=(List.range k).flatMap fun (i:Nat)=> [⟨3,i⟩,⟨7,i⟩,⟨8,i⟩,⟨9,i⟩]
def G6 (x:Inst) (i:Nat):List Itm:=if (!Lv x (nth x.apart i).1&& !Lv x (nth x.apart i).2)=true then [⟨5,i⟩] else []
def jM (x:Inst) (k:Nat):List Itm:=(List.range k).flatMap (G6 x)
def Le (x:Inst) (i:Nat):List Itm:=if (!Lv x (nth x.before i).2)=true then [⟨6,i⟩] else []
def jN (x:Inst) (k:Nat):List Itm:=(List.range k).flatMap (Le x)
def Lz (x:Inst):List Itm:=Dq x x.orders.length++jP x.types.length++jM x x.apart.length++jN x x.before.length
theorem M8 (k):jP (k+1)=jP k++ [⟨3,k⟩,⟨7,k⟩,⟨8,k⟩,⟨9,k⟩]:=by simp [jP,Yu]
theorem Cf (x k):jM x (k+1)=jM x k++G6 x k:=by simp [jM,Yu]
theorem FK (x k):jN x (k+1)=jN x k++Le x k:=by simp [jN,Yu]
theorem Lh : ∀k,(jP k).length=4*k
 | 0=>by simp [jP]
 | k+1=>by rw [M8,ZH,Lh k];simp;omega
theorem Ld (x): ∀k,(jM x k).length<=k
 | 0=>by simp [jM]
 | k+1=>by
  have h1:=Ld x k
  have h2:(G6 x k).length<=1:=by unfold G6;split<;>simp
  rw [Cf,ZH];omega
theorem Lf (x): ∀k,(jN x k).length<=k
 | 0=>by simp [jN]
 | k+1=>by
  have h1:=Lf x k
  have h2:(Le x k).length<=1:=by unfold Le;split<;>simp
  rw [FK,ZH];omega
theorem JF {a b:Itm} :Kl a b<0↔a.kind<b.kind\/(a.kind=b.kind/\a.a<b.a):=by
 grind [Kl,Hm,qJ]
theorem fX : Go.Sort.SWO (ltOf Kl) where
 irrefl x:=by grind [ltOf,JF]
 trans x y z h1 h2:=by simp only [ltOf,Zq,JF] at *;omega
 ntrans x y z h1 h2:=by grind [ltOf,JF]
theorem N4 (xs:List Itm) (hne:xs≠ []) (hl:xs.length<=1048576) {H:List AM.Obj} {o:Nat} (hH:H[o]? =some (.elems 2 (xs.map X1))) :
  ACalls Tryz.prog 65 [.sl o 0 xs.length xs.length,.fn (.func 66) [] []] H fun y H'=>y= .tup []/\ ∃ys:List Itm,ys.Perm xs/\ys.Pairwise (fun a b=> ¬Kl b a<0)/\H'=H.set o (.elems 2 (ys.map X1)) :=
 ACalls.sortFunc bZ ZiB 2 Tryz.isAgg32 Tryz.sizeOf32 X1 (fun x=>⟨_,rfl,rfl,rfl⟩) Kl fX 66 MG xs Za hH
theorem K0 {P Q:Prop} (h:Q) (e:Q->P:=by intro h;simp (disch:=omega) only [Z6,ZX,go_sem,seval];exact h):P:=e h
theorem T4 (x:Inst) (ho:x.orders.length<=1000) (ht:0<x.types.length/\x.types.length<=1000) (ha:x.apart.length<=1000) (hb:x.before.length<=1000):ACalls Tryz.prog 35 [.p (Zv x)] [] fun y H'=> ∃m:List Itm,(m.Perm (Lz x)/\m.Pairwise (fun a b=> ¬Kl b a<0))/\y= .sl 0 0 m.length m.length/\H'= [.elems 2 (m.map X1)]:=by
 refine ZW [] Tryz.func35 rfl Zid ?_;simp (disch:=omega) only [Tryz.f35,go_sem,seval];obtain ⟨os,hos⟩: ∃os,os=Dq x x.orders.length:=⟨_,rfl⟩;have hosl:=Cg x x.orders.length;rw [<- hos] at hosl;refine ACalls.useF (S:=2) (n:=os.length) (xs:=os.map X1) ((Lt x ho).mono fun y H' ⟨m,hm,h1,h2⟩=>by grind) (Zc ?_);obtain ⟨ks,hks⟩: ∃ks:List Int,ks= [3,7,8,9]:=⟨_,rfl⟩
 have hkl:ks.length=4:=by rw [hks];rfl
 have hke:(ks.map eI).length=ks.length:=Zb
 refine Zm [1,15] (fun q:Nat×List Itm=> [(3,.sl 1 0 q.2.length q.2.length),(16,.p (.int .i64 q.1))]) (fun q=> [Zj x,.elems 2 (q.2.map X1)]) (fun q=>q.1<=x.types.length/\q.2=os++jP q.1) (fun q=>x.types.length-q.1) (0,os) ⟨Zb,by simp [jP]⟩ (Weak.mk ?_) ?_
 ·simp (disch:=omega) only [Zj,go_sem,seval]
 ·rintro ⟨i,m⟩ ⟨hi,hm⟩;simp only at hi hm
  have hml:m.length=os.length+4*i:=by grind [Lh]
  refine Ye ?_;refine cD ?_ ?_<;>intro h<;>simp (disch:=omega) only [Sh.out h,go_sem,seval,↓reduceIte]
  ·have hi2:i<x.types.length:=Za
   refine Zm [1,4,15,16,20] (fun q:Nat×List Itm=> [(3,.sl 1 0 q.2.length q.2.length),(19,.sl 2 0 ks.length ks.length),(21,.p (.int .i64 q.1))]) (fun q=> [Zj x,.elems 2 (q.2.map X1),.elems 1 (ks.map eI)]) (fun q=>q.1<=4/\q.2=m++(ks.take q.1).map fun c=>(⟨c,i⟩:Itm)) (fun q=>4-q.1) (0,m) ⟨Zb,Zb⟩ (Weak.mk ?_) ?_
   ·rw [hks];simp (disch:=omega) only [Zj,Zr,Zn,ZD,ZF,go_sem,seval]
   ·rintro ⟨k,m2⟩ ⟨hk,hm2⟩;simp only at hk hm2
    have hm2l:m2.length=m.length+k:=by grind
    refine Ye ?_;refine cD ?_ ?_<;>intro h2<;>simp (disch:=omega) only [Sh.out h2,UR,go_sem,seval]
    ·have hk2:k<ks.length:=Za
     have htk:ks.take (k+1)=ks.take k++ [nth ks k]:=by rw [Yb hk2,Zh hk2]
     simp (disch:=omega) only [hk2,go_sem,seval];exact ⟨(k+1,m2++ [⟨nth ks k,i⟩]),⟨Za,by grind⟩,Za,wk⟩
    ·have hk4:k=4:=Za
     subst hk4;refine ⟨(i+1,m2),⟨Za,?_⟩,Za,wk⟩
     simp_all [M8]
  ·have hin:i=x.types.length:=Za
   subst hin;clear hi h;refine Zm [1,34,35] (fun q:Nat×List Itm=> [(3,.sl 1 0 q.2.length q.2.length),(36,.p (.int .i64 q.1))]) (fun q=> [Zj x,.elems 2 (q.2.map X1)]) (fun q=>q.1<=x.apart.length/\q.2=m++jM x q.1) (fun q=>x.apart.length-q.1) (0,m) ⟨Zb,by simp [jM]⟩ (Weak.mk ?_) ?_
   ·simp (disch:=omega) only [Zj,go_sem,seval]
   ·rintro ⟨i,m2⟩ ⟨hi,hm2⟩;simp only at hi hm2
    have hm2l:m2.length<=m.length+i:=by grind [Ld]
    refine Ye ?_;refine cD ?_ ?_<;>intro h<;>simp (disch:=omega) only [Sh.out h,go_sem,seval,↓reduceIte]
    ·have hi2:i<x.apart.length:=Za
     refine (Lu x (nth x.apart i).1 Za).use (Zc ?_);refine QS ?_ ?_<;>intro h2
     ·refine (Lu x (nth x.apart i).2 Za).use (Zc ?_);refine ZO ?_ ?_<;>intro h3
      ·exact ⟨(i+1,m2++ [⟨5,i⟩]),⟨Za,by simp_all [Cf,G6]⟩,Za,wk⟩
      ·exact ⟨(i+1,m2),⟨Za,by grind [Cf,G6]⟩,Za,wk⟩
     ·exact ⟨(i+1,m2),⟨Za,by grind [Cf,G6]⟩,Za,wk⟩
    ·have hin:i=x.apart.length:=Za
     subst hin;clear hi h;refine Zm [1,60,61] (fun q:Nat×List Itm=> [(3,.sl 1 0 q.2.length q.2.length),(62,.p (.int .i64 q.1))]) (fun q=> [Zj x,.elems 2 (q.2.map X1)]) (fun q=>q.1<=x.before.length/\q.2=m2++jN x q.1) (fun q=>x.before.length-q.1) (0,m2) ⟨Zb,by simp [jN]⟩ (Weak.mk ?_) ?_
     ·simp (disch:=omega) only [Zj,go_sem,seval]
     ·rintro ⟨i,m3⟩ ⟨hi,hm3⟩;simp only at hi hm3
      have hm3l:m3.length<=m2.length+i:=by grind [Lf]
      refine Ye ?_;refine cD ?_ ?_<;>intro h<;>simp (disch:=omega) only [Sh.out h,go_sem,seval,↓reduceIte]
      ·have hi2:i<x.before.length:=Za
       refine (Lu x (nth x.before i).2 Za).use (Zc ?_);refine ZO ?_ ?_<;>intro h2
       ·exact ⟨(i+1,m3++ [⟨6,i⟩]),⟨Za,by simp_all [FK,Le]⟩,Za,wk⟩
       ·exact ⟨(i+1,m3),⟨Za,by grind [FK,Le]⟩,Za,wk⟩
      ·have hin:i=x.before.length:=Za
       subst hin
       have hpre:m3=Lz x:=by rw [hm3,hm2,hm,hos];rfl
       have hne:m3≠ []:=fun e=>by grind
       refine (N4 m3 hne Za (H:=_) (o:=1) rfl).mono ?_;rintro y H' ⟨rfl,ys,h1,h2,rfl⟩;have hyl:ys.length=m3.length:=h1.length_eq;refine K0 ?_;rw [<- hyl];exact ⟨ys,⟨by grind,h2⟩,1,by simp (disch:=omega) only [go_sem,seval]⟩
def Vu (x:Inst) (i:Int):Bool:=decide (0<=i)&&decide (i<(x.orders.length:Int))&& !(nth x.orders i.toNat).off
theorem Nt {x o} :Lv x o= !Vu x o:=by
 grind [Lv,Vu]
def A5 (o:Ord) (kind:Int):Bool:=if kind=1 then decide (0<=o.pick.place) else if kind=2 then decide (0<=o.drp.place) else if kind=4 then decide (o.skills≠0) else decide (o.penalty= -1)
def XB (x:Inst) (v:Itm):Bool :=
 if v.kind=1\/v.kind=2\/v.kind=4\/v.kind=10 then Vu x v.a&&A5 (nth x.orders v.a.toNat) v.kind
 else if v.kind=3\/v.kind=7\/v.kind=8\/v.kind=9 then decide (0<=v.a)&&decide (v.a<(x.types.length:Int))
 else if v.kind=5 then decide (0<=v.a)&&decide (v.a<(x.apart.length:Int))&&Vu x (nth x.apart v.a.toNat).1&&Vu x (nth x.apart v.a.toNat).2
 else if v.kind=6 then decide (0<=v.a)&&decide (v.a<(x.before.length:Int))&&Vu x (nth x.before v.a.toNat).2
 else false
theorem Si {x i} {v:Itm} :v∈jO x i↔(nth x.orders i).off=false/\v.a=(i:Int)/\((v.kind=1/\(nth x.orders i).pick.place≠ -1)\/(v.kind=2/\(nth x.orders i).drp.place≠ -1)\/(v.kind=4/\(nth x.orders i).skills≠0)\/(v.kind=10/\(nth x.orders i).penalty= -1)):=by
 have one: ∀(c:Prop) [Decidable c] (w:Itm),v∈(if c then [w] else [])↔c/\v.kind=w.kind/\v.a=w.a:=fun c _ w=>by
  grind [JP]
 unfold jO
 split
 ·grind
 ·rename_i h;simp only [Xd,one]
  grind
theorem Sj {n} {v:Itm} :v∈jP n↔(v.kind=3\/v.kind=7\/v.kind=8\/v.kind=9)/\0<=v.a/\v.a<(n:Int):=by
 simp only [jP,XU,ZL,Z5,Y6,Ws,JP]
 constructor
 ·omega
 ·rintro ⟨h,h1,h2⟩;refine ⟨v.a.toNat,Za,?_⟩;omega
theorem Sf {x n} {v:Itm} :v∈jM x n↔v.kind=5/\0<=v.a/\v.a<(n:Int)/\Vu x (nth x.apart v.a.toNat).1=true/\Vu x (nth x.apart v.a.toNat).2=true:=by
 simp only [jM,XU,ZL,G6,Nt,Bool.not_not,ZB]
 constructor
 ·grind
 ·rintro ⟨h,h1,h2,h3⟩;refine ⟨v.a.toNat,Za,?_⟩;rw [if_pos h3];simp only [Z5,Y6,Ws,JP];omega
theorem Sg {x n} {v:Itm} :v∈jN x n↔v.kind=6/\0<=v.a/\v.a<(n:Int)/\Vu x (nth x.before v.a.toNat).2=true:=by
 simp only [jN,XU,ZL,Le,Nt,Bool.not_not]
 constructor
 ·grind
 ·rintro ⟨h,h1,h2,h3⟩;refine ⟨v.a.toNat,Za,?_⟩;rw [if_pos h3];simp only [Z5,Y6,Ws,JP];omega
theorem Nm {x:Inst} (hp:Plc x) {v:Itm} :v∈Dq x x.orders.length↔(v.kind=1\/v.kind=2\/v.kind=4\/v.kind=10)/\Vu x v.a=true/\A5 (nth x.orders v.a.toNat) v.kind=true:=by
 simp only [Dq,XU,ZL,Si]
 constructor
 ·rintro ⟨i,hi,h0,ha,h⟩
  have e:v.a.toNat=i:=Za
  have hpl:=hp _ (Zt hi);rw [e];refine ⟨?_,by simp_all [Vu],?_⟩
  ·omega
  grind [A5]
 ·rintro ⟨hk,ha,ho⟩;simp only [Vu,ZB,Zq,XN] at ha
  grind [A5]
theorem Nn {x:Inst} (hp:Plc x) {v:Itm} :v∈Lz x↔XB x v=true:=by
 simp only [Lz,Xd,Nm hp,Sj,Sf,Sg,XB]
 grind
theorem T3 (x i):(jO x i).Nodup:=by
 unfold jO
 split
 ·simp
 ·split<;>split<;>split<;>split<;>simp
theorem JJ {f:Nat->List Itm} {n:Nat} (h: ∀i,(f i).Nodup) (ha: ∀i,∀v∈f i,v.a=(i:Int)):((List.range n).flatMap f).Nodup:=by
 grind [List.nodup_range]
theorem F5 {x:Inst} (hp:Plc x):(Lz x).Nodup:=by
 have n1:(Dq x x.orders.length).Nodup:=JJ (T3 x) fun i v hv=>(Si.1 hv).2.1
 have n2:(jP x.types.length).Nodup:=JJ (fun i=>Zb) fun i v hv=>by
  grind
 have n3:(jM x x.apart.length).Nodup:=JJ (fun i=>by grind [G6]) fun i v hv=>by
  grind [G6]
 have n4:(jN x x.before.length).Nodup:=JJ (fun i=>by grind [Le]) fun i v hv=>by
  grind [Le]
 rw [Lz,Cw,Cw,Cw]
 grind [Nm,Sj,Sf,Sg]
def tG (x:Inst) (k:Nat) (a:Nat):List Itm:=if XB x ⟨k+1,a⟩=true then [⟨k+1,a⟩] else []
def Zc1 (x:Inst) (k n:Nat):List Itm:=(List.range n).flatMap (tG x k)
def kB (x:Inst):Nat:=max (max (max x.orders.length x.types.length) x.apart.length) x.before.length
def Kn (x:Inst) (n:Nat):List Itm:=(List.range n).flatMap fun k=>Zc1 x k (kB x)
theorem No {x k a} {v:Itm} :v∈tG x k a↔XB x v=true/\v.kind=(k:Int)+1/\v.a=(a:Int):=by
 unfold tG
 constructor
 ·grind
 ·rintro ⟨h1,h2,h3⟩;have:v=⟨(k:Int)+1,a⟩:=JP.2 ⟨h2,h3⟩
  grind
theorem Jo {x:Inst} {v:Itm} :v∈Kn x 10↔XB x v=true:=by
 simp only [Kn,Zc1,XU,ZL,No]
 constructor
 ·grind
 ·intro h
  have hk:1<=v.kind/\v.kind<=10/\0<=v.a/\v.a<(kB x:Int):=by
   unfold XB at h;unfold kB
   split at h
   ·simp only [Vu,ZB,Zq] at h;omega
   grind
  exact ⟨(v.kind-1).toNat,Za,v.a.toNat,Za,h,Za,Za⟩
theorem D7 (x:Inst) (n:Nat):(Kn x n).Pairwise fun a b=>Kl a b<0:=by
 rw [Kn,List.pairwise_flatMap]
 grind [List.Pairwise.imp,List.pairwise_lt_range,Zc1,tG,No,JF]
theorem D9 {α:Type} {R:α->α->Prop} (asym: ∀a b,R a b-> ¬R b a): ∀ {l m:List α},l.Pairwise R->m.Pairwise R->(∀v,v∈l↔v∈m)->l=m
 | [],[],_,_,_=>rfl
 | [],b::m,_,_,h=>absurd ((h b).2 Zb) Zb
 | a::l,[],_,_,h=>absurd ((h a).1 Zb) Zb
 | a::l,b::m,hl,hm,h=>by
  rw [List.pairwise_cons] at hl hm
  have e:a=b:=by
   rcases Z5.1 ((h a).1 Zb) with e | e
   ·exact e
   ·rcases Z5.1 ((h b).2 Zb) with e2 | e2
    ·exact e2.symm
    ·exact absurd (hl.1 b e2) (asym _ _ (hm.1 a e))
  subst e;have irr: ¬R a a:=fun h=>asym a a h h;rw [D9 asym hl.2 hm.2 fun v=>⟨fun hv=> ?_,fun hv=> ?_⟩]
  ·rcases Z5.1 ((h v).1 (by simp [hv])) with e | e
   ·subst e;exact absurd (hl.1 _ hv) irr
   ·exact e
  ·rcases Z5.1 ((h v).2 (by simp [hv])) with e | e
   ·subst e;exact absurd (hm.1 _ hv) irr
   ·exact e
theorem jQ {x:Inst} (hp:Plc x) {m:List Itm} (h1:m.Perm (Lz x)) (h2:m.Pairwise fun a b=> ¬Kl b a<0):m=Kn x 10:=by
 refine D9 (R:=fun a b=>Kl a b<0) (fun a b h k=> ?_) ?_ (D7 x 10) fun v=> ?_
 ·grind [JF]
 ·have h3:m.Nodup:=h1.nodup_iff.2 (F5 hp);have h4:=List.Pairwise.and h2 h3;refine h4.imp ?_;rintro a b ⟨h5,h6⟩;rw [JF] at h5 ⊢
  grind [JP]
 grind [Nn,Jo]
theorem rP (x:Inst) (hp:Plc x) (ho:x.orders.length<=1000) (ht:0<x.types.length/\x.types.length<=1000) (ha:x.apart.length<=1000) (hb:x.before.length<=1000):PC 35 [.p (Zv x)] (.list false ((Kn x 10).map X1)):=by
 refine ACalls.frozen (S:=2) (n:=(Kn x 10).length) Zb ?_;refine (T4 x ho ht ha hb).mono ?_
 grind [jQ]
def LW (l:List Itm) (v:Itm):Int:=match l.findIdx? (fun w=>decide (v=w)) with | some i=>(i:Int) | none=> -1
theorem P5 {l:List Itm} {v:Itm} {k:Nat} (hk:k<l.length) (h:v=nth l k) (hno: ∀j,j<k-> ¬v=nth l j):LW l v=(k:Int):=by
 have:l.findIdx? (fun w=>decide (v=w))=some k:=by
  grind [Uy,Zh]
 simp [LW,this]
theorem nD {l:List Itm} {v:Itm} (hno: ∀j,j<l.length-> ¬v=nth l j):LW l v= -1:=by
 have:l.findIdx? (fun w=>decide (v=w))=none:=by
  rw [List.findIdx?_eq_none_iff];intro x hx;obtain ⟨j,hj,rfl⟩:=ZT.1 hx
  grind [Zh]
 simp [LW,this]
theorem Uc {l:List Itm} {v:Itm} :0<=LW l v↔v∈l:=by
 grind [LW]
theorem T1 (l:List Itm) (c:Bool) (v:Itm) (hl:l.length<=1048576):PC 79 [.p (.list c (l.map X1)),.p (X1 v)] (.int .i64 (LW l v)):=by
 refine Zd Tryz.func79 rfl ZiM ?_;simp (disch:=omega) only [Tryz.f79,go_sem,seval];refine Zm [0,3,7] (fun k:Nat=> [(8,.p (.int .i64 k))]) (fun _=> [.cells [.p (.int .i64 v.kind),.p (.int .i64 v.a)]]) (fun k=>k<=l.length/\ ∀j,j<k-> ¬v=nth l j) (fun k=>l.length-k) 0 Zb (Weak.mk ?_) ?_
 ·simp (disch:=omega) only [go_sem,seval,↓reduceIte]
 ·rintro k ⟨hk,hno⟩;refine Zc ?_;refine cD ?_ ?_<;>intro h<;>simp (disch:=omega) only [Sh.out h,go_sem,seval,↓reduceIte]
  ·have hk2:k<l.length:=Za
   refine Xo (Zc ?_);refine cD ?_ ?_<;>intro h2<;>simp (disch:=omega) only [Sh.out h2,go_sem,seval,↓reduceIte]
   ·grind [JP,P5]
   ·have: ¬v=nth l k:=by grind
    exact ⟨k+1,⟨Za,Zs.2 ⟨hno,this⟩⟩,Za,wk⟩
  grind [nD]
theorem UQ (l:List Itm) (c:Bool) (v:Itm) (hl:l.length<=1048576):PC 46 [.p (.list c (l.map X1)),.p (X1 v)] (.bool (decide (v∈l))):=by
 refine Zd Tryz.func46 rfl Zik ?_;simp (disch:=omega) only [Tryz.f46,go_sem,seval];refine (T1 l c v hl).use (Zc ?_);simp only [Uc]
theorem GY (l:List Typ) (c:Bool) (hl:l.length<=1048576):ACalls Tryz.prog 58 [.p (.list c (l.map X4))] [] fun y H'=>y= .sl 0 0 l.length l.length/\H'= [.elems 14 (l.map X4)]:=by
 refine Zf [1] Tryz.func58 rfl Ziv ?_;simp (disch:=omega) only [Tryz.f58,go_sem,seval];refine YO (Fg (e:=71) (cl:=c) (xs:=l.map X4) Tryz.underlying26 (by rfl) Zb fun b hb=> ?_);refine Zg [] _ _ _ _ (Zc ?_);refine cD ?_ ?_<;>intro h<;>simp (disch:=omega) only [Sh.out h,go_sem,seval]
 ·have:l= []:=by simp_all
  subst this;exact ⟨_,_,Weak.nil 0 14 rfl Zb,rfl,rfl⟩
 ·refine Zg [] _ _ _ _ (Zc ?_);exact we
theorem GX (l:List Ord) (c:Bool) (hl:l.length<=1048576):ACalls Tryz.prog 59 [.p (.list c (l.map Yh))] [] fun y H'=>y= .sl 0 0 l.length l.length/\H'= [.elems 16 (l.map Yh)]:=by
 refine Zf [1] Tryz.func59 rfl Ziw ?_;simp (disch:=omega) only [Tryz.f59,go_sem,seval];refine YO (Fg (e:=75) (cl:=c) (xs:=l.map Yh) Tryz.underlying27 (by rfl) Zb fun b hb=> ?_);refine Zg [] _ _ _ _ (Zc ?_);refine cD ?_ ?_<;>intro h<;>simp (disch:=omega) only [Sh.out h,go_sem,seval]
 ·have:l= []:=by simp_all
  subst this;exact ⟨_,_,Weak.nil 0 16 rfl Zb,rfl,rfl⟩
 ·refine Zg [] _ _ _ _ (Zc ?_);exact we
def Xe (l:List (Int×Int)) (w:List Itm) (kind:Int) (k:Nat):List (Int×Int):=(List.range k).flatMap fun (i:Nat)=>if (⟨kind,i⟩:Itm)∈w then [] else [nth l i]
theorem YJ (l w kind k):Xe l w kind (k+1)=Xe l w kind k++if (⟨kind,k⟩:Itm)∈w then [] else [nth l k]:=by simp [Xe,Yu]
theorem Dr (l w kind): ∀k,(Xe l w kind k).length<=k
 | 0=>by simp [Xe]
 | k+1=>by
  have:=Dr l w kind k;rw [YJ,ZH]
  split<;>simp<;>omega
theorem HV (l:List (Int×Int)) (w:List Itm) (kind:Int) (c d:Bool) (hl:l.length<=1048576) (hw:w.length<=1048576):PC 62 [.p (.list c (l.map eP)),.p (.list d (w.map X1)),.p (.int .i64 kind)] (.list false ((Xe l w kind l.length).map eP)):=by
 refine ACalls.frozen (S:=2) (n:=(Xe l w kind l.length).length) Zb ?_
 suffices hh:ACalls Tryz.prog 62 [.p (.list c (l.map eP)),.p (.list d (w.map X1)),.p (.int .i64 kind)] [] fun y H'=> ∃m:List (Int×Int),m=Xe l w kind l.length/\y= .sl 0 0 m.length m.length/\H'= [.elems 2 (m.map eP)] by
  grind
 refine ZW [2] Tryz.func62 rfl Ziy ?_;simp (disch:=omega) only [Tryz.f62,go_sem,seval];refine Zp (Weak.ofNil 7 2 (by simp (disch:=omega) only [go_sem,seval]) Zb (Weak.refl _ _ _)) ?_;refine Zg [] _ _ _ _ (Zc ?_);refine Zm [1,2,10,11] (fun q:Nat×List (Int×Int)=> [(7,.sl 0 0 q.2.length q.2.length),(12,.p (.int .i64 q.1))]) (fun q=> [.elems 2 (q.2.map eP)]) (fun q=>q.1<=l.length/\q.2=Xe l w kind q.1) (fun q=>l.length-q.1) (0,[]) ⟨Zb,by simp [Xe]⟩ (Weak.mk ?_) ?_
 ·simp (disch:=omega) only [go_sem,seval]
 ·rintro ⟨k,m⟩ ⟨hk,hm⟩;simp only at hk hm;have hml:=Dr l w kind k;rw [<- hm] at hml;have hs:=YJ l w kind k;refine Zc ?_;refine cD ?_ ?_<;>intro h<;>simp (disch:=omega) only [Sh.out h,go_sem,seval,↓reduceIte]
  ·have hk2:k<l.length:=Za
   refine (UQ w d ⟨kind,k⟩ hw).use (Zc ?_);refine ZO ?_ ?_<;>intro h2
   ·have h3: ¬(⟨kind,k⟩:Itm)∈w:=Za
    exact ⟨(k+1,m++ [nth l k]),⟨Za,by grind⟩,Za,wk⟩
   ·have h3:(⟨kind,k⟩:Itm)∈w:=by grind
    exact ⟨(k+1,m),⟨Za,by grind⟩,Za,wk⟩
  ·have hkl:k=l.length:=Za
   subst hkl;exact ⟨m,hm,0,by simp (disch:=omega) only [go_sem,seval]⟩
def G7 (o:Ord) (kind:Int):Ord :=
 if kind=1 then { o with pick:= { o.pick with cls:=4096 } }
 else if kind=2 then { o with drp:= { o.drp with cls:=4096 } }
 else if kind=4 then { o with skills:=0 }
 else if kind=10 then { o with penalty:=0 }
 else o
theorem AR {α β:Type} {f:α->β} {l:List α} {i:Nat} {a:α} :(l.map f).set i (f a)=(l.set i a).map f:=Zb
theorem sJ (os:List Ord) (i:Nat) (hi:i<os.length):ACalls Tryz.prog 93 [.ep 0 i 2 os.length] [.elems 16 (os.map Yh)] fun y H'=>y= .tup []/\H'= [.elems 16 ((os.set i (G7 (nth os i) 1)).map Yh)]:=by
 refine Zf [] Tryz.func93 rfl wD ?_;simp (disch:=omega) only [Tryz.f93,go_sem,seval];exact ⟨_,_,Weak.refl _ _ _,rfl,by rw [<- AR];rfl⟩
theorem sI (os:List Ord) (i:Nat) (hi:i<os.length):ACalls Tryz.prog 93 [.ep 0 i 6 os.length] [.elems 16 (os.map Yh)] fun y H'=>y= .tup []/\H'= [.elems 16 ((os.set i (G7 (nth os i) 2)).map Yh)]:=by
 refine Zf [] Tryz.func93 rfl wD ?_;simp (disch:=omega) only [Tryz.f93,go_sem,seval];exact ⟨_,_,Weak.refl _ _ _,rfl,by rw [<- AR];rfl⟩
theorem kK {α:Type} [Inhabited α] {l:List α} {i:Nat} (h:i<l.length):l.set i (nth l i)=l:=by
 grind [Zh,List.set_getElem_self]
theorem AL (os:List Ord) (i:Nat) (k:Int) (hi:i<os.length):ACalls Tryz.prog 60 [.ep 0 i 0 os.length,.p (.int .i64 k)] [.elems 16 (os.map Yh)] fun y H'=>y= .tup []/\H'= [.elems 16 ((os.set i (G7 (nth os i) k)).map Yh)]:=by
 refine Zf [] Tryz.func60 rfl Zix ?_;simp (disch:=omega) only [Tryz.f60,go_sem,seval];refine cD ?_ ?_<;>intro h1<;>simp (disch:=omega) only [Sh.out h1,go_sem,seval,↓reduceIte]
 ·subst h1;refine (sJ os i hi).useH (Zc ?_);exact ⟨_,_,Weak.refl _ _ _,rfl,rfl⟩
 ·refine cD ?_ ?_<;>intro h2<;>simp (disch:=omega) only [Sh.out h2,go_sem,seval,↓reduceIte]
  ·subst h2;refine (sI os i hi).useH (Zc ?_);exact ⟨_,_,Weak.refl _ _ _,rfl,rfl⟩
  ·refine cD ?_ ?_<;>intro h3<;>simp (disch:=omega) only [Sh.out h3,go_sem,seval,↓reduceIte]
   ·subst h3;exact ⟨_,_,Weak.refl _ _ _,rfl,by rw [<- AR];rfl⟩
   ·refine cD ?_ ?_<;>intro h4<;>simp (disch:=omega) only [Sh.out h4,go_sem,seval,↓reduceIte]
    ·subst h4;exact ⟨_,_,Weak.refl _ _ _,rfl,by rw [<- AR];rfl⟩
    ·have:G7 (nth os i) k=nth os i:=by simp_all [G7]
     rw [this,kK hi];exact ⟨_,_,Weak.refl _ _ _,rfl,rfl⟩
theorem If {α:Type} {cs:List α} {j:Nat} {v:α} (h:j<cs.length):List.take 1 (List.drop j (cs.set j v))= [v]:=by
 grind [V4]
theorem nE {α:Type} {cs:List α} {j:Nat} {v:α} (h:cs[j]? =some v):List.take 1 (List.drop j cs)= [v]:=by
 grind [V4]
theorem LV {α:Type} : ∀ {cs:List α} {j:Nat},Ja cs j []=cs
 | [],_=>rfl
 | _::_,0=>rfl
 | _::_,_+1=>by simp [Ja,LV]
theorem EU {α:Type} : ∀ {cs:List α} {j:Nat} {v:α},Ja cs j [v]=cs.set j v
 | [],_,_=>rfl
 | x::l,0,v=>by simp [Ja,LV]
 | x::l,j+1,v=>by simp [Ja,EU (cs:=l)]
theorem EY {H:List AM.Obj} {n:Nat} {x x':V} (hx:DV H n x x'): ∀ {cs:List V} {j:Nat},(∀v∈cs,refB n v=true)->Ox H n (cs.set j x) (cs.set j x')
 | [],_,_=>by simp [Ox]
 | y::l,0,h=>⟨hx,GM l fun j c hc=>h c (Yr _ (XD hc))⟩
 | y::l,j+1,h=>⟨.inr (.inl ⟨rfl,h y Zb⟩),EY hx fun v hv=>h v (Yr _ hv)⟩
theorem cN (cs:List V) (b:Nat) (l:List Int) (c:Bool) (hb:b+14<=cs.length) (hp: ∀n,∀v∈cs,refB n v=true) (h4:cs[b+4]? =some (.p (.list c (l.map eI)))) (hl:l.length<=1048576):ACalls Tryz.prog 61 [.ptr 0 b,.p (.int .i64 3)] [.cells cs] fun y H'=>y= .tup []/\H'= [.cells (cs.set (b+4) (.p (.list false ((List.replicate l.length (1000:Int)).map eI))))]:=by
 refine Zf [] Tryz.func61 rfl vZ ?_;have h5:=nE h4
 have h6:b+4+1<=cs.length:=Za
 simp (disch:=omega) only [Tryz.f61,h5,h6,go_sem,seval];refine ACalls.useF (S:=1) (n:=l.length) (xs:=l.map eI) (GW l c hl) ?_;simp (disch:=omega) only [h6,EU,If,Qz,go_sem,seval];refine Zm [0,20] (fun q:Nat×List Int=> [(21,.p (.int .i64 q.1))]) (fun q=> [.cells (cs.set (b+4) (.sl 1 0 l.length l.length)),.elems 1 (q.2.map eI)]) (fun q=>q.1<=l.length/\q.2=List.replicate q.1 (1000:Int)++l.drop q.1) (fun q=>l.length-q.1) (0,l) Zb (Weak.mk ?_) ?_
 ·refine Zc ?_;exact EY (by simp (disch:=omega) only [go_sem,seval]) (hp 2)
 ·rintro ⟨k,m⟩ ⟨hk,hm⟩;simp only at hk hm
  have hml:m.length=l.length:=by grind
  rw [<- hml] at hk ⊢
  have hme:(m.map eI).length=m.length:=Zb
  refine Zc ?_;refine cD ?_ ?_<;>intro h<;>simp (disch:=omega) only [Sh.out h,go_sem,seval,↓reduceIte]
  ·have hk2:k<m.length:=Za
   simp (disch:=omega) only [h6,EU,If,Qz,go_sem,seval];refine ⟨(k+1,m.set k 1000),⟨Za,?_⟩,Za,Weak.mk ?_⟩
   ·rw [hm]
    have hkl:k<l.length:=Za
    simp only;rw [EB _ _ Zb,V4 hkl,EF,KI];simp only [Ct,AE,ZX,ZK,Zy]
   ·simp (disch:=omega) only [jY,ZX,List.headD_cons,go_sem,seval];refine ⟨EY ?_ (hp 2),?_⟩
    ·simp (disch:=omega) only [go_sem,seval]
    grind [AR,eI]
  ·have hkl:k=m.length:=Za
   subst hkl
   have hm2:m=List.replicate m.length (1000:Int):=by grind
   rw [<- hm2];refine ⟨_,_,?_,rfl,rfl⟩;refine Weak.mk (Zc ?_);refine EY ?_ (hp 1);simp (disch:=omega) only [go_sem,seval]
theorem GI (cs:List V) (b:Nat) (k:Int) (j:Nat) (v:Int) (hk:(k=7/\j=8/\v=4096)\/(k=8/\j=9/\v=4096)\/(k=9/\j=1/\v=10)) (hb:b+14<=cs.length) (hp: ∀n,∀v∈cs,refB n v=true):ACalls Tryz.prog 61 [.ptr 0 b,.p (.int .i64 k)] [.cells cs] fun y H'=>y= .tup []/\H'= [.cells (cs.set (b+j) (.p (.int .i64 v)))]:=by
 refine Zf [] Tryz.func61 rfl vZ ?_
 have h6:b+j+1<=cs.length:=Za
 rcases hk with ⟨rfl,rfl,rfl⟩ | ⟨rfl,rfl,rfl⟩ | ⟨rfl,rfl,rfl⟩ <;>
 ·simp (disch:=omega) only [Tryz.f61,h6,EU,go_sem,seval,↓reduceIte];exact ⟨_,_,Weak.refl _ _ _,rfl,rfl⟩
def L4 (t:Typ) (kind:Int):Typ :=
 if kind=3 then { t with cap_c:=false,cap:=List.replicate t.cap.length 1000 }
 else if kind=7 then { t with cls:=4096 }
 else if kind=8 then { t with drive:=4096 }
 else if kind=9 then { t with count:=10 }
 else t
theorem Hx {S:Nat} {x' v:PV} {j:Nat} : ∀ {xs:List PV} {i:Nat} (h:i<xs.length),(∀x∈xs,x.cells.length=S)->j<S->x'.cells=(xs[i]).cells.set j v->VY (xs.set i x')=(VY xs).set (i*S+j) v
 | [],_,h,_,_,_=>absurd h Zb
 | x::xs,0,_,hS,hj,he=>by
  simp_all [VY]
 | x::xs,i+1,h,hS,hj,he=>by
  have hx:=hS x Zb;have:=Hx (xs:=xs) (i:=i) (by simpa using h) (fun y hy=>hS y (by simp [hy])) hj (by simpa using he)
  simp only [VY,Z6,Qa] at *
  rw [this,EB _ _ (by rw [hx,XR];omega),hx]
  congr 2
  rw [XR];omega
theorem QK (ts:List Typ) (i:Nat) (k:Int) (hk:k=3\/k=7\/k=8\/k=9) (hi:i<ts.length) (hc:(nth ts i).cap.length<=1048576) {H:List AM.Obj} {o:Nat} (hH:H[o]? =some (.elems 14 (ts.map X4))):ACalls Tryz.prog 61 [.ep o i 0 ts.length,.p (.int .i64 k)] H fun y H'=>y= .tup []/\H'=H.set o (.elems 14 ((ts.set i (L4 (nth ts i) k)).map X4)):=by
 have hS: ∀(us:List Typ),∀x∈us.map X4,x.cells.length=14:=fun us x hx=>by
  obtain ⟨t,_,rfl⟩:=XQ.1 hx
  rfl
 have hlen:(ts.map X4).length=ts.length:=Zb
 have hg:=Zh hi
 have main: ∀(j:Nat) (v:PV),j<14->(X4 (L4 (nth ts i) k)).cells=(X4 (nth ts i)).cells.set j v->(∀cs:List V,i*14+14<=cs.length->(∀n,∀v∈cs,refB n v=true)->cs[i*14+4]? =some (.p (.list (nth ts i).cap_c ((nth ts i).cap.map eI)))->ACalls Tryz.prog 61 [.ptr 0 (i*14),.p (.int .i64 k)] [.cells cs] fun y H'=>y= .tup []/\H'= [.cells (cs.set (i*14+j) (.p v))]) ->
   ACalls Tryz.prog 61 [.ep o i 0 ts.length,.p (.int .i64 k)] H fun y H'=>y= .tup []/\H'=H.set o (.elems 14 ((ts.set i (L4 (nth ts i) k)).map X4)):=fun j v hj he h=>by
  rw [<- hlen];refine ACalls.atF (S:=14) (ps:= [.int .i64 k]) hH (hS _) (hS _) (fun sp=> ?_) Zb;have hfl:=Ai (hS ts);have h4:(VY (ts.map X4))[i*14+4]? =some (.list (nth ts i).cap_c ((nth ts i).cap.map eI)):=Dl (S:=14) (hS ts) i (X4 (nth ts i)) 4 _ (by grind) rfl;have h4l:=(ZQ.1 h4).1;refine (h _ (by grind) (fun n v hv=> ?_) ?_).mono ?_
  ·rcases Xd.1 hv with hv | hv
   ·obtain ⟨y,_,rfl⟩:=XQ.1 hv
    rfl
   ·rw [List.eq_of_mem_replicate hv];rfl
  ·grind
  ·rintro y H' ⟨h1,rfl⟩;refine ⟨h1,List.replicate sp .junk,Zb,?_⟩;have hf:=Hx (S:=14) (x':=X4 (L4 (nth ts i) k)) (v:=v) (j:=j) (xs:=ts.map X4) (i:=i) Za (hS ts) hj (by grind);rw [AR] at hf
   grind [UT]
 rcases hk with rfl | rfl | rfl | rfl
 ·exact main 4 _ Za rfl fun cs h1 h2 h3=>cN cs _ _ _ h1 h2 h3 hc
 ·exact main 8 _ Za rfl fun cs h1 h2 _=>GI cs _ 7 8 4096 Zb h1 h2
 ·exact main 9 _ Za rfl fun cs h1 h2 _=>GI cs _ 8 9 4096 Zb h1 h2
 ·exact main 1 _ Za rfl fun cs h1 h2 _=>GI cs _ 9 1 10 Zb h1 h2
structure ISz (x:Inst):Prop where
 plc:Plc x
 ord:x.orders.length<=1000
 typ0:0<x.types.length
 typ:x.types.length<=1000
 ap:x.apart.length<=1000
 be:x.before.length<=1000
theorem Ga {x:Inst} (h:ISz x):(Kn x 10).length<=1048576:=by
 have e:(Kn x 10).Perm (Lz x):=by
  refine (List.perm_ext_iff_of_nodup ?_ (F5 h.plc)).2 fun v=>by rw [Jo,Nn h.plc]
  exact (D7 x 10).imp fun {a b} hh e=>by grind [JF]
 rw [e.length_eq];have h1:=Cg x x.orders.length;have h2:=Lh (k:=x.types.length);have h3:=Ld x x.apart.length;have h4:=Lf x x.before.length;have:=h.ord;have:=h.typ;have:=h.ap;have:=h.be
 grind [Lz]
theorem Pm (x:Inst) (h:ISz x):PC 35 [.p (Zv x)] (.list false ((Kn x 10).map X1)):=rP x h.plc h.ord ⟨h.typ0,h.typ⟩ h.ap h.be
theorem rM (x:Inst) (h:ISz x) (v:Itm):PC 22 [.p (Zv x),.p (X1 v)] (.bool (XB x v)):=by
 refine Zd Tryz.func22 rfl Zh1 ?_;simp (disch:=omega) only [Tryz.f22,go_sem,seval];refine Xo (Zc ?_);refine Zo (Pm x h) (Zc ?_);refine Zo (UQ (Kn x 10) false v (Ga h)) (Zc ?_);simp [Jo]
theorem J5 (o:Ord) (k:Int) (hk:k=1\/k=2\/k=4\/k=10):PC 49 [.p (Yh o),.p (.int .i64 k)] (.bool (A5 o k)):=by
 refine Zd Tryz.func49 rfl Zin ?_;rcases hk with rfl | rfl | rfl | rfl
 ·simp (disch:=omega) only [Tryz.f49,A5,go_sem,seval,↓reduceIte]
 ·simp (disch:=omega) only [Tryz.f49,A5,go_sem,seval,↓reduceIte]
 ·simp (disch:=omega) only [Tryz.f49,A5,go_sem,seval,↓reduceIte]
 ·simp (disch:=omega) only [Tryz.f49,A5,go_sem,seval,↓reduceIte]
theorem Qi (x:Inst) (i:Int) (hl:x.orders.length<=1048576):PC 48 [.p (Zv x),.p (.int .i64 i)] (.bool (Vu x i)):=by
 refine Zd Tryz.func48 rfl Zim ?_;simp (disch:=omega) only [Tryz.f48,go_sem,seval];refine gT ?_ ?_<;>intro h<;>simp (disch:=omega) only [Sh.out h,go_sem,seval,↓reduceIte]
 ·refine gT ?_ ?_<;>intro h2<;>simp (disch:=omega) only [Sh.out h2,go_sem,seval,↓reduceIte]
  ·simp [Vu,h,h2]
  ·simp [Vu,h2]
 ·simp [Vu,h]
theorem mC (x:Inst) (h:ISz x) (v:Itm):PC 25 [.p (Zv x),.p (X1 v)] (.bool (XB x v)):=by
 have s1:=h.ord;have s2:=h.typ;have s3:=h.ap;have s4:=h.be;refine Zd Tryz.func25 rfl Zh4 ?_;obtain ⟨k,a⟩:=v
 have gO: ∀k:Int,(k=1\/k=2\/k=4\/k=10)->XB x ⟨k,a⟩=(Vu x a&&A5 (nth x.orders a.toNat) k):=fun k h=>by simp_all [XB]
 by_cases h1:k=1\/k=2\/k=4\/k=10
 ·rw [gO k h1];rcases h1 with rfl | rfl | rfl | rfl
  ·simp (disch:=omega) only [Tryz.f25,go_sem,seval];refine Xo (Zc ?_);refine Zo (Qi x a Za) (Zc ?_);refine gT ?_ ?_<;>intro h<;>simp (disch:=omega) only [Sh.out h,go_sem,seval,↓reduceIte]
   ·have h2:0<=a/\a<(x.orders.length:Int):=by simp_all [Vu]
    refine Zc ?_;refine Zo (J5 (nth x.orders a.toNat) 1 Za) (Zc ?_);simp [h]
  ·simp (disch:=omega) only [Tryz.f25,go_sem,seval];refine Xo (Zc ?_);refine Zo (Qi x a Za) (Zc ?_);refine gT ?_ ?_<;>intro h<;>simp (disch:=omega) only [Sh.out h,go_sem,seval,↓reduceIte]
   ·have h2:0<=a/\a<(x.orders.length:Int):=by simp_all [Vu]
    refine Zc ?_;refine Zo (J5 (nth x.orders a.toNat) 2 Za) (Zc ?_);simp [h]
  ·simp (disch:=omega) only [Tryz.f25,go_sem,seval];refine Xo (Zc ?_);refine Zo (Qi x a Za) (Zc ?_);refine gT ?_ ?_<;>intro h<;>simp (disch:=omega) only [Sh.out h,go_sem,seval,↓reduceIte]
   ·have h2:0<=a/\a<(x.orders.length:Int):=by simp_all [Vu]
    refine Zc ?_;refine Zo (J5 (nth x.orders a.toNat) 4 Za) (Zc ?_);simp [h]
  ·simp (disch:=omega) only [Tryz.f25,go_sem,seval];refine Xo (Zc ?_);refine Zo (Qi x a Za) (Zc ?_);refine gT ?_ ?_<;>intro h<;>simp (disch:=omega) only [Sh.out h,go_sem,seval,↓reduceIte]
   ·have h2:0<=a/\a<(x.orders.length:Int):=by simp_all [Vu]
    refine Zc ?_;refine Zo (J5 (nth x.orders a.toNat) 10 Za) (Zc ?_);simp [h]
 ·by_cases h2:k=3\/k=7\/k=8\/k=9
  ·rcases h2 with rfl | rfl | rfl | rfl
   ·simp (disch:=omega) only [Tryz.f25,go_sem,seval];refine gT ?_ ?_<;>intro hq<;>simp (disch:=omega) only [Sh.out hq,go_sem,seval,↓reduceIte]
    ·simp [XB,hq]
    ·simp [XB,hq]
   ·simp (disch:=omega) only [Tryz.f25,go_sem,seval];refine gT ?_ ?_<;>intro hq<;>simp (disch:=omega) only [Sh.out hq,go_sem,seval,↓reduceIte]
    ·simp [XB,hq]
    ·simp [XB,hq]
   ·simp (disch:=omega) only [Tryz.f25,go_sem,seval];refine gT ?_ ?_<;>intro hq<;>simp (disch:=omega) only [Sh.out hq,go_sem,seval,↓reduceIte]
    ·simp [XB,hq]
    ·simp [XB,hq]
   ·simp (disch:=omega) only [Tryz.f25,go_sem,seval];refine gT ?_ ?_<;>intro hq<;>simp (disch:=omega) only [Sh.out hq,go_sem,seval,↓reduceIte]
    ·simp [XB,hq]
    ·simp [XB,hq]
  ·by_cases h3:k=5
   ·subst h3;simp (disch:=omega) only [Tryz.f25,go_sem,seval];refine Xo (Zc ?_);refine gT ?_ ?_<;>intro hq<;>simp (disch:=omega) only [Sh.out hq,go_sem,seval,↓reduceIte]
    ·refine gT ?_ ?_<;>intro hq2<;>simp (disch:=omega) only [Sh.out hq2,go_sem,seval,↓reduceIte]
     ·refine Zo (Qi x (nth x.apart a.toNat).1 Za) (Zc ?_);refine gT ?_ ?_<;>intro hq3<;>simp (disch:=omega) only [Sh.out hq3,go_sem,seval,↓reduceIte]
      ·refine Zo (Qi x (nth x.apart a.toNat).2 Za) (Zc ?_)
       grind [XB]
      ·simp [XB,hq3]
     ·simp [XB,hq2]
    ·simp [XB,hq]
   ·by_cases h4:k=6
    ·subst h4;simp (disch:=omega) only [Tryz.f25,go_sem,seval];refine Xo (Zc ?_);refine gT ?_ ?_<;>intro hq<;>simp (disch:=omega) only [Sh.out hq,go_sem,seval,↓reduceIte]
     ·refine gT ?_ ?_<;>intro hq2<;>simp (disch:=omega) only [Sh.out hq2,go_sem,seval,↓reduceIte]
      ·refine Zo (Qi x (nth x.before a.toNat).2 Za) (Zc ?_)
       grind [XB]
      ·simp [XB,hq2]
     ·simp [XB,hq]
    ·have e1: ¬k=1:=Za
     have e2: ¬k=2:=Za
     have e3: ¬k=3:=Za
     have e4: ¬k=4:=Za
     have e7: ¬k=7:=Za
     have e8: ¬k=8:=Za
     have e9: ¬k=9:=Za
     have e10: ¬k=10:=Za
     simp (disch:=omega) only [Tryz.f25,XB,e1,e2,e3,e4,h3,h4,e7,e8,e9,e10,go_sem,seval,↓reduceIte]
theorem XV (l:List Itm) (c:Bool) (v:Itm) (hl:l.length<=1048576):PC 26 [.p (.list c (l.map X1)),.p (X1 v)] (.int .i64 (LW l v)):=by
 refine Zd Tryz.func26 rfl Zh5 ?_;simp (disch:=omega) only [Tryz.f26,go_sem,seval];refine Zm [0,3] (fun k:Nat=> [(5,.p (.int .i64 k))]) (fun _=> [.cells [.p (.int .i64 v.kind),.p (.int .i64 v.a)]]) (fun k=>k<=l.length/\ ∀j,j<k-> ¬v=nth l j) (fun k=>l.length-k) 0 Zb (Weak.mk ?_) ?_
 ·simp (disch:=omega) only [go_sem,seval,↓reduceIte]
 ·rintro k ⟨hk,hno⟩;refine Zc ?_;refine cD ?_ ?_<;>intro h<;>simp (disch:=omega) only [Sh.out h,go_sem,seval,↓reduceIte]
  ·have hk2:k<l.length:=Za
   refine Xo (Zc ?_);refine cD ?_ ?_<;>intro h2<;>simp (disch:=omega) only [Sh.out h2,go_sem,seval,↓reduceIte]
   ·grind [JP,P5]
   ·have: ¬v=nth l k:=by grind
    exact ⟨k+1,⟨Za,Zs.2 ⟨hno,this⟩⟩,Za,wk⟩
  grind [nD]
theorem SP {l:List Itm} {v:Itm} :LW l v<0↔ ¬v∈l:=by rw [<- Uc];omega
theorem Ge (l:List (Int×Int)) (w:List Itm) (kind:Int) (c d:Bool) (hl:l.length<=1048576) (hw:w.length<=1048576):PC 27 [.p (.list c (l.map eP)),.p (.list d (w.map X1)),.p (.int .i64 kind)] (.list false ((Xe l w kind l.length).map eP)):=by
 refine ACalls.frozen (S:=2) (n:=(Xe l w kind l.length).length) Zb ?_
 suffices hh:ACalls Tryz.prog 27 [.p (.list c (l.map eP)),.p (.list d (w.map X1)),.p (.int .i64 kind)] [] fun y H'=> ∃m:List (Int×Int),m=Xe l w kind l.length/\y= .sl 0 0 m.length m.length/\H'= [.elems 2 (m.map eP)] by
  grind
 refine ZW [2] Tryz.func27 rfl Zh6 ?_;simp (disch:=omega) only [Tryz.f27,go_sem,seval];refine Zp (Weak.ofNil 7 2 (by simp (disch:=omega) only [go_sem,seval]) Zb (Weak.refl _ _ _)) ?_;refine Zg [] _ _ _ _ (Zc ?_);refine Zm [0,1,2] (fun q:Nat×List (Int×Int)=> [(7,.sl 0 0 q.2.length q.2.length),(8,.p (.int .i64 q.1))]) (fun q=> [.elems 2 (q.2.map eP)]) (fun q=>q.1<=l.length/\q.2=Xe l w kind q.1) (fun q=>l.length-q.1) (0,[]) ⟨Zb,by simp [Xe]⟩ (Weak.mk ?_) ?_
 ·simp (disch:=omega) only [go_sem,seval,↓reduceIte]
 ·rintro ⟨k,m⟩ ⟨hk,hm⟩;simp only at hk hm;have hml:=Dr l w kind k;rw [<- hm] at hml;have hs:=YJ l w kind k;refine Zc ?_;refine cD ?_ ?_<;>intro h<;>simp (disch:=omega) only [Sh.out h,go_sem,seval,↓reduceIte]
  ·have hk2:k<l.length:=Za
   refine (XV w d ⟨kind,k⟩ hw).use (Zc ?_);refine cD ?_ ?_<;>intro h2<;>simp (disch:=omega) only [Sh.out h2,go_sem,seval,↓reduceIte]
   ·have h3: ¬(⟨kind,k⟩:Itm)∈w:=SP.1 h2;exact ⟨(k+1,m++ [nth l k]),⟨Za,by grind⟩,Za,wk⟩
   ·have h3:(⟨kind,k⟩:Itm)∈w:=by simp_all [SP]
    exact ⟨(k+1,m),⟨Za,by grind⟩,Za,wk⟩
  ·have hkl:k=l.length:=Za
   subst hkl;exact ⟨m,hm,0,by simp (disch:=omega) only [go_sem,seval]⟩
def WN (o:Ord) (at':Int) (l:List Itm):Ord:= { o with
 pick:= { o.pick with cls:=if (⟨1,at'⟩:Itm)∈l then 4096 else o.pick.cls }
 drp:= { o.drp with cls:=if (⟨2,at'⟩:Itm)∈l then 4096 else o.drp.cls }
 skills:=if (⟨4,at'⟩:Itm)∈l then 0 else o.skills
 penalty:=if (⟨10,at'⟩:Itm)∈l then 0 else o.penalty }
def WC (t:Typ) (at':Int) (l:List Itm):Typ:= { t with
 cap_c:=if (⟨3,at'⟩:Itm)∈l then false else t.cap_c
 cap:=if (⟨3,at'⟩:Itm)∈l then List.replicate t.cap.length 1000 else t.cap
 cls:=if (⟨7,at'⟩:Itm)∈l then 4096 else t.cls
 drive:=if (⟨8,at'⟩:Itm)∈l then 4096 else t.drive
 count:=if (⟨9,at'⟩:Itm)∈l then 10 else t.count }
theorem kV (o a):WN o a []=o:=by simp [WN]
theorem nH (o a):WC o a []=o:=by simp [WC]
theorem HS (o a l) (v:Itm):WN o a (l++ [v])=if v.a=a then G7 (WN o a l) v.kind else WN o a l:=by
 obtain ⟨k,b⟩:=v
 by_cases h:b=a
 ·grind [WN,G7]
 grind [WN]
theorem Ih (o a l) (v:Itm):WC o a (l++ [v])=if v.a=a then L4 (WC o a l) v.kind else WC o a l:=by
 obtain ⟨k,b⟩:=v
 by_cases h:b=a
 ·subst h
  grind [WC,L4]
 grind [WC]
def Z8 (os:List Ord) (w:List Itm):List Ord:=(List.range os.length).map fun (i:Nat)=>WN (nth os i) i w
def Xa (ts:List Typ) (w:List Itm):List Typ:=(List.range ts.length).map fun (i:Nat)=>WC (nth ts i) i w
theorem YW (os w):(Z8 os w).length=os.length:=by simp [Z8]
theorem WW (os w):(Xa os w).length=os.length:=by simp [Xa]
theorem Bc {α:Type} [Inhabited α] {f:Nat->α} {n i:Nat} (h:i<n):nth ((List.range n).map f) i=f i:=by
 grind [Zh]
theorem Z0 {os w i} (h:i<os.length):nth (Z8 os w) i=WN (nth os i) i w:=Bc h
theorem Wk {os w i} (h:i<os.length):nth (Xa os w) i=WC (nth os i) i w:=Bc h
theorem Ba {α:Type} [Inhabited α] (l:List α):(List.range l.length).map (fun i=>nth l i)=l:=by
 apply Q1
 ·simp
 grind [Zh]
theorem aU (os):Z8 os []=os:=by simp_all [Z8,kV,Ba]
theorem cL (os):Xa os []=os:=by simp_all [Xa,nH,Ba]
theorem PA {o:Ord} {k:Int} (h:k=3\/k=7\/k=8\/k=9\/k=5\/k=6):G7 o k=o:=by
 unfold G7
 grind
theorem P7 {o:Typ} {k:Int} (h:k=1\/k=2\/k=4\/k=10\/k=5\/k=6):L4 o k=o:=by
 unfold L4
 grind
theorem AN {os:List Ord} {w:List Itm} {v:Itm} {i:Nat} (hi:i<os.length) (hv:v.a=(i:Int)):(Z8 os w).set i (G7 (nth (Z8 os w) i) v.kind)=Z8 os (w++ [v]):=by
 rw [Z0 hi];apply Q1
 ·simp [Z8]
 grind [Z8,HS]
theorem AX {os:List Typ} {w:List Itm} {v:Itm} {i:Nat} (hi:i<os.length) (hv:v.a=(i:Int)):(Xa os w).set i (L4 (nth (Xa os w) i) v.kind)=Xa os (w++ [v]):=by
 rw [Wk hi];apply Q1
 ·simp [Xa]
 grind [Xa,Ih]
theorem Uo {os:List Ord} {w:List Itm} {v:Itm} (h:v.kind=3\/v.kind=7\/v.kind=8\/v.kind=9\/v.kind=5\/v.kind=6):Z8 os (w++ [v])=Z8 os w:=by
 simp_all [Z8,HS,PA]
theorem Ut {os:List Typ} {w:List Itm} {v:Itm} (h:v.kind=1\/v.kind=2\/v.kind=4\/v.kind=10\/v.kind=5\/v.kind=6):Xa os (w++ [v])=Xa os w:=by
 simp_all [Xa,Ih,P7]
def Zk (x:Inst) (l:List Itm):Inst:=⟨x.net,false,Xa x.types l,false,Z8 x.orders l,false,Xe x.apart l 5 x.apart.length,false,Xe x.before l 6 x.before.length⟩
def WH (x:Inst) (l:List Itm) (i:Nat):Int:=if XB x (nth l i)=true then (if nth l i∈l.take i then 6 else 0) else 7
def Vd (x:Inst) (l:List Itm):Int:=(((List.range l.length).map (WH x l)).find? fun e=>decide (e≠0)).getD 0
theorem Af {x:Inst} {l:List Itm} {k:Nat} (hk:k<l.length) (h0: ∀j,j<k->WH x l j=0) (h:WH x l k≠0):Vd x l=WH x l k:=by
 have:((List.range l.length).map (WH x l)).find? (fun e=>decide (e≠0))=some (WH x l k):=by
  grind [Ex]
 grind [Vd]
theorem I0 {x:Inst} {l:List Itm} (h: ∀j,j<l.length->WH x l j=0):Vd x l=0:=by
 have:((List.range l.length).map (WH x l)).find? (fun e=>decide (e≠0))=none:=by
  grind
 grind [Vd]
theorem V2 {x l i} :WH x l i=0↔XB x (nth l i)=true/\nth l i ∉ l.take i:=by
 grind [WH]
theorem TM {x:Inst} {l:List Itm} :Vd x l=0↔ ∀j,j<l.length->WH x l j=0:=by
 refine ⟨fun h j hj=> ?_,I0⟩
 induction j using Nat.strongRecOn with
 | ind j ih =>
  grind [Af]
theorem Ky {x:Inst} {l:List Itm} :Vd x l=0↔(∀v∈l,XB x v=true)/\l.Nodup:=by
 rw [TM]
 constructor
 ·intro h;refine ⟨fun v hv=> ?_,?_⟩
  ·obtain ⟨j,hj,rfl⟩:=ZT.1 hv
   grind [V2,Zh]
  grind [KF,V2,Zh,ZT]
 grind [V2,ZT,KF,Zh]
def Ko (x:Inst) (l:List Itm):Inst:=if Vd x l=0 then Zk x l else zeroI
theorem rG {n word sm l i} :RO n word sm l i= []↔aM n (nth l i)=true/\(l.take i).any (sm (nth l i))=false:=by
 grind [RO]
theorem iF {n word sm l} :Jj n word sm l l.length= []↔l.length<=16/\(∀p∈l,aM n p=true)/\l.Pairwise (fun p q=>sm q p=false):=by
 rw [Jj,V5,List.flatMap_eq_nil_iff];refine and_congr (by grind [G4]) ?_;simp only [ZL,rG]
 constructor
 ·intro h;refine ⟨fun p hp=> ?_,?_⟩
  ·obtain ⟨i,hi,rfl⟩:=ZT.1 hp
   grind [Zh]
  ·rw [KF]
   grind [Zh,ZT]
 ·rintro ⟨h1,h2⟩ i hi;refine ⟨h1 _ (Zt hi),?_⟩;rw [Vg];intro p hp;obtain ⟨j,hj,rfl⟩:=ZT.1 hp
  grind [KF,Zh]
theorem IV {n:Int} {ap be:List (Int×Int)} :chk n ap be= []↔(ap.length<=16/\(∀p∈ap,aM n p=true)/\ap.Pairwise (fun p q=>decide (q=p\/(q.1=p.2/\q.2=p.1))=false))/\(be.length<=16/\(∀p∈be,aM n p=true)/\be.Pairwise (fun p q=>decide (q=p)=false)):=by
 grind [chk,V5,iF]
theorem HF (l w kind): ∀k,k<=l.length->(Xe l w kind k).Sublist (l.take k)
 | 0,_=>by simp [Xe]
 | k+1,h=>by
  rw [YJ,Yb Za];refine (HF l w kind k Za).append ?_
  split
  ·simp
  ·rw [Zh Za];exact List.Sublist.refl _
theorem Bs (l w kind):(Xe l w kind l.length).Sublist l:=by
 have:=HF l w kind l.length (ZA _)
 grind
theorem CR {n lo hi:Int} :rng n lo hi=true↔lo<=n/\n<=hi:=by simp [rng]
theorem Dj {l:List Int} {d:Int} :VB l d=true↔(1<=l.length/\l.length<=3)/\(l.length:Int)=d/\ ∀n∈l,0<=n/\n<=1000:=by
 simp only [VB,ZB,Zq,Zz,CR]
 grind
theorem C8 (t a l):(WC t a l).cap.length=t.cap.length:=by grind [WC]
theorem P6 {t a l d} (h:VB t.cap d=true):VB (WC t a l).cap d=true:=by
 grind [Dj,WC]
theorem JG (ts l):dimsOf (Xa ts l)=dimsOf ts:=by
 grind [dimsOf,WW,Wk,C8]
theorem SV {n:Net} {ts:List Typ} {l:List Itm} {i:Nat} (hi:i<ts.length) (h:Us n ts i):Us n (Xa ts l) i:=by
 unfold Us at h ⊢;rw [Wk hi,JG]
 grind [P6,Wk,WC,CR]
theorem Ic {s:Stp} (h:stpOk s=true) (hp:0<=s.place):stpOk { s with cls:=4096 } =true:=by
 grind [cI]
theorem KB {x:Inst} {k a:Int} (hk:k=1\/k=2\/k=4\/k=10):XB x ⟨k,a⟩=true↔Vu x a=true/\A5 (nth x.orders a.toNat) k=true:=by
 simp_all [XB]
theorem oI {np:Nat} {d ty:Int} {os:List Ord} {l:List Itm} {i:Nat} (hi:i<os.length) (h:OrdOk np d ty os i) (h1:(⟨1,i⟩:Itm)∈l->0<=(nth os i).pick.place) (h2:(⟨2,i⟩:Itm)∈l->0<=(nth os i).drp.place):OrdOk np d ty (Z8 os l) i:=by
 constructor
 ·rw [Z0 hi];exact h.name
 ·intro j hj;rw [Z0 hi,Z0 Za];exact h.twin j hj
 ·rw [Z0 hi];exact h.load
 ·rw [Z0 hi];exact h.pick
 ·rw [Z0 hi];exact h.drp
 ·rw [Z0 hi];exact h.one
 ·rw [Z0 hi];simp only [WN];split
  ·rename_i hm;exact Ic h.pstp (h1 hm)
  ·exact h.pstp
 ·rw [Z0 hi];simp only [WN];split
  ·rename_i hm;exact Ic h.dstp (h2 hm)
  ·exact h.dstp
 ·rw [Z0 hi];have:=h.skills;grind [WN]
 ·rw [Z0 hi];have:=h.arg;simp only [argOk,ZB,Zq,CR] at this ⊢;refine ⟨⟨?_,this.1.2⟩,this.2⟩
  grind [WN]
theorem Vm {x:Inst} {l:List Itm} (h:InstOk x) (hI: ∀v∈l,XB x v=true):InstOk (Zk x l):=by
 have ht:=h.types;have ho:=h.orders;obtain ⟨⟨a1,a2,a3⟩,b1,b2,b3⟩:=IV.1 h.rules;refine ⟨h.net,⟨?_,fun i hi=> ?_⟩,⟨?_,fun i hi=> ?_⟩,?_⟩
 ·show rng (Xa x.types l).length 1 6=true
  rw [WW];exact ht.1
 ·have hi2:i<x.types.length:=by grind [Zk,WW]
  exact SV hi2 (ht.2 i hi2)
 ·show (Z8 x.orders l).length<=10
  rw [YW];exact ho.1
 ·have hi2:i<x.orders.length:=by grind [Zk,YW]
  show OrdOk x.net.places.length (dimsOf (Xa x.types l)) (Xa x.types l).length (Z8 x.orders l) i
  rw [JG,WW];refine oI hi2 (ho.2 i hi2) (fun hm=> ?_) (fun hm=> ?_)
  ·grind [KB,A5]
  grind [KB,A5]
 ·show chk ((Z8 x.orders l).length:Int) (Xe x.apart l 5 x.apart.length) (Xe x.before l 6 x.before.length)= []
  grind [YW,IV,Bs]
theorem JN {x:Inst} (h:InstOk x):ISz x:=by
 have hf:=XJ h;have ht:=CR.1 h.types.1;obtain ⟨⟨a1,_,_⟩,b1,_,_⟩:=IV.1 h.rules;have:=h.orders.1;exact ⟨hf.plc,Za,Za,Za,Za,Za⟩
theorem FJ {x:Inst} (h:InstOk x): ∀t∈x.types,t.cap.length<=1048576:=fun t hm=>by
 obtain ⟨i,hi,rfl⟩:=ZT.1 hm;have:=h.types.2 i hi;have h5:=(Dj.1 this.1.1.1.1.2).1
 grind [Zh]
theorem DQ {P Q:Prop} (h:Q) (e:Q->P:=by intro h;simp (disch:=omega) only [Zj,zeroI,Zn,go_sem,seval];exact h):P:=e h
theorem Sz (x:Inst) (hs:ISz x) (hcap: ∀t∈x.types,t.cap.length<=1048576) (l:List Itm) (c:Bool) (hl:l.length<=1048576):PT 34 [.p (Zv x),.p (.list c (l.map X1))] [.p (Zv (Ko x l)),.p (.int .i64 (Vd x l))]:=by
 have s1:=hs.ord;have s2:=hs.typ;have s3:=hs.ap;have s4:=hs.be;have hrl:=Ga hs;refine Zf [27] Tryz.func34 rfl Zic ?_;simp (disch:=omega) only [Tryz.f34,go_sem,seval];refine (Pm x hs).use (Zc ?_);have zI:Zv zeroI= .agg [.list true [],.list true [],.list true [],.list true [],.list true [],.list true []]:=rfl;refine Z4 [10] [1,2,4,6,13,14] (fun k:Nat=> [(15,.p (.int .i64 k))]) (fun _=> [Zj x,Zj zeroI]) (fun k=>k<=l.length/\ ∀j,j<k->WH x l j=0) (fun k=>l.length-k) 0 Zb (Weak.mk ?_) ?_
 ·simp (disch:=omega) only [Zj,zeroI,Zn,go_sem,seval]
 ·rintro k ⟨hk,hno⟩;refine DQ ?_;refine cD ?_ ?_<;>intro h<;>simp (disch:=omega) only [Sh.out h,go_sem,seval,↓reduceIte]
  ·have hk2:k<l.length:=Za
   refine (UQ (Kn x 10) false (nth l k) hrl).use (Zc ?_);refine cD ?_ ?_<;>intro h2<;>simp (disch:=omega) only [Sh.out h2,go_sem,seval,↓reduceIte]
   ·have h3:XB x (nth l k)=false:=by grind [Jo]
    have e0:WH x l k=7:=by rw [WH,h3];rfl
    have e:Vd x l=7:=by grind [Af]
    have r:Ko x l=zeroI:=by rw [Ko,e];rfl
    simp only [e,r,zeroI,Zn];exact we
   ·have h3:XB x (nth l k)=true:=by simp_all [Jo]
    refine Xo (Zc ?_);refine Zo (UQ (l.take k) _ (nth l k) (by simp;omega)) (Zc ?_);refine ZO ?_ ?_<;>intro h4
    ·have e0:WH x l k=6:=by simp_all [WH]
     have e:Vd x l=6:=by grind [Af]
     have r:Ko x l=zeroI:=by rw [Ko,e];rfl
     simp only [e,r,zeroI,Zn];exact we
    ·exact ⟨k+1,⟨Za,Zs.2 ⟨hno,V2.2 ⟨h3,h4⟩⟩⟩,Za,wk⟩
  ·have hkl:k=l.length:=Za
   subst hkl;have e:Vd x l=0:=I0 hno
   have r:Ko x l=Zk x l:=by rw [Ko,if_pos e]
   rw [e,r];clear hk h;refine Ts [1,2,4] (fun _:Unit=> []) (fun _=> [.cells [.p (.list x.net.places_c (x.net.places.map eS)),.p (.list x.net.arcs_c (x.net.arcs.map VW)),.sl 2 0 x.types.length x.types.length,.sl 3 0 x.orders.length x.orders.length,.p (.list x.apart_c (x.apart.map eP)),.p (.list x.before_c (x.before.map eP))],Zj zeroI,.elems 14 (x.types.map X4),.elems 16 (x.orders.map Yh)]) (fun _=>True) ?_ ?_
   ·refine Fh (.cons 0 (.cons 1 (.cons 2 (.cons 3 (.cons 4 (.cons 5 (.cons 6 (.cons 7 (.cons 8 (.cons 9 .nil .nil) .nil) .nil) .nil) (.cons 6 (.cons 5 (.cons 7 (.cons 8 (.cons 9 .nil .nil) .nil) .nil) .nil) .nil)) .nil) .nil) (.cons 3 (.cons 2 (.cons 4 (.cons 5 (.cons 6 (.cons 7 (.cons 8 (.cons 9 .nil .nil) .nil) .nil) .nil) (.cons 6 (.cons 5 (.cons 7 (.cons 8 (.cons 9 .nil .nil) .nil) .nil) .nil) .nil)) .nil) (.cons 4 (.cons 2 (.cons 5 (.cons 6 (.cons 7 (.cons 8 (.cons 9 .nil .nil) .nil) .nil) .nil) (.cons 6 (.cons 5 (.cons 7 (.cons 8 (.cons 9 .nil .nil) .nil) .nil) .nil) .nil)) .nil) .nil)) .nil)) (.cons 3 (.cons 1 (.cons 2 (.cons 4 (.cons 5 (.cons 6 (.cons 7 (.cons 8 (.cons 9 .nil .nil) .nil) .nil) .nil) (.cons 6 (.cons 5 (.cons 7 (.cons 8 (.cons 9 .nil .nil) .nil) .nil) .nil) .nil)) .nil) (.cons 4 (.cons 2 (.cons 5 (.cons 6 (.cons 7 (.cons 8 (.cons 9 .nil .nil) .nil) .nil) .nil) (.cons 6 (.cons 5 (.cons 7 (.cons 8 (.cons 9 .nil .nil) .nil) .nil) .nil) .nil)) .nil) .nil)) (.cons 4 (.cons 1 (.cons 2 (.cons 5 (.cons 6 (.cons 7 (.cons 8 (.cons 9 .nil .nil) .nil) .nil) .nil) (.cons 6 (.cons 5 (.cons 7 (.cons 8 (.cons 9 .nil .nil) .nil) .nil) .nil) .nil)) .nil) .nil) .nil)) .nil)) (.cons 3 (.cons 0 (.cons 1 (.cons 2 (.cons 4 (.cons 5 (.cons 6 (.cons 7 (.cons 8 (.cons 9 .nil .nil) .nil) .nil) .nil) (.cons 6 (.cons 5 (.cons 7 (.cons 8 (.cons 9 .nil .nil) .nil) .nil) .nil) .nil)) .nil) (.cons 4 (.cons 2 (.cons 5 (.cons 6 (.cons 7 (.cons 8 (.cons 9 .nil .nil) .nil) .nil) .nil) (.cons 6 (.cons 5 (.cons 7 (.cons 8 (.cons 9 .nil .nil) .nil) .nil) .nil) .nil)) .nil) .nil)) (.cons 4 (.cons 1 (.cons 2 (.cons 5 (.cons 6 (.cons 7 (.cons 8 (.cons 9 .nil .nil) .nil) .nil) .nil) (.cons 6 (.cons 5 (.cons 7 (.cons 8 (.cons 9 .nil .nil) .nil) .nil) .nil) .nil)) .nil) .nil) .nil)) (.cons 4 (.cons 0 (.cons 1 (.cons 2 (.cons 5 (.cons 6 (.cons 7 (.cons 8 (.cons 9 .nil .nil) .nil) .nil) .nil) (.cons 6 (.cons 5 (.cons 7 (.cons 8 (.cons 9 .nil .nil) .nil) .nil) .nil) .nil)) .nil) .nil) .nil) .nil)) .nil)) mixed Ze ?_
    have cT:ACalls Tryz.prog 58 [.p (.list x.types_c (x.types.map X4))] [] fun y H'=>y= .sl 0 0 x.types.length x.types.length/\H'= [.elems 14 (x.types.map X4)]:=GY x.types x.types_c Za;have cO:ACalls Tryz.prog 59 [.p (.list x.orders_c (x.orders.map Yh))] [] fun y H'=>y= .sl 0 0 x.orders.length x.orders.length/\H'= [.elems 16 (x.orders.map Yh)]:=GX x.orders x.orders_c Za
    repeat' first
     | refine De ?_ ?_
     | (refine cT.useF ?_;simp (disch:=omega) only [go_sem,seval,↓reduceIte])
     | (refine cO.useF ?_;simp (disch:=omega) only [go_sem,seval,↓reduceIte])
     | exact ⟨(),Weak.mk (by simp (disch:=omega) only [Zj,zeroI,Zn,go_sem,seval])⟩
     | simp (disch:=omega) only [go_sem,seval]
   ·rintro _ _;refine DQ ?_;have lT:=WW x.types;have lO:=YW x.orders
    have hcap2: ∀k i,i<x.types.length->(nth (Xa x.types (l.take k)) i).cap.length<=1048576:=fun k i hi=>by
     grind [Wk,Zt,WC]
    refine Z4 [26,27] [1,2,4,42,43] (fun k:Nat=> [(44,.p (.int .i64 k))]) (fun k=> [.cells [.p (.list x.net.places_c (x.net.places.map eS)),.p (.list x.net.arcs_c (x.net.arcs.map VW)),.sl 2 0 x.types.length x.types.length,.sl 3 0 x.orders.length x.orders.length,.p (.list x.apart_c (x.apart.map eP)),.p (.list x.before_c (x.before.map eP))],Zj zeroI,.elems 14 ((Xa x.types (l.take k)).map X4),.elems 16 ((Z8 x.orders (l.take k)).map Yh)]) (fun k=>k<=l.length) (fun k=>l.length-k) 0 Zb (Weak.mk ?_) ?_
    ·simp (disch:=omega) only [Zj,zeroI,Zn,Q2,cL,aU,go_sem,seval]
    ·rintro k hk;refine DQ ?_;have hhas:k<l.length->XB x (nth l k)=true:=fun h=>(V2.1 (hno k h)).1
     have hsn:k<l.length->l.take (k+1)=l.take k++ [nth l k]:=fun h=>by rw [Yb h,Zh h]
     refine cD ?_ ?_<;>intro h<;>simp (disch:=omega) only [Sh.out h,go_sem,seval,↓reduceIte]
     ·have hk2:k<l.length:=Za
      have hhas:=hhas hk2;have hsn:=hsn hk2
      have hgo: ∀kd a,nth l k=⟨kd,a⟩->(kd=1\/kd=2\/kd=4\/kd=10)/\(0<=a/\a<(x.orders.length:Int))\/(kd=3\/kd=7\/kd=8\/kd=9)/\(0<=a/\a<(x.types.length:Int))\/kd=5\/kd=6:=fun kd a e=>by
       rw [e] at hhas;unfold XB at hhas;simp only at hhas
       split at hhas
       ·simp_all [Vu]
       grind
      generalize hv:nth l k=v at hgo hsn ⊢;obtain ⟨kd,a⟩:=v;rcases hgo kd a rfl with ⟨hkd,ha⟩ | ⟨hkd,ha⟩ | hkd
      ·rcases hkd with rfl | rfl | rfl | rfl
       ·have hmO:((Z8 x.orders (l.take k)).map Yh).length=x.orders.length:=by grind
        have c9:=AL (Z8 x.orders (l.take k)) a.toNat 1 (by grind);rw [AN Za (v:=⟨1,a⟩) (by grind),<- hsn,lO,<- hmO] at c9
        have eT:Xa x.types (l.take (k+1))=Xa x.types (l.take k):=by grind [Ut]
        refine Zc ?_;refine ZC 7 mixed Ze Ze (Zc ?_);rw [<- hmO];refine (ACalls.atE (ps:= [.int .i64 1]) (o:=3) rfl c9 (by simp [lO])).useH (K0 ?_);refine ⟨k+1,Za,Za,Weak.mk ?_⟩
        try simp only [lO]
        simp (disch:=omega) only [eT,go_sem,seval]
       ·have hmO:((Z8 x.orders (l.take k)).map Yh).length=x.orders.length:=by grind
        have c9:=AL (Z8 x.orders (l.take k)) a.toNat 2 (by grind);rw [AN Za (v:=⟨2,a⟩) (by grind),<- hsn,lO,<- hmO] at c9
        have eT:Xa x.types (l.take (k+1))=Xa x.types (l.take k):=by grind [Ut]
        refine Zc ?_;refine ZC 7 mixed Ze Ze (Zc ?_);rw [<- hmO];refine (ACalls.atE (ps:= [.int .i64 2]) (o:=3) rfl c9 (by simp [lO])).useH (K0 ?_);refine ⟨k+1,Za,Za,Weak.mk ?_⟩
        try simp only [lO]
        simp (disch:=omega) only [eT,go_sem,seval]
       ·have hmO:((Z8 x.orders (l.take k)).map Yh).length=x.orders.length:=by grind
        have c9:=AL (Z8 x.orders (l.take k)) a.toNat 4 (by grind);rw [AN Za (v:=⟨4,a⟩) (by grind),<- hsn,lO,<- hmO] at c9
        have eT:Xa x.types (l.take (k+1))=Xa x.types (l.take k):=by grind [Ut]
        refine Zc ?_;refine ZC 7 mixed Ze Ze (Zc ?_);rw [<- hmO];refine (ACalls.atE (ps:= [.int .i64 4]) (o:=3) rfl c9 (by simp [lO])).useH (K0 ?_);refine ⟨k+1,Za,Za,Weak.mk ?_⟩
        try simp only [lO]
        simp (disch:=omega) only [eT,go_sem,seval]
       ·have hmO:((Z8 x.orders (l.take k)).map Yh).length=x.orders.length:=by grind
        have c9:=AL (Z8 x.orders (l.take k)) a.toNat 10 (by grind);rw [AN Za (v:=⟨10,a⟩) (by grind),<- hsn,lO,<- hmO] at c9
        have eT:Xa x.types (l.take (k+1))=Xa x.types (l.take k):=by grind [Ut]
        refine Zc ?_;refine ZC 7 mixed Ze Ze (Zc ?_);rw [<- hmO];refine (ACalls.atE (ps:= [.int .i64 10]) (o:=3) rfl c9 (by simp [lO])).useH (K0 ?_);refine ⟨k+1,Za,Za,Weak.mk ?_⟩
        try simp only [lO]
        simp (disch:=omega) only [eT,go_sem,seval]
      ·rcases hkd with rfl | rfl | rfl | rfl
       ·have hmT:((Xa x.types (l.take k)).map X4).length=x.types.length:=by grind
        have c9:=fun (H:List AM.Obj) (hH:H[2]? =some (.elems 14 ((Xa x.types (l.take k)).map X4)))=>QK (Xa x.types (l.take k)) a.toNat 3 Zb (by grind) (hcap2 k a.toNat Za) hH;rw [AX Za (v:=⟨3,a⟩) (by grind),<- hsn,lT,<- hmT] at c9
        have eO:Z8 x.orders (l.take (k+1))=Z8 x.orders (l.take k):=by grind [Uo]
        refine Zc ?_;refine ZC 7 mixed Ze Ze (Zc ?_);rw [<- hmT];refine (c9 _ rfl).useH (K0 ?_);refine ⟨k+1,Za,Za,Weak.mk ?_⟩
        try simp only [lT]
        simp (disch:=omega) only [eO,go_sem,seval]
       ·have hmT:((Xa x.types (l.take k)).map X4).length=x.types.length:=by grind
        have c9:=fun (H:List AM.Obj) (hH:H[2]? =some (.elems 14 ((Xa x.types (l.take k)).map X4)))=>QK (Xa x.types (l.take k)) a.toNat 7 Zb (by grind) (hcap2 k a.toNat Za) hH;rw [AX Za (v:=⟨7,a⟩) (by grind),<- hsn,lT,<- hmT] at c9
        have eO:Z8 x.orders (l.take (k+1))=Z8 x.orders (l.take k):=by grind [Uo]
        refine Zc ?_;refine ZC 7 mixed Ze Ze (Zc ?_);rw [<- hmT];refine (c9 _ rfl).useH (K0 ?_);refine ⟨k+1,Za,Za,Weak.mk ?_⟩
        try simp only [lT]
        simp (disch:=omega) only [eO,go_sem,seval]
       ·have hmT:((Xa x.types (l.take k)).map X4).length=x.types.length:=by grind
        have c9:=fun (H:List AM.Obj) (hH:H[2]? =some (.elems 14 ((Xa x.types (l.take k)).map X4)))=>QK (Xa x.types (l.take k)) a.toNat 8 Zb (by grind) (hcap2 k a.toNat Za) hH;rw [AX Za (v:=⟨8,a⟩) (by grind),<- hsn,lT,<- hmT] at c9
        have eO:Z8 x.orders (l.take (k+1))=Z8 x.orders (l.take k):=by grind [Uo]
        refine Zc ?_;refine ZC 7 mixed Ze Ze (Zc ?_);rw [<- hmT];refine (c9 _ rfl).useH (K0 ?_);refine ⟨k+1,Za,Za,Weak.mk ?_⟩
        try simp only [lT]
        simp (disch:=omega) only [eO,go_sem,seval]
       ·have hmT:((Xa x.types (l.take k)).map X4).length=x.types.length:=by grind
        have c9:=fun (H:List AM.Obj) (hH:H[2]? =some (.elems 14 ((Xa x.types (l.take k)).map X4)))=>QK (Xa x.types (l.take k)) a.toNat 9 Zb (by grind) (hcap2 k a.toNat Za) hH;rw [AX Za (v:=⟨9,a⟩) (by grind),<- hsn,lT,<- hmT] at c9
        have eO:Z8 x.orders (l.take (k+1))=Z8 x.orders (l.take k):=by grind [Uo]
        refine Zc ?_;refine ZC 7 mixed Ze Ze (Zc ?_);rw [<- hmT];refine (c9 _ rfl).useH (K0 ?_);refine ⟨k+1,Za,Za,Weak.mk ?_⟩
        try simp only [lT]
        simp (disch:=omega) only [eO,go_sem,seval]
      ·have eT:Xa x.types (l.take (k+1))=Xa x.types (l.take k):=by grind [Ut]
       have eO:Z8 x.orders (l.take (k+1))=Z8 x.orders (l.take k):=by grind [Uo]
       rcases hkd with rfl | rfl
       ·simp (disch:=omega) only [Zn,go_sem,seval];exact ⟨k+1,Za,Za,Weak.mk (by simp (disch:=omega) only [eT,eO,go_sem,seval])⟩
       ·simp (disch:=omega) only [Zn,go_sem,seval];exact ⟨k+1,Za,Za,Weak.mk (by simp (disch:=omega) only [eT,eO,go_sem,seval])⟩
     ·have hkl:k=l.length:=Za
      subst hkl;rw [YV];have cA:=HV x.apart l 5 x.apart_c c Za hl;have cB:=HV x.before l 6 x.before_c c Za hl;refine ZC 9 mixed Ze Ze (Zc ?_);refine Zo (cA) (Zc ?_);refine Zo (cB) (Zc ?_);rw [<- lT l,<- lO l];refine Zp (Weak.fz (o:=2) (by rfl)) ?_;refine Zp (Weak.fz (o:=3) (by rfl)) (Zg [] _ _ _ _ (UM ?_));exact we (by simp (disch:=omega) only [Zk,go_sem,seval])
theorem LG (o:Ord) (a:Int) (w:List Itm) (d:Bool) (hw:w.length<=1048576):PC 28 [.p (Yh o),.p (.int .i64 a),.p (.list d (w.map X1))] (Yh (WN o a w)):=by
 refine Zd Tryz.func28 rfl Zh7 ?_;have n1:(0<=LW w ⟨1,a⟩)=((⟨1,a⟩:Itm)∈w):=propext Uc;have n2:(0<=LW w ⟨2,a⟩)=((⟨2,a⟩:Itm)∈w):=propext Uc;have n4:(0<=LW w ⟨4,a⟩)=((⟨4,a⟩:Itm)∈w):=propext Uc;have n10:(0<=LW w ⟨10,a⟩)=((⟨10,a⟩:Itm)∈w):=propext Uc
 by_cases h1:(⟨1,a⟩:Itm)∈w<;>by_cases h2:(⟨2,a⟩:Itm)∈w<;>by_cases h4:(⟨4,a⟩:Itm)∈w<;>by_cases h10:(⟨10,a⟩:Itm)∈w
 all_goals
  simp (disch:=omega) only [Tryz.f28,go_sem,seval,↓reduceIte];refine (XV w d ⟨1,a⟩ hw).use ?_;simp (disch:=omega) only [n1,h1,go_sem,seval,↓reduceIte];refine (XV w d ⟨2,a⟩ hw).use ?_;simp (disch:=omega) only [n2,h2,go_sem,seval,↓reduceIte];refine (XV w d ⟨4,a⟩ hw).use ?_;simp (disch:=omega) only [n4,h4,go_sem,seval,↓reduceIte];refine (XV w d ⟨10,a⟩ hw).use ?_;simp (disch:=omega) only [n10,h10,WN,h1,h2,h4,go_sem,seval,↓reduceIte]
def nT : Typ:=⟨[],0,0,0,true,[],0,0,0,0,0,0,0,0,0⟩
theorem NK (t:Typ) (a:Int) (w:List Itm) (d:Bool) (hw:w.length<=1048576) (hc:t.cap.length<=1048576):PC 29 [.p (X4 t),.p (.int .i64 a),.p (.list d (w.map X1))] (X4 (WC t a w)):=by
 refine Vw [3,8] Tryz.func29 rfl Zh8 ?_;have n3:(0<=LW w ⟨3,a⟩)=((⟨3,a⟩:Itm)∈w):=propext Uc;have n7:(0<=LW w ⟨7,a⟩)=((⟨7,a⟩:Itm)∈w):=propext Uc;have n8:(0<=LW w ⟨8,a⟩)=((⟨8,a⟩:Itm)∈w):=propext Uc;have n9:(0<=LW w ⟨9,a⟩)=((⟨9,a⟩:Itm)∈w):=propext Uc
 by_cases h3:(⟨3,a⟩:Itm)∈w
 ·simp (disch:=omega) only [Tryz.f29,go_sem,seval];refine (XV w d ⟨3,a⟩ hw).use ?_;simp (disch:=omega) only [n3,h3,go_sem,seval];refine Zp (Weak.ofNil 7 1 (by simp (disch:=omega) only [go_sem,seval]) Zb (Weak.refl _ _ _)) ?_;refine Zg [] _ _ _ _ (Zc ?_);refine Z4 [] [1,2,3,6] (fun k:Nat=> [(7,.sl 2 0 (List.replicate k (1000:Int)).length (List.replicate k (1000:Int)).length),(8,.p (.int .i64 k))]) (fun k=> [Yf t,Yf nT,.elems 1 ((List.replicate k (1000:Int)).map eI)]) (fun k=>k<=t.cap.length) (fun k=>t.cap.length-k) 0 Zb (Weak.mk ?_) ?_
  ·simp (disch:=omega) only [Yf,nT,go_sem,seval]
  ·intro k hk
   have hlr:(List.replicate k (1000:Int)).length=k:=Zb
   have hsn:List.replicate (k+1) (1000:Int)=List.replicate k (1000:Int)++ [1000]:=by rw [EF]
   generalize hm:List.replicate k (1000:Int)=m at hlr hsn ⊢;simp (disch:=omega) only [Yf,nT,go_sem,seval];refine ZO ?_ ?_<;>intro h
   ·exact ⟨k+1,Za,Za,Weak.mk (by rw [hsn];simp (disch:=omega) only [go_sem,seval])⟩
   ·have hk2:k=t.cap.length:=Za
    subst hk2;subst hm;refine Zp (Weak.fz (o:=2) (by rfl)) (Zg [] _ _ _ _ (UM ?_))
    by_cases h7:(⟨7,a⟩:Itm)∈w<;>by_cases h8:(⟨8,a⟩:Itm)∈w<;>by_cases h9:(⟨9,a⟩:Itm)∈w
    all_goals
     refine (XV w d ⟨7,a⟩ hw).use ?_;simp (disch:=omega) only [n7,h7,go_sem,seval,↓reduceIte];refine (XV w d ⟨8,a⟩ hw).use ?_;simp (disch:=omega) only [n8,h8,go_sem,seval,↓reduceIte];refine (XV w d ⟨9,a⟩ hw).use ?_;simp (disch:=omega) only [n9,h9,WC,h3,h7,h8,go_sem,seval,↓reduceIte]
 ·simp (disch:=omega) only [Tryz.f29,go_sem,seval];refine (XV w d ⟨3,a⟩ hw).use ?_;simp (disch:=omega) only [n3,h3,go_sem,seval];refine Zg [] _ _ _ _ (Zc ?_)
  by_cases h7:(⟨7,a⟩:Itm)∈w<;>by_cases h8:(⟨8,a⟩:Itm)∈w<;>by_cases h9:(⟨9,a⟩:Itm)∈w
  all_goals
   refine (XV w d ⟨7,a⟩ hw).use ?_;simp (disch:=omega) only [n7,h7,go_sem,seval,↓reduceIte];refine (XV w d ⟨8,a⟩ hw).use ?_;simp (disch:=omega) only [n8,h8,go_sem,seval,↓reduceIte];refine (XV w d ⟨9,a⟩ hw).use ?_;simp (disch:=omega) only [n9,h9,WC,h3,h7,h8,go_sem,seval,↓reduceIte]
theorem N9 {l:List Itm} {k:Nat} (hk:k<l.length):LW l (nth l k)=(k:Int)↔nth l k ∉ l.take k:=by
 constructor
 ·grind [ZT,LW,Uy]
 ·intro h;refine P5 hk rfl fun j hj e=>h ?_
  grind [Zh,ZT]
theorem LN (x:Inst) (hs:ISz x) (hcap: ∀t∈x.types,t.cap.length<=1048576) (l:List Itm) (c:Bool) (hl:l.length<=1048576):PT 11 [.p (Zv x),.p (.list c (l.map X1))] [.p (Zv (Ko x l)),.p (.int .i64 (Vd x l))]:=by
 have s1:=hs.ord;have s2:=hs.typ;have s3:=hs.ap;have s4:=hs.be;refine Zf [9,13,17] Tryz.func11 rfl ZhU ?_;simp (disch:=omega) only [Tryz.f11,go_sem,seval];have zI:Zv zeroI= .agg [.list true [],.list true [],.list true [],.list true [],.list true [],.list true []]:=rfl;refine Zm [1,2,4] (fun k:Nat=> [(6,.p (.int .i64 k))]) (fun _=> [Zj x,Zj zeroI]) (fun k=>k<=l.length/\ ∀j,j<k->WH x l j=0) (fun k=>l.length-k) 0 Zb (Weak.mk ?_) ?_
 ·simp (disch:=omega) only [Zj,zeroI,Zn,go_sem,seval]
 ·rintro k ⟨hk,hno⟩;refine DQ ?_;refine cD ?_ ?_<;>intro h<;>simp (disch:=omega) only [Sh.out h,go_sem,seval,↓reduceIte]
  ·have hk2:k<l.length:=Za
   refine Xo (Zc ?_);refine Zo (mC x hs (nth l k)) (Zc ?_);refine cD ?_ ?_<;>intro h2<;>simp (disch:=omega) only [Sh.out h2,go_sem,seval,↓reduceIte]
   ·have h3:XB x (nth l k)=false:=by grind
    have e0:WH x l k=7:=by rw [WH,h3];rfl
    have e:Vd x l=7:=by grind [Af]
    have r:Ko x l=zeroI:=by rw [Ko,e];rfl
    simp only [e,r,zeroI,Zn];exact we
   ·have h3:XB x (nth l k)=true:=by grind
    refine (XV l c (nth l k) hl).use (Zc ?_);refine ZO ?_ ?_<;>intro h4
    ·have h5:nth l k∈l.take k:=JW fun h=>h4 ((N9 hk2).2 h)
     have e0:WH x l k=6:=by simp_all [WH]
     have e:Vd x l=6:=by grind [Af]
     have r:Ko x l=zeroI:=by rw [Ko,e];rfl
     simp only [e,r,zeroI,Zn];exact we
    ·have h5:nth l k ∉ l.take k:=(N9 hk2).1 (Z2.1 h4);exact ⟨k+1,⟨Za,Zs.2 ⟨hno,V2.2 ⟨h3,h5⟩⟩⟩,Za,wk⟩
  ·have hkl:k=l.length:=Za
   subst hkl;have e:Vd x l=0:=I0 hno
   have r:Ko x l=Zk x l:=by rw [Ko,if_pos e]
   rw [e,r];clear hk h;refine OM 11 12 _ [.cells [.p (.list true []),.p (.list true []),.p (.list true []),.p (.list true []),.p (.list true []),.p (.list true [])]] (.ptr 2 0) mixed Ze Ze (by decide) rfl rfl Zb (fun fr'=>by simp (disch:=omega) only [go_sem,seval]) (Zc ?_);refine Zo (Ge x.apart l 5 x.apart_c c Za hl) (Zc ?_);refine Zo (Ge x.before l 6 x.before_c c Za hl) (Zc ?_);refine Zp (Weak.nilC (o:=2) (j:=3) 16 rfl rfl Zb) ?_;refine Zg [13,17] _ _ _ _ ?_
   simp (disch:=omega) only [Z6,ZX,ZK,Zy,go_sem,seval];obtain ⟨os,hos⟩: ∃os,os=Z8 x.orders l:=⟨_,rfl⟩
   have hol:os.length=x.orders.length:=by rw [hos,YW]
   refine Z4 [] [1,2,4,7] (fun q:Nat×List Ord=> [(8,.p (.int .i64 q.1))]) (fun q=> [Zj x,Zj zeroI,.cells [.p (.list x.net.places_c (x.net.places.map eS)),.p (.list x.net.arcs_c (x.net.arcs.map VW)),.p (.list true []),.sl 3 0 q.2.length q.2.length,.p (.list false ((Xe x.apart l 5 x.apart.length).map eP)),.p (.list false ((Xe x.before l 6 x.before.length).map eP))],.elems 16 (q.2.map Yh)]) (fun q=>q.1<=x.orders.length/\q.2=os.take q.1) (fun q=>x.orders.length-q.1) (0,[]) ⟨Zb,Zb⟩ (Weak.mk ?_) ?_
   ·simp (disch:=omega) only [Zj,zeroI,Zn,go_sem,seval]
   ·rintro ⟨k,m⟩ ⟨hk,hm⟩;simp only at hk hm
    have hml:m.length=k:=by grind
    refine DQ ?_;refine cD ?_ ?_<;>intro h<;>simp (disch:=omega) only [Sh.out h,go_sem,seval,↓reduceIte]
    ·have hk2:k<x.orders.length:=Za
     have htk:os.take (k+1)=os.take k++ [WN (nth x.orders k) k l]:=by
      rw [Yb Za]
      congr 2
      rw [<- Zh Za,hos,Z0 hk2]
     refine ZC 11 mixed Ze Ze (Zc ?_);refine Zo (LG (nth x.orders k) k l c hl) (Zc ?_);exact ⟨(k+1,m++ [WN (nth x.orders k) k l]),⟨Za,by grind⟩,Za,Weak.mk (by simp (disch:=omega) only [Zn,go_sem,seval])⟩
    ·have hkl:k=x.orders.length:=Za
     have hmo:m=os:=by grind
     subst hmo;clear hm hk h;refine Zp (Weak.nilC (o:=2) (j:=2) 14 rfl rfl Zb) ?_;refine Zg [17] _ _ _ _ ?_;simp (disch:=omega) only [Z6,ZX,ZK,Zy,go_sem,seval];obtain ⟨ts,hts⟩: ∃ts,ts=Xa x.types l:=⟨_,rfl⟩
     have htl:ts.length=x.types.length:=by rw [hts,WW]
     refine Z4 [] [1,2,4,7] (fun q:Nat×List Typ=> [(9,.p (.int .i64 q.1))]) (fun q=> [Zj x,Zj zeroI,.cells [.p (.list x.net.places_c (x.net.places.map eS)),.p (.list x.net.arcs_c (x.net.arcs.map VW)),.sl 4 0 q.2.length q.2.length,.sl 3 0 m.length m.length,.p (.list false ((Xe x.apart l 5 x.apart.length).map eP)),.p (.list false ((Xe x.before l 6 x.before.length).map eP))],.elems 16 (m.map Yh),.elems 14 (q.2.map X4)]) (fun q=>q.1<=x.types.length/\q.2=ts.take q.1) (fun q=>x.types.length-q.1) (0,[]) ⟨Zb,Zb⟩ (Weak.mk ?_) ?_
     ·simp (disch:=omega) only [Zj,zeroI,Zn,go_sem,seval]
     ·rintro ⟨i,n⟩ ⟨hi,hn⟩;simp only at hi hn
      have hnl:n.length=i:=by grind
      refine DQ ?_;refine cD ?_ ?_<;>intro h<;>simp (disch:=omega) only [Sh.out h,go_sem,seval,↓reduceIte]
      ·have hi2:i<x.types.length:=Za
       have htk:ts.take (i+1)=ts.take i++ [WC (nth x.types i) i l]:=by
        rw [Yb Za]
        congr 2
        rw [<- Zh Za,hts,Wk hi2]
       refine ZC 11 mixed Ze Ze (Zc ?_);refine Zo (NK (nth x.types i) i l c hl (hcap _ (Zt hi2))) (Zc ?_);exact ⟨(i+1,n++ [WC (nth x.types i) i l]),⟨Za,by grind⟩,Za,Weak.mk (by simp (disch:=omega) only [Zn,go_sem,seval])⟩
      ·have hin:i=x.types.length:=Za
       have hnt:n=ts:=by grind
       subst hnt;clear hn hi h;refine Zp (Weak.fz (o:=3) (by rfl)) ?_;refine Zp (Weak.fz (o:=4) (by rfl)) (Zg [] _ _ _ _ (UM ?_));exact we (by simp (disch:=omega) only [Zk,hos,hts,go_sem,seval])
theorem TY {x:Inst} {l1:List Itm} {v:Itm} (hv:v.kind≠5/\v.kind≠6/\v.kind≠4/\v.kind≠10) (h:XB x v=true):XB (Zk x l1) v=true:=by
 obtain ⟨k,a⟩:=v;simp only at hv
 by_cases h1:k=1\/k=2\/k=4\/k=10
 ·rw [KB h1] at h ⊢;obtain ⟨q1,q2⟩:=h;simp only [Vu,ZB,Zq,XN] at q1
  have hi:a.toNat<x.orders.length:=Za
  have e:nth (Zk x l1).orders a.toNat=WN (nth x.orders a.toNat) (a.toNat:Nat) l1:=Z0 hi;refine ⟨?_,?_⟩
  ·simp only [Vu,ZB,Zq,XN,e];refine ⟨⟨q1.1.1,?_⟩,q1.2⟩
   show a<((Z8 x.orders l1).length:Int)
   grind [YW]
  ·rw [e];rcases h1 with rfl | rfl | rfl | rfl
   ·exact q2
   ·exact q2
   ·simp at hv
   ·simp at hv
 ·by_cases h2:k=3\/k=7\/k=8\/k=9
  ·simp only [XB] at h ⊢;rw [if_neg h1,if_pos h2] at h ⊢
   show (decide (0<=a)&&decide (a<((Xa x.types l1).length:Int)))=true
   rw [WW];exact h
  simp_all [XB]
theorem HE {l:List (Int×Int)} {w:List Itm} {kind:Int} {k:Nat} : ∀m,k<=m-> ∃r,Xe l w kind m=Xe l w kind k++r
 | 0,h=>⟨[],by grind⟩
 | m+1,h=>by
  rcases Wr k (m+1) with h1 | h1
  ·obtain ⟨r,hr⟩:=HE (l:=l) (w:=w) (kind:=kind) (k:=k) m Za
   grind [YJ]
  ·obtain rfl:k=m+1:=Za
   simp
def LD (l:List (Int×Int)) (w:List Itm) (kind:Int) (a:Nat):Nat:=(Xe l w kind a).length
theorem LF {l:List (Int×Int)} {w:List Itm} {kind:Int} {a n:Nat} (h:a<n) (hn:(⟨kind,a⟩:Itm) ∉ w):LD l w kind a<(Xe l w kind n).length/\nth (Xe l w kind n) (LD l w kind a)=nth l a:=by
 obtain ⟨r,hr⟩:=HE (l:=l) (w:=w) (kind:=kind) n (show a+1<=n by omega)
 simp_all [YJ,LD,nth]
theorem NH {l:List (Int×Int)} {w:List Itm} {kind:Int} {a b:Nat} (h:a<b) (hn:(⟨kind,a⟩:Itm) ∉ w):LD l w kind a<LD l w kind b:=(LF h hn).1
theorem Ds {l:List (Int×Int)} {L L' M:List Itm} {kind:Int} (hs: ∀v∈L,v∈L') (hM: ∀a:Nat,a<l.length->(⟨kind,a⟩:Itm) ∉ L->((⟨kind,LD l L kind a⟩:Itm)∈M↔(⟨kind,a⟩:Itm)∈L')) :
  ∀k,k<=l.length->Xe (Xe l L kind l.length) M kind (LD l L kind k)=Xe l L' kind k
 | 0,_=>by rfl
 | k+1,h=>by
  have ih:=Ds hs hM k Za
  by_cases h1:(⟨kind,k⟩:Itm)∈L
  ·simp_all [LD,YJ]
  ·have e:LD l L kind (k+1)=LD l L kind k+1:=by simp_all [LD,YJ]
   rw [e,YJ,ih,YJ,(LF (show k<l.length by omega) h1).2]
   grind
def oF (x:Inst) (L:List Itm) (v:Itm):Itm:=⟨v.kind,if v.kind=5 then (LD x.apart L 5 v.a.toNat:Nat) else if v.kind=6 then (LD x.before L 6 v.a.toNat:Nat) else v.a⟩
def Bo (x:Inst) (L L':List Itm):List Itm:=(L'.filter fun v=>decide (v ∉ L)).map (oF x L)
theorem CC {x:Inst} {L L':List Itm} {w:Itm} :w∈Bo x L L'↔ ∃v,v∈L'/\v ∉ L/\oF x L v=w:=by
 simp_all [Bo,and_assoc]
theorem lX {x:Inst} {L:List Itm} {v:Itm} (h:v.kind≠5/\v.kind≠6):oF x L v=v:=by
 simp_all [oF]
theorem gE {x:Inst} {L L':List Itm} {k a:Int} (hs: ∀v∈L,v∈L') (h:k≠5/\k≠6):(⟨k,a⟩:Itm)∈L++Bo x L L'↔(⟨k,a⟩:Itm)∈L':=by
 rw [Xd,CC]
 constructor
 ·rintro (h1 | ⟨v,h1,h2,h3⟩)
  ·exact hs _ h1
  ·have hk:v.kind=k:=ZU Itm.kind h3
   grind [lX]
 grind [lX]
theorem Al {x:Inst} {v:Itm} (h:XB x v=true):(v.kind=5->0<=v.a/\v.a<(x.apart.length:Int))/\(v.kind=6->0<=v.a/\v.a<(x.before.length:Int)):=by
 unfold XB at h
 grind
theorem SC {l:List (Int×Int)} {w:List Itm} {kind:Int} {a b:Nat} (ha:(⟨kind,a⟩:Itm) ∉ w) (hb:(⟨kind,b⟩:Itm) ∉ w) (h:LD l w kind a=LD l w kind b):a=b:=by
 rcases Nat.lt_trichotomy a b with h1 | h1 | h1
 ·have:=NH (l:=l) h1 ha;omega
 ·exact h1
 ·have:=NH (l:=l) h1 hb;omega
theorem An {v:Itm} (h:0<=v.a):(⟨v.kind,(v.a.toNat:Nat)⟩:Itm)=v:=JP.2 ⟨rfl,by grind⟩
theorem L8 {x:Inst} {L L':List Itm} (hs: ∀v∈L,v∈L') (hI: ∀v∈L',XB x v=true):Zk (Zk x L) (Bo x L L')=Zk x L':=by
 have e1: ∀o a,WN (WN o a L) a (Bo x L L')=WN o a L':=fun o a=>by
  have q:=fun k (hk:k≠5/\k≠6)=>gE (x:=x) (a:=a) hs hk;simp only [Xd] at q;simp only [WN]
  grind
 have e2: ∀t a,WC (WC t a L) a (Bo x L L')=WC t a L':=fun t a=>by
  have hcl:=C8 t a L;have q:=fun k (hk:k≠5/\k≠6)=>gE (x:=x) (a:=a) hs hk;simp only [Xd] at q;simp only [WC] at hcl ⊢
  grind
 have e3:Z8 (Z8 x.orders L) (Bo x L L')=Z8 x.orders L':=by
  simp_all [Z8,Zh]
 have e4:Xa (Xa x.types L) (Bo x L L')=Xa x.types L':=by
  simp_all [Xa,Zh]
 have e5:Xe (Xe x.apart L 5 x.apart.length) (Bo x L L') 5 (Xe x.apart L 5 x.apart.length).length=Xe x.apart L' 5 x.apart.length:=by
  refine Ds hs (fun a ha hn=> ?_) x.apart.length (ZA _);rw [CC]
  constructor
  ·rintro ⟨v,h1,h2,h3⟩;have hk:v.kind=5:=ZU Itm.kind h3;have hp:=(Al (hI v h1)).1 hk;have hv:=An hp.1;rw [hk] at hv;rw [oF,if_pos hk] at h3
   have h4:LD x.apart L 5 v.a.toNat=LD x.apart L 5 a:=by grind
   grind [SC]
  grind [oF]
 have e6:Xe (Xe x.before L 6 x.before.length) (Bo x L L') 6 (Xe x.before L 6 x.before.length).length=Xe x.before L' 6 x.before.length:=by
  refine Ds hs (fun a ha hn=> ?_) x.before.length (ZA _);rw [CC]
  constructor
  ·rintro ⟨v,h1,h2,h3⟩;have hk:v.kind=6:=ZU Itm.kind h3;have hp:=(Al (hI v h1)).2 hk;have hv:=An hp.1;rw [hk] at hv;rw [oF,if_neg Za,if_pos hk] at h3
   have h4:LD x.before L 6 v.a.toNat=LD x.before L 6 a:=by grind
   grind [SC]
  grind [oF]
 show (⟨x.net,false,Xa (Xa x.types L) (Bo x L L'),false,Z8 (Z8 x.orders L) (Bo x L L'),false,Xe (Xe x.apart L 5 x.apart.length) (Bo x L L') 5 (Xe x.apart L 5 x.apart.length).length,false,Xe (Xe x.before L 6 x.before.length) (Bo x L L') 6 (Xe x.before L 6 x.before.length).length⟩:Inst)=⟨x.net,false,Xa x.types L',false,Z8 x.orders L',false,Xe x.apart L' 5 x.apart.length,false,Xe x.before L' 6 x.before.length⟩
 grind
theorem OD {x:Inst} {L:List Itm} {i:Int} :Vu (Zk x L) i=Vu x i:=by
 unfold Vu;rw [show (Zk x L).orders=Z8 x.orders L from rfl,YW]
 by_cases h:0<=i/\i<(x.orders.length:Int)
 ·rw [Z0 Za];rfl
 grind
theorem jA {x:Inst} {L L':List Itm} (hI: ∀v∈L',XB x v=true): ∀w∈Bo x L L',XB (Zk x L) w=true:=fun w hw=>by
 obtain ⟨v,h1,h2,rfl⟩:=CC.1 hw;have h:=hI v h1
 by_cases k5:v.kind=5
 ·obtain ⟨p1,p2⟩:=(Al h).1 k5;have hv:=An p1;rw [k5] at hv;obtain ⟨r1,r2⟩:=LF (l:=x.apart) (w:=L) (kind:=5) (show v.a.toNat<x.apart.length by omega) (by grind);unfold XB at h ⊢;simp only [oF,k5] at h ⊢;simp only [show ¬((5:Int)=1\/(5:Int)=2\/(5:Int)=4\/(5:Int)=10) by decide,show ¬((5:Int)=3\/(5:Int)=7\/(5:Int)=8\/(5:Int)=9) by decide,if_true,Yi,ZB,Zq,XO,OD] at h ⊢;rw [show (Zk x L).apart=Xe x.apart L 5 x.apart.length from rfl,r2]
  grind
 ·by_cases k6:v.kind=6
  ·obtain ⟨p1,p2⟩:=(Al h).2 k6;have hv:=An p1;rw [k6] at hv;obtain ⟨r1,r2⟩:=LF (l:=x.before) (w:=L) (kind:=6) (show v.a.toNat<x.before.length by omega) (by grind);unfold XB at h ⊢;simp only [oF,k6] at h ⊢;simp only [show ¬((6:Int)=1\/(6:Int)=2\/(6:Int)=4\/(6:Int)=10) by decide,show ¬((6:Int)=3\/(6:Int)=7\/(6:Int)=8\/(6:Int)=9) by decide,show ¬(6:Int)=5 by decide,if_true,Yi,ZB,Zq,XO,OD] at h ⊢;rw [show (Zk x L).before=Xe x.before L 6 x.before.length from rfl,r2]
   grind
  ·rw [lX ⟨k5,k6⟩]
   by_cases k4:v.kind=4\/v.kind=10
   ·obtain ⟨k,a⟩:=v;simp only at k4 k5 k6
    have hk:k=1\/k=2\/k=4\/k=10:=Za
    rw [KB hk] at h ⊢;rw [OD];refine ⟨h.1,?_⟩;have ha:=h.1;simp only [Vu,ZB,Zq] at ha;have ho:=h.2;rw [show (Zk x L).orders=Z8 x.orders L from rfl,Z0 (show a.toNat<x.orders.length by omega),show ((a.toNat:Nat):Int)=a by omega];rcases k4 with rfl | rfl
    ·simp_all [A5,WN]
    simp_all [A5,WN]
   grind [TY]
theorem kJ {α:Type} [Inhabited α] {l:List α} {i:Nat} (h: ¬i<l.length):nth l i=default:=by grind [nth]
theorem Zdr {os:List Ord} {l:List Itm} (i:Nat):ZV (Z8 os l) i=ZV os i:=by
 unfold ZV
 by_cases h:i<os.length
 ·rw [Z0 h];rfl
 grind [kJ,YW]
theorem NW {x:Inst} {l:List Itm} {v:List Vis} (h:Xj x v=0):Xj (Zk x l) v=0:=by
 have hsub1:=Bs x.apart l 5;have hsub2:=Bs x.before l 6
 have e1:v.any (W2 (Zk x l))=v.any (W2 x):=by
  congr 1;funext w;simp [W2,Zk,YW]
 unfold Xj at h ⊢;rw [e1]
 split at h
 ·simp at h
 ·rename_i c1;rw [if_neg c1]
  have hin: ∀w∈v,w.order.toNat<x.orders.length:=fun w hw=>by
   have h5: ¬(v.any (W2 x))=true:=fun e=>c1 (.inr e)
   have h6:W2 x w=false:=by
    cases hb:W2 x w with
    | false=>rfl
    | true=>exact absurd (WL.2 ⟨w,hw,hb⟩) h5
   simp [W2] at h6;omega
  have e2:(v.any fun w=>(nth (Zk x l).orders w.order.toNat).off)=v.any fun w=>(nth x.orders w.order.toNat).off:=by
   rw [Wq,WL,WL]
   constructor
   ·rintro ⟨w,hw,h⟩;exact ⟨w,hw,by rw [show (Zk x l).orders=Z8 x.orders l from rfl,Z0 (hin w hw)] at h;exact h⟩
   ·rintro ⟨w,hw,h⟩;exact ⟨w,hw,by rw [show (Zk x l).orders=Z8 x.orders l from rfl,Z0 (hin w hw)];exact h⟩
  rw [e2]
  split at h
  ·simp at h
  ·rename_i c2;rw [if_neg c2]
   split at h
   ·simp at h
   ·rename_i c3;rw [if_neg c3]
    have e3:v.all (pairB (Zk x l).orders v)=v.all (pairB x.orders v):=by
     congr 1;funext w;simp only [pairB];rw [show (Zk x l).orders=Z8 x.orders l from rfl,Zdr]
    rw [e3]
    split at h
    ·simp at h
    ·rename_i c4;rw [if_neg c4]
     split at h
     ·simp at h
     ·rename_i c5
      have c5': ¬((Zk x l).apart.any fun p=>hasO v p.1&&hasO v p.2)=true:=fun hh=>by
       obtain ⟨p,hp,hb⟩:=WL.1 hh;exact c5 (WL.2 ⟨p,hsub1.subset hp,hb⟩)
      rw [if_neg c5']
      split at h
      ·simp at h
      ·rename_i c6;rw [if_neg];intro hh;refine c6 ?_;obtain ⟨p,hp,hb⟩:=WL.1 hh;exact WL.2 ⟨p,hsub2.subset hp,hb⟩
structure WkT (t t':Typ) (sp sp':List Stp):Prop where
 len:sp'.length=sp.length
 cls:t.cls<=t'.cls
 drv:t.drive<=t'.drive
 rst:t'.rest=t.rest
 src:t'.src=t.src
 dst:t'.dst=t.dst
 prf:t'.prof=t.prof
 opn:t'.opn=t.opn
 stp: ∀k,k<sp.length-> ∃c,(nth sp k).cls<=c/\nth sp' k= { nth sp k with cls:=c }
theorem aL {x y:Inst} {t t' sp sp' k L b} (hn:y.net=x.net) (h:WkT t t' sp sp') (hk:k<=sp.length) (he:(nxtF x t sp k L b).2=0):nxtF y t' sp' k L b=nxtF x t sp k L b:=by
 have hplc: ∀k,k<=sp.length->V9 t' sp' k=V9 t sp k:=fun k hk=>by
  unfold V9
  split
  ·exact h.src
  ·obtain ⟨c,_,e⟩:=h.stp (k-1) Za;rw [e]
 have hto:Ow t' sp' k=Ow t sp k:=by
  unfold Ow;rw [h.len]
  split
  ·exact h.dst
  ·obtain ⟨c,_,e⟩:=h.stp k Za;rw [e]
 have hd:ZJ t' L b=ZJ t L b:=by simp [ZJ,h.rst]
 unfold nxtF at he ⊢
 have hg:Y1 y t' sp' k (ZJ t' L b)=Y1 x t sp k (ZJ t L b):=by rw [Y1,Y1,hn,h.prf,hplc k hk,hto,hd]
 rw [hg,hd];have h1:=h.cls;have h2:=h.drv;unfold WE at he ⊢;rw [h.len]
 split at he
 ·simp at he
 ·rename_i c1;rw [if_neg c1,if_neg c1]
  split at he
  ·grind
  ·rename_i c2;rw [if_neg c2,if_neg c2];obtain ⟨c,hc,e⟩:=h.stp k Za
   grind
theorem DI {x y:Inst} {t t' sp sp'} (hn:y.net=x.net) (h:WkT t t' sp sp'): ∀(bs:List Bool) (k:Nat) (L z:Lab),k+bs.length<=sp.length+1->Y9 (XA x t sp) k L bs=some z->Y9 (XA y t' sp') k L bs=some z
 | [],k,L,z,_,e=>e
 | b::bs,k,L,z,hk,e=>by
  simp at hk;rw [Y9] at e ⊢;unfold XA at e ⊢
  by_cases c:(nxtF x t sp k L b).2=0
  ·rw [aL hn h Za c];rw [if_pos c] at e ⊢;exact DI hn h bs (k+1) _ z Za e
  grind
theorem iI {fin:Lab->Int} : ∀ {l:List Lab},W4 fin none l=none↔l= []
 | []=>by simp [W4]
 | a::l=>by
  rw [W4];obtain ⟨z,e,_⟩:=VD fin l a;rw [e];simp
theorem OT {x t sp st r} :(Yn x t sp st r).2=0↔ ∃bs∈XE r (sp.length+1),∃z,Y9 (XA x t sp) 0 (labF t st) bs=some z:=by
 unfold Yn
 cases hf:W4 Wf none ((XE r (sp.length+1)).filterMap (Y9 (XA x t sp) 0 (labF t st))) with
 | some L =>
  simp only [true_iff];have:=bestF_len.fmL_mem _ _ hf
  grind
 | none =>
  rw [iI] at hf;simp only
  constructor
  ·intro h
   have hm:YM r (sp.length+1)∈XE r (sp.length+1):=by
    grind [XE,YM,fromB_next]
   simp_all [Yy]
  grind
theorem OS {x y:Inst} {t t' sp sp'} {st:Int} {r:List Bool} (hn:y.net=x.net) (h:WkT t t' sp sp') (hr:r.length<=sp.length+1) (h0:(Yn x t sp st r).2=0):(Yn y t' sp' st r).2=0:=by
 rw [OT] at h0 ⊢;obtain ⟨bs,hbs,z,hz⟩:=h0;rw [h.len]
 have hl:bs.length=sp.length+1:=by
  obtain ⟨q,hq,rfl⟩:=XQ.1 hbs;have:=bestF_len.fromB_len _ _ hq
  grind
 have el:labF t' st=labF t st:=by simp [labF,h.opn]
 grind [DI]
theorem kO {x:Inst} {l:List Itm} {v:List Vis} {n i:Nat} (hi:i<x.orders.length):EL (Zk x l) v n i=EL x v n i:=by
 unfold EL;rw [show (Zk x l).orders=Z8 x.orders l from rfl,Z0 hi];rfl
theorem Ta {x:Inst} {l:List Itm} {v:List Vis} {n:Nat} :Wd (Zk x l) v n=Wd x v n:=by
 unfold Wd;rw [show (Zk x l).types=Xa x.types l from rfl,JG];refine W1 fun j _=> ?_;unfold DR;rw [show (Zk x l).orders.length=x.orders.length from YW _ _]
 congr 1
 refine W1 fun i hi=> ?_;have hi:=ZL.1 hi;rw [kO hi,show (Zk x l).orders=Z8 x.orders l from rfl,Z0 hi];rfl
theorem TR {a c:List Int} :VX a c=true↔a.length=c.length/\ ∀i,i<a.length->nth a i<=nth c i:=by
 grind [VX]
theorem cK {t:Typ} {a:Int} {l:List Itm} {b:List Int} (hc: ∀n∈t.cap,n<=1000) (h:VX b t.cap=true):VX b (WC t a l).cap=true:=by
 grind [TR,WC,Zt]
theorem OA {t:Typ} {s:Int} (h:Yj t s=true):Yj t 0=true:=by
 grind [Yj]
theorem TN {x:Inst} {l:List Itm} {r:Rte} (hx:InstOk x) (hI: ∀v∈l,XB x v=true) (h:Xw x r=0):Xw (Zk x l) r=0:=by
 unfold Xw at h ⊢
 have hr:XX x r=0:=by
  omega
 rw [if_pos hr] at h;unfold XX at hr
 split at hr
 ·simp at hr
 ·rename_i c1;have c1:0<=r.typ/\r.typ<(x.types.length:Int):=Z2.1 c1
  split at hr
  ·omega
  ·rename_i c2;have c2:Xj x r.visits=0:=Z2.1 c2;have hsq:=VS c2
   split at hr
   ·simp at hr
   ·rename_i c3
    split at hr
    ·simp at hr
    ·rename_i c4
     split at hr
     ·simp at hr
     ·rename_i c5;have c5:=Z2.1 c5
      have htl:r.typ.toNat<x.types.length:=Za
      have ety:ZE (Zk x l) r=WC (ZE x r) r.typ l:=by
       unfold ZE;rw [show (Zk x l).types=Xa x.types l from rfl,Wk htl]
       grind
      have hty:=hx.types.2 _ htl;have hlt:=SV (l:=l) htl hty;have htk:Us x.net x.types r.typ.toNat:=hty;unfold Us at htk;obtain ⟨⟨⟨⟨⟨⟨⟨⟨_,_⟩,_⟩,_⟩,hcap⟩,_⟩,hcl⟩,G4⟩,_⟩:=htk;have hcap':=(Dj.1 hcap).2.2
      have hsp: ∀w∈r.visits,∃c,(Xk x w).cls<=c/\Xk (Zk x l) w= { Xk x w with cls:=c } :=fun w hw=>by
       obtain ⟨w1,w2⟩:=hsq.inr w hw
       have hi:w.order.toNat<x.orders.length:=Za
       have hord:=hx.orders.2 _ hi;have hpk:=hord.pstp;have hdk:=hord.dstp;simp only [stpOk,Zq] at hpk hdk;unfold Xk;rw [show (Zk x l).orders=Z8 x.orders l from rfl,Z0 hi]
       split
       ·simp only [WN]
        grind
       ·simp only [WN]
        grind
      have hw:WkT (ZE x r) (ZE (Zk x l) r) (ZM x r.visits) (ZM (Zk x l) r.visits):=by
       rw [ety];refine ⟨by simp [ZM],?_,?_,rfl,rfl,rfl,rfl,rfl,fun k hk=> ?_⟩
       ·simp only [WC];split
        ·exact hcl.2
        omega
       ·simp only [WC];split
        ·have:=G4.1;simp [rng] at this;exact this.2
        omega
       ·simp [ZM] at hk
        have e: ∀y:Inst,nth (ZM y r.visits) k=Xk y (nth r.visits k):=fun y=>by
         grind [Zh,ZM]
        grind [Zt]
      have hr':XX (Zk x l) r=0:=by
       unfold XX;rw [if_neg (by grind [Zk,WW]),if_neg (by rw [NW c2];simp)];rw [if_neg,if_neg,if_neg (fun hh=>hh c5)]
       ·grind [Qe,ZE,Ta,cK]
       ·intro hh;refine c3 ?_;obtain ⟨w,hw2,hb⟩:=WL.1 hh;refine WL.2 ⟨w,hw2,?_⟩;obtain ⟨w1,w2⟩:=hsq.inr w hw2
        have hi:w.order.toNat<x.orders.length:=Za
        rw [show (Zk x l).orders=Z8 x.orders l from rfl,Z0 hi,ety] at hb
        cases ha:Yj (ZE x r) (nth x.orders w.order.toNat).skills with
        | false=>rfl
        | true =>
         have e: ∀s,Yj (WC (ZE x r) r.typ l) s=Yj (ZE x r) s:=fun s=>rfl
         grind [WN,OA]
      rw [if_pos hr'];exact OS (x:=x) (y:=Zk x l) (t:=ZE x r) (t':=ZE (Zk x l) r) (sp:=ZM x r.visits) (sp':=ZM (Zk x l) r.visits) rfl hw (by grind [ZM]) h
set_option maxRecDepth 60000
theorem Sq {α:Type} [Inhabited α] {l:List α} {i j:Nat} {a:α} (h:i<l.length):nth (l.set i a) j=if i=j then a else nth l j:=by
 grind [nth]
theorem sC {α:Type} [Inhabited α] {l:List α} {j:Nat} {a:α} (h:j<l.length):nth (l++ [a]) j=nth l j:=by
 grind [nth]
theorem Lr {α:Type} [Inhabited α] {l:List α} {a:α} :nth (l++ [a]) l.length=a:=by
 grind [nth]
def cfK (a b:Col):Int:=sN [Y0 a.typ b.typ,Y0 a.set b.set]
theorem fV {a b:Int} :Y0 a b<0↔a<b:=by grind [Y0]
theorem fW {a b:Int} :Y0 a b=0↔a=b:=by grind [Y0]
theorem Fm {a b:Col} :cfK a b<0↔a.typ<b.typ\/(a.typ=b.typ/\a.set<b.set):=by
 grind [cfK,EN,fW,fV]
theorem qB : Go.Sort.SWO (ltOf cfK) where
 irrefl x:=by grind [ltOf,Fm]
 trans x y z h1 h2:=by simp only [ltOf,Zq,Fm] at *;omega
 ntrans x y z h1 h2:=by grind [ltOf,Fm]
theorem MB (a b:Col):PC 200 [.p (Xp a),.p (Xp b)] (.int .i64 (cfK a b)):=by
 refine Zd Tryz.func200 rfl Zbf ?_;simp (disch:=omega) only [Tryz.f200,go_sem,seval];refine Xo (Zc ?_);refine Zo (D0 a.typ b.typ) (Zc ?_);refine Zo (D0 a.set b.set) (Zc ?_);refine Zo (sO [Y0 a.typ b.typ,Y0 a.set b.set] false Zb) (Zc ?_)
 rfl
theorem tY (xs:List Col) (hl:xs.length<=1048576) {H:List AM.Obj} {o:Nat} (hH:H[o]? =some (.elems 7 (xs.map Xp))) :
  ACalls Tryz.prog 123 [.sl o 0 xs.length xs.length,.fn (.func 200) [] []] H fun y H'=>y= .tup []/\ ∃ys:List Col,ys.Perm xs/\ys.Pairwise (fun a b=> ¬cfK b a<0)/\H'=H.set o (.elems 7 (ys.map Xp)) :=
 ACalls.sortFunc N3 jF 7 Tryz.isAgg107 Tryz.sizeOf107 Xp (fun x=>⟨_,rfl,rfl,rfl⟩) cfK qB 200 MB xs Za hH
def kd (c:Col):Kd:=⟨c.typ,c.set⟩
def Bst (l:List Col) (k:Nat) (d:Col):Prop:= ∃j,j<k/\nth l j=d/\ ∀i,i<k->kd (nth l i)=kd d->d.price<(nth l i).price\/(d.price=(nth l i).price/\j<=i)
structure Chp (l:List Col) (k:Nat) (m:List (Kd×Int)) (out:List Col):Prop where
 len:out.length<=k
 at1: ∀i,i<out.length->mq m (kd (nth out i))=some (i:Int)
 at2: ∀q v,mq m q=some v-> ∃i,i<out.length/\v=i/\kd (nth out i)=q
 bst: ∀i,i<out.length->Bst l k (nth out i)
 all: ∀j,j<k-> ∃i,i<out.length/\kd (nth out i)=kd (nth l j)
theorem fP (l:List Col):Chp l 0 [] []:=⟨Zb,fun i h=>by simp at h,fun q v h=>by simp [mq] at h,fun i h=>by simp at h,fun j h=>by simp at h⟩
theorem qG {l:List Col} {k:Nat} {m m':List (Kd×Int)} {out:List Col} (h:Chp l k m out) (hn:mq m (kd (nth l k))=none) (hm: ∀q,mq m' q=if q=kd (nth l k) then some (out.length:Int) else mq m q):Chp l (k+1) m' (out++ [nth l k]):=by
 have hno: ∀i,i<out.length->kd (nth out i)≠kd (nth l k):=fun i hi e=>by
  have:=h.at1 i hi
  grind
 have split: ∀i,i<(out++ [nth l k]).length->(i<out.length/\nth (out++ [nth l k]) i=nth out i)\/(i=out.length/\nth (out++ [nth l k]) i=nth l k):=fun i hi=>by
  simp only [ZH,ZD,ZF] at hi;rcases Wr i out.length with h1 | h1
  ·grind [sC]
  ·obtain rfl:i=out.length:=Za
   exact .inr ⟨rfl,Lr⟩
 refine ⟨by have:=h.len;simp;omega,fun i hi=> ?_,fun q v hq=> ?_,fun i hi=> ?_,fun j hj=> ?_⟩
 ·rcases split i hi with ⟨h1,e⟩ | ⟨rfl,e⟩
  ·rw [e,hm,if_neg (hno i h1)];exact h.at1 i h1
  grind
 ·rw [hm] at hq
  split at hq
  ·grind [Lr]
  ·obtain ⟨i,h1,h2,h3⟩:=h.at2 q v hq
   grind
 ·rcases split i hi with ⟨h1,e⟩ | ⟨rfl,e⟩
  ·rw [e];obtain ⟨j,h2,h3,h4⟩:=h.bst i h1;refine ⟨j,Za,h3,fun p hp he=> ?_⟩
   grind
  ·rw [e];refine ⟨k,Za,rfl,fun p hp he=> ?_⟩;rcases Cn.1 hp with h5 | rfl
   ·obtain ⟨i,h6,h7⟩:=h.all p h5
    grind
   omega
 ·rcases Cn.1 hj with h5 | rfl
  ·obtain ⟨i,h6,h7⟩:=h.all j h5
   grind
  ·exact ⟨out.length,Zb,by rw [Lr]⟩
theorem qH {l:List Col} {k:Nat} {m:List (Kd×Int)} {out:List Col} {i:Nat} (h:Chp l k m out) (hi:i<out.length) (hk:kd (nth out i)=kd (nth l k)):Chp l (k+1) m (if (nth l k).price<(nth out i).price then out.set i (nth l k) else out):=by
 have hun: ∀j,j<out.length->kd (nth out j)=kd (nth l k)->j=i:=fun j hj e=>by
  have h1:=h.at1 j hj;have h2:=h.at1 i hi
  grind
 split
 ·rename_i hp
  have key: ∀j,kd (nth (out.set i (nth l k)) j)=kd (nth out j):=fun j=>by
   grind [Sq]
  refine ⟨by have:=h.len;simp;omega,fun j hj=> ?_,fun q v hq=> ?_,fun j hj=> ?_,fun j hj=> ?_⟩
  ·rw [key];exact h.at1 j (by grind)
  ·obtain ⟨j,h1,h2,h3⟩:=h.at2 q v hq
   grind
  ·simp only [Qz] at hj;rw [Sq hi]
   split
   ·rename_i e;subst e;refine ⟨k,Za,rfl,fun p hp2 he=> ?_⟩;rcases Cn.1 hp2 with h5 | rfl
    ·obtain ⟨j,h6,h7,h8⟩:=h.bst i hi
     grind
    omega
   ·rename_i e;obtain ⟨p,h2,h3,h4⟩:=h.bst j hj;refine ⟨p,Za,h3,fun p' hp' he=> ?_⟩
    grind
  ·rcases Cn.1 hj with h5 | rfl
   ·obtain ⟨p,h6,h7⟩:=h.all j h5
    grind
   grind
 ·rename_i hp;refine ⟨by have:=h.len;omega,h.at1,h.at2,fun j hj=> ?_,fun j hj=> ?_⟩
  ·obtain ⟨p,h2,h3,h4⟩:=h.bst j hj;refine ⟨p,Za,h3,fun p' hp' he=> ?_⟩
   grind
  ·rcases Cn.1 hj with h5 | rfl
   ·exact h.all j h5
   grind
structure Cheap (l ys:List Col):Prop where
 asc:ys.Pairwise fun a b=>cfK a b<0
 bst: ∀d∈ys,Bst l l.length d
 all: ∀c∈l,∃d∈ys,kd d=kd c
theorem qF {l:List Col} {m:List (Kd×Int)} {out ys:List Col} (h:Chp l l.length m out) (hp:ys.Perm out) (ha:ys.Pairwise fun a b=> ¬cfK b a<0):Cheap l ys:=by
 have hnd:out.Pairwise fun a b=>kd a≠kd b:=by
  rw [KF];intro i j hi hj hij e;have h1:=h.at1 i hi;have h2:=h.at1 j hj
  grind [Zh]
 have hnd2:ys.Pairwise fun a b=>kd a≠kd b:=(hp.pairwise_iff fun h e=>h e.symm).2 hnd;refine ⟨(hnd2.and ha).imp fun {a b} hh=> ?_,fun d hd=> ?_,fun c hc=> ?_⟩
 ·rw [Fm] at hh ⊢
  grind [kd]
 ·obtain ⟨i,hi,rfl⟩:=ZT.1 (hp.mem_iff.1 hd);rw [<- Zh hi];exact h.bst i hi
 ·obtain ⟨j,hj,rfl⟩:=ZT.1 hc;obtain ⟨i,hi,e⟩:=h.all j hj
  grind [Zh]
theorem O3 (l:List Col) (c:Bool) (hl:l.length<=8192):ACalls Tryz.prog 166 [.p (.list c (l.map Xp))] [] fun y H'=> ∃ys:List Col,(Cheap l ys/\ys.length<=l.length)/\y= .p (.list false (ys.map Xp))/\H'= []:=by
 refine Zf [15] Tryz.func166 rfl ZaO ?_;simp (disch:=omega) only [Tryz.f166,go_sem,seval];refine Zm [3,11,12] (fun q:Nat×List (Kd×Int)×List Col=> [(4,.sl 1 0 q.2.2.length q.2.2.length),(13,.p (.int .i64 q.1))]) (fun q=> [.map (q.2.1.map (MK cV)),.elems 7 (q.2.2.map Xp)]) (fun q=>q.1<=l.length/\Chp l q.1 q.2.1 q.2.2) (fun q=>l.length-q.1) (0,[],[]) ⟨Zb,fP l⟩ (Weak.ofNil 4 7 (by simp (disch:=omega) only [go_sem,seval]) Zb (Weak.mk ?_)) ?_
 ·simp (disch:=omega) only [Zn,ZF,go_sem,seval]
 ·rintro ⟨k,m,out⟩ ⟨hk,hC⟩;simp only at hk hC;have hol:=hC.len;refine Zc ?_;refine cD ?_ ?_<;>intro h1<;>simp (disch:=omega) only [Sh.out h1,go_sem,seval,↓reduceIte]
  ·have hk2:k<l.length:=Za
   refine jV (l:=m) (k:=kd (nth l k)) jR (fun _ _=>trivial) trivial (by rfl) (Zc ?_)
   cases hq:mq m (kd (nth l k)) with
   | none =>
    simp (disch:=omega) only [As,Option.getD_none,go_sem,seval];refine LC (l:=m) (k:=kd (nth l k)) jR (fun _ _=>trivial) trivial (by rfl) fun m' hm' _=> ?_;simp (disch:=omega) only [ZX,go_sem,seval];exact ⟨(k+1,m',out++ [nth l k]),⟨Za,qG hC hq hm'⟩,Za,Weak.mk (by simp (disch:=omega) only [Xz,Zr,Zn,ZH,ZD,ZF,Xm,go_sem,seval])⟩
   | some v =>
    obtain ⟨i,hi,rfl,hkd⟩:=hC.at2 _ _ hq;have hold:=qH hC hi hkd;simp (disch:=omega) only [J1,JR,go_sem,seval];refine Xo ?_;simp (disch:=first | omega | (simp only [ZD,ZF,ZH,Z1,Xs,XI]<;>omega)) only [UR hi,hi,go_sem,seval,↓reduceIte];refine ZO ?_ ?_<;>intro h2
    ·rw [if_pos h2] at hold;simp (disch:=first | omega | (simp only [ZD,ZF,ZH,Z1,Xs,XI]<;>omega)) only [go_sem,seval];exact ⟨(k+1,m,out.set i (nth l k)),⟨Za,hold⟩,Za,Weak.mk (by simp (disch:=omega) only [UT,Qz,go_sem,seval])⟩
    ·rw [if_neg h2] at hold;exact ⟨(k+1,m,out),⟨Za,hold⟩,Za,wk⟩
  ·have hkl:k=l.length:=Za
   subst hkl;refine (tY out Za (H:=_) (o:=1) rfl).mono ?_;rintro y H' ⟨rfl,ys,g1,g2,rfl⟩;have hyl:ys.length=out.length:=g1.length_eq;refine K0 ?_;rw [<- hyl];refine Zp (Weak.fz (o:=1) (by rfl)) (Zg [] _ _ _ _ (UM ?_));exact ⟨.p (.list false (ys.map Xp)),[],wk,ys,⟨qF hC g1 g2,Za⟩,rfl,rfl⟩
def Yv (x:Inst):Nat->Nat
 | 0=>0
 | i+1=>if (nth x.orders i).off=true then Yv x i else Yv x i|||pw i
theorem Nj (x:Inst): ∀i,Yv x i<2^i
 | 0=>by simp [Yv]
 | i+1=>by
  have:=Nj x i
  have h:2^(i+1)=2*2^i:=Za
  rw [Yv]
  split
  ·omega
  ·exact Q0 Za (by rw [pw];omega)
theorem U2 (x:Inst): ∀(n i:Nat),(Yv x n).testBit i=(decide (i<n)&& !(nth x.orders i).off)
 | 0,i=>by simp [Yv]
 | n+1,i=>by
  rw [Yv]
  split
  ·rename_i h;rw [U2 x n i]
   by_cases e:i=n
   ·subst e;simp [h]
   ·have:decide (i<n+1)=decide (i<n):=by simp;omega
    rw [this]
  ·rename_i h;rw [Az,U2 x n i,pw,Nat.testBit_two_pow]
   grind
theorem xN (o:Ord):PC 198 [.p (Yh o)] (.bool true):=by
 refine Zd Tryz.func198 rfl Zbd ?_;simp (disch:=omega) only [Tryz.f198,go_sem,seval,↓reduceIte]
theorem Zdg (x:Inst) (hn:x.orders.length<=10):PC 197 [.p (Zv x),.fn (.func 198) [] []] (.int .i64 ((Yv x x.orders.length:Nat):Int)):=by
 refine Zf [] Tryz.func197 rfl Zbc ?_;simp (disch:=omega) only [Tryz.f197,go_sem,seval];refine Zm [1,9,10] (fun k:Nat=> [(5,.p (.int .i64 ((Yv x k:Nat):Int))),(11,.p (.int .i64 k))]) (fun _=> [Zj x]) (fun k=>k<=x.orders.length) (fun k=>x.orders.length-k) 0 Zb (Weak.mk ?_) ?_
 ·have h00:((Yv x 0:Nat):Int)=0:=rfl;simp (disch:=omega) only [h00,Zj,go_sem,seval]
 ·intro k hk;refine Ye ?_;refine cD ?_ ?_<;>intro h1<;>simp (disch:=omega) only [Sh.out h1,go_sem,seval,↓reduceIte]
  ·have hk2:k<x.orders.length:=Za
   have hm:=Nj x k;have hp:2^k<=2^10:=Yt Za Za;have hpw:pw k<=1024:=hp;refine QS ?_ ?_<;>intro h2
   ·refine (xN (nth x.orders k)).use (Zc ?_)
    have ho:(nth x.orders k).off=false:=by grind
    exact ⟨k+1,Za,Za,Weak.mk (by simp (disch:=omega) only [Yv,ho,YU,go_sem,seval,↓reduceIte])⟩
   ·have ho:(nth x.orders k).off=true:=by grind
    exact ⟨k+1,Za,Za,Weak.mk (by simp (disch:=omega) only [Yv,ho,go_sem,seval,↓reduceIte])⟩
  ·have hkl:k=x.orders.length:=Za
   subst hkl;exact we
theorem ZcR (x:Inst) (hn:x.orders.length<=10):PC 164 [.p (Zv x)] (.int .i64 ((Yv x x.orders.length:Nat):Int)):=by
 refine Zd Tryz.func164 rfl ZaM ?_;simp (disch:=omega) only [Tryz.f164,go_sem,seval];refine (Zdg x hn).use ?_;simp (disch:=omega) only [go_sem,seval]
def Rb (S M:Nat):Bool:=(List.range 63).all fun i=> !S.testBit i||M.testBit i
theorem tQ (S M:Nat) (hS:S<9223372036854775808):PC 199 [.p (.int .i64 (S:Int)),.p (.int .i64 (M:Int))] (.bool (Rb S M)):=by
 refine Zd Tryz.func199 rfl Zbe ?_;simp (disch:=omega) only [Tryz.f199,go_sem,seval];have hb:=DY (S:=S) (M:=M) hS
 have hd:decide (IntKind.i64.wrap ((BitVec.ofInt 64 (S:Int)&&& ~~~BitVec.ofInt 64 (M:Int)).toNat:Int)=0)=((List.range 63).all fun i=> !S.testBit i||M.testBit i):=by
  grind
 exact ZU (fun b=>V.p (PV.bool b)) hd
def rightB (x:Inst) (c:Col):Bool:=decide (0<=c.typ)&&(decide (c.typ<x.types.length)&&(decide (0<c.set)&&(Rb c.set.toNat (Yv x x.orders.length)&&(decide (0<=c.price)&&decide (c.price<=18014398509481984)))))
theorem TD (x:Inst) (c:Col) (hs:c.set<9223372036854775808) (ht:x.types.length<=1048576):PC 165 [.p (Zv x),.p (Xp c),.p (.int .i64 ((Yv x x.orders.length:Nat):Int))] (.bool (rightB x c)):=by
 refine Zd Tryz.func165 rfl ZaN ?_;simp (disch:=omega) only [Tryz.f165,go_sem,seval];refine gT ?_ ?_<;>intro h1<;>simp (disch:=omega) only [Sh.out h1,go_sem,seval,↓reduceIte]
 ·refine gT ?_ ?_<;>intro h2<;>simp (disch:=omega) only [Sh.out h2,go_sem,seval,↓reduceIte]
  ·refine gT ?_ ?_<;>intro h3<;>simp (disch:=omega) only [Sh.out h3,go_sem,seval,↓reduceIte]
   ·obtain ⟨S,hS⟩: ∃S:Nat,c.set=(S:Int):=⟨c.set.toNat,Za⟩
    have e1:rightB x c=(Rb S (Yv x x.orders.length)&&(decide (0<=c.price)&&decide (c.price<=18014398509481984))):=by
     simp_all [rightB]
    rw [hS];refine (tQ S (Yv x x.orders.length) Za).use (Zc ?_);refine gT ?_ ?_<;>intro h4<;>simp (disch:=omega) only [Sh.out h4,go_sem,seval,↓reduceIte]
    ·refine gT ?_ ?_<;>intro h5<;>simp (disch:=omega) only [Sh.out h5,go_sem,seval,↓reduceIte]
     ·grind
     grind
    grind
   grind [rightB]
  grind [rightB]
 ·simp [rightB,h1]
theorem ZoY (n:Nat) (h0:0<n) (h:n<16):PC 174 [.p (.int .u64 n)] (.int .i64 (AY n)):=by
 refine Zd Tryz.func174 rfl ZaV ?_;simp (disch:=omega) only [Tryz.f174,go_sem,seval];refine (Zdl n h0 h).use ?_;simp (disch:=omega) only [go_sem,seval]
theorem NT (n:Nat) (h0:0<n) (h:n<16):PC 125 [.p (.int .i64 n)] (.int .i64 (AY n)):=by
 refine Zd Tryz.func125 rfl Zao ?_;simp (disch:=omega) only [Tryz.f125,go_sem,seval];refine cD ?_ ?_<;>intro h1<;>simp (disch:=omega) only [Sh.out h1,go_sem,seval]
 ·omega
 ·refine (ZoY n h0 h).use ?_;simp (disch:=omega) only [go_sem,seval]
def skpF (x:Inst) (i:Nat):Int:=if (unsF x i).2=0/\(YB (unsF x i).1).2=0 then (YB (unsF x i).1).1 else-1
def Yl (ys:List Col) (i:Nat):List Col:=ys.filter fun c=>decide (AY c.set.toNat=(i:Int))
def fstF (n:Nat) (ys:List Col):List (List Col):=(List.range n).map (Yl ys)
theorem aZ {ys:List Col} {k i:Nat} (h:k<ys.length):Yl (ys.take (k+1)) i=if AY (nth ys k).set.toNat=(i:Int) then Yl (ys.take k) i++ [nth ys k] else Yl (ys.take k) i:=by
 grind [Yb,Yl,nth]
theorem lP (i:Nat):Yl [] i= []:=rfl
theorem CN (ys:List Col) (k i:Nat):(Yl (ys.take k) i).length<=ys.length:=by
 refine AC (List.length_filter_le _ _) ?_;simp;omega
theorem JL (ys):fstF 0 ys= []:=rfl
theorem QT (ys):fstF 1 ys= [Yl ys 0]:=rfl
theorem QU (ys):fstF 2 ys= [Yl ys 0,Yl ys 1]:=rfl
theorem QV (ys):fstF 3 ys= [Yl ys 0,Yl ys 1,Yl ys 2]:=rfl
theorem QW (ys):fstF 4 ys= [Yl ys 0,Yl ys 1,Yl ys 2,Yl ys 3]:=rfl
def CT : List (List Col)->Nat->List V
 | [],_=> []
 | p::P,o=> .sl o 0 p.length p.length::CT P (o+1)
def H7 (P:List (List Col)):List AM.Obj:=P.map fun p=> .elems 7 (p.map Xp)
theorem aJ {n0:Nat} {fr:List V} {a b c:AM.Obj} (h0:n0<=4) (n:Nat):Weak n0 fr [a,b,c,.cells (List.replicate n (.p (.list true [])))] fr (a::b::c:: .cells (CT (List.replicate n []) 4)::H7 (List.replicate n [])):=by
 have hr: ∀(k o:Nat),CT (List.replicate k []) o=(List.range k).map fun j=>V.sl (o+j) 0 0 0:=fun k=>by
  induction k with
  | zero=>intro o;rfl
  | succ k ih =>
   intro o;rw [KG,CT,ih,List.range_succ_eq_map,Zr,List.map_map];simp only [ZF,Ub,List.cons.injEq,true_and];apply W1
   grind
 have key: ∀k,k<=n->Weak n0 fr [a,b,c,.cells (List.replicate n (.p (.list true [])))] fr (a::b::c:: .cells (((List.range k).map fun j=>V.sl (4+j) 0 0 0)++List.replicate (n-k) (.p (.list true [])))::List.replicate k (.elems 7 [])):=fun k=>by
  induction k with
  | zero=>grind [Weak.refl]
  | succ k ih =>
   intro hk
   have h1:=(ih Za).trans (Weak.nilC (n0:=n0) (fr:=fr) (o:=3) (j:=k) 7 (by rfl) (by
    grind) (by simp;omega))
   have e1:List.length (a::b::c::AM.Obj.cells (((List.range k).map fun j=>V.sl (4+j) 0 0 0)++List.replicate (n-k) (.p (.list true [])))::List.replicate k (AM.Obj.elems 7 []))=4+k:=by simp;omega
   have e2:(((List.range k).map fun j=>V.sl (4+j) 0 0 0)++List.replicate (n-k) (V.p (.list true []))).set k (.sl (4+k) 0 0 0)=((List.range (k+1)).map fun j=>V.sl (4+j) 0 0 0)++List.replicate (n-(k+1)) (V.p (.list true [])):=by
    rw [EB _ _ Zb,show n-k=(n-(k+1))+1 by omega,KG,Yu,Xz];simp
   grind [EF]
 have:=key n (ZA _)
 simp_all [H7]
def skF (x:Inst) (n:Nat):List Int:=(List.range n).map (skpF x)
def pW (x:Inst) (m:Int) (f g:V):AM.Obj:= .cells [.p (.list x.net.places_c (x.net.places.map eS)),.p (.list x.net.arcs_c (x.net.arcs.map VW)),.p (.list x.types_c (x.types.map X4)),.p (.list x.orders_c (x.orders.map Yh)),.p (.list x.apart_c (x.apart.map eP)),.p (.list x.before_c (x.before.map eP)),f,g,.mp 1,.p (.int .i64 m)]
theorem Qk {x:Inst} {c:Col} (h:rightB x c=true) (hs:c.set<9223372036854775808): ∃S:Nat,c.set=S/\0<S/\S<2^x.orders.length/\ ∀i,S.testBit i=true->i<x.orders.length/\(nth x.orders i).off=false:=by
 simp only [rightB,ZB,Zq] at h;obtain ⟨_,_,h3,h4,_⟩:=h
 have key: ∀i,c.set.toNat.testBit i=true->i<x.orders.length/\(nth x.orders i).off=false:=fun i hi=>by
  have h63:i<63:=by
   rcases Wr i 63 with h | h
   ·exact h
   ·have:2^63<=2^i:=Yt Za h
    grind [Ao]
  have:=Zz.1 h4 i (ZL.2 h63)
  grind [U2]
 refine ⟨c.set.toNat,Za,Za,?_,key⟩;refine Nat.lt_pow_two_of_testBit _ fun i hi=> ?_
 grind
theorem Zdm {S n:Nat} (h0:0<S) (h:S<2^n) (hn:n<=4):AY S<n/\0<=AY S:=by
 have:n=0\/n=1\/n=2\/n=3\/n=4:=Za
 unfold AY
 grind
theorem Gy (x:Inst) (k:Nat):skF x (k+1)=skF x k++ [skpF x k]:=by simp [skF,Yu]
theorem J6 (x:Inst) (k:Nat):(skF x k).length=k:=by simp [skF]
theorem ZjG (x:Inst):skF x 0= []:=rfl
theorem Na {P:Program} {ko:List Nat} {l:List Oper} {n:Nat} {rem:List Nat} {fr:List V} {H:List AM.Obj} {K:List V->List AM.Obj->Prop} (m:Nat) (Y:V) (Z:List AM.Obj) (hr:Qj l rem= [m]) (h:Zw P (Xb l m) fr H fun y H'=>y=Y/\H'=Z)
  (k:(∀k∈ko,oat Z k=oat H k)/\Cj P ko l n (rem.erase m) (UF fr (Xb l m).dst Y) Z K):Cj P ko l (n+1) rem fr H K :=
 HJ m _ hr h fun y H' hq=>by grind
theorem TC (x:Inst) (l:List Col) (lc:Bool) (hn:x.orders.length<=4) (ht:x.types.length<=1048576) (hu: ∀i:Nat,scoR 1152921504606846976 (unsF x i).1) (hs: ∀c∈l,c.set<9223372036854775808) (hl:l.length<=1048576) :
  ACalls Tryz.prog 119 [.p (Zv x),.p (.list lc (l.map Xp))] [] fun y H'=>(8192<l.length/\y= .tup [.p .nilp,.p (.int .i64 4)]/\H'= [])\/(l.length<=8192/\(∃c∈l,rightB x c=false)/\y= .tup [.p .nilp,.p (.int .i64 2)]/\H'= []) \/
   (l.length<=8192/\(∀c∈l,rightB x c=true)/\ ∃ys,(Cheap l ys/\ys.length<=l.length)/\y= .tup [.ptr 2 0,.p (.int .i64 0)]/\H'= .cells (List.replicate 6 .junk)::(YZ x (.list false ((fstF x.orders.length ys).map Wy)) (.list false ((skF x x.orders.length).map eI)) (Yv x x.orders.length) []).map (shO 1)):=by
 refine Zf [10] Tryz.func119 rfl Zaj ?_;simp (disch:=omega) only [Tryz.f119,go_sem,seval];refine cD ?_ ?_<;>intro h0<;>simp (disch:=omega) only [Sh.out h0,go_sem,seval]
 ·exact ⟨_,[],wk,.inl ⟨Za,rfl,rfl⟩⟩
 ·refine X0 [1] 4 mixed Ze Ze Ze Zb (Zc ?_);refine Zo (ZcR x Za) (Zc ?_);refine Xr 1 _ _ Ze (by refine Zc ?_;exact ⟨rfl,rfl⟩) (Wz ?_);simp (disch:=omega) only [show ∀(l:List V),Qq (V.mp 1::l)=none from fun _=>rfl,Option.map_none,go_sem,seval];refine Zm [1,2,6,27,28] (fun k:Nat=> [(29,.p (.int .i64 k))]) (fun _=> [Zj x,.map [],pW x ((Yv x x.orders.length:Nat):Int) (.p (.list true [])) (.p (.list true []))]) (fun k=>k<=l.length/\ ∀j,j<k->rightB x (nth l j)=true) (fun k=>l.length-k) 0 ⟨Za,fun j hj=>Za⟩ (Weak.mk ?_) ?_
  ·simp (disch:=omega) only [Zj,pW,go_sem,seval]
  ·rintro k ⟨hk,hr⟩;simp (disch:=omega) only [Zj,pW,go_sem,seval];refine cD ?_ ?_<;>intro h1<;>simp (disch:=omega) only [Sh.out h1,go_sem,seval,↓reduceIte]
   ·have hk2:k<l.length:=Za
    refine Xo (Zc ?_);refine Zo (TD x (nth l k) (hs _ (ZY hk2)) ht) (Zc ?_)
    cases hq:rightB x (nth l k) with
    | false =>
     refine GE ?_;exact ⟨_,[],wk,.inr (.inl ⟨Za,⟨_,ZY hk2,hq⟩,rfl,rfl⟩)⟩
    | true =>
     refine BI ?_
     exact ⟨k+1,⟨Za,fun j hj=>by
      grind⟩,Za,wk⟩
   ·have hkl:k=l.length:=Za
    subst hkl
    have hall: ∀c∈l,rightB x c=true:=fun c hc=>by
     obtain ⟨j,hj,rfl⟩:=ZT.1 hc
     grind [Zh]
    clear hr hk h1;generalize ((Yv x x.orders.length:Nat):Int)=m;have hun: ∀i:Nat,PT 167 [.p (Zv x),.p (.int .i64 i)] [.p (Ek (unsF x i).1),.p (.int .i64 (unsF x i).2)]:=fun i=>ND x i Za;refine YO (IK 4 rfl rfl (Zc ?_));refine ⟨_,_,aP 248 83 _ _ x.orders.length 24 (.list true []) rfl Ze Ze Ze Ze (by rfl) Za Za (by simp (disch:=omega) only [go_sem,seval]) (by simp (disch:=omega) only [go_sem,seval]),?_⟩
    refine Zc ?_
    have h5:x.orders.length=0\/x.orders.length=1\/x.orders.length=2\/x.orders.length=3\/x.orders.length=4:=Za
    refine Zp (aJ Zb x.orders.length) ?_;refine Zg [17] _ _ _ _ (Zc ?_);refine (O3 l lc Za).useV fun ys hC=>Zc ?_;obtain ⟨hC,hyl⟩:=hC;rcases h5 with h5 | h5 | h5 | h5 | h5
    all_goals
     simp (disch:=omega) only [h5,List.replicate,CT,H7,Zr,Zn,go_sem,seval];refine Zm [2,6,50,51] (fun k:Nat=> [(52,.p (.int .i64 k))]) (fun k=> [Zj x,.map [],pW x m (.sl 3 0 x.orders.length x.orders.length) (.p (.list true [])),.cells (CT (fstF x.orders.length (ys.take k)) 4)]++H7 (fstF x.orders.length (ys.take k))) (fun k=>k<=ys.length) (fun k=>ys.length-k) 0 Za (Weak.mk ?_) ?_
     ·simp (disch:=omega) only [h5,Q2,lP,ZF,JL,QT,QU,QV,QW,CT,H7,Zr,Zn,ZK,Zy,Zj,pW,go_sem,seval]
     ·intro k hk;simp (disch:=omega) only [h5,JL,QT,QU,QV,QW,CT,H7,Zr,Zn,ZK,Zy,Zj,pW,go_sem,seval];refine cD ?_ ?_<;>intro h1<;>simp (disch:=omega) only [Sh.out h1,go_sem,seval,↓reduceIte]
      ·have hk2:k<ys.length:=Za
       obtain ⟨j,hj,hjl,_⟩:=hC.bst _ (ZY hk2)
       have hmem:nth ys k∈l:=by rw [<- hjl];exact ZY hj
       obtain ⟨S,hS,hS0,hS1,hS2⟩:=Qk (hall _ hmem) (hs _ hmem);have hlt:=Zdm hS0 hS1 hn;have h16:S<16:=Uz hS1 (by rw [h5];decide)
       have cl:PC 125 [.p (.int .i64 (nth ys k).set)] (.int .i64 (AY (nth ys k).set.toNat)):=by
        rw [hS];exact NT S hS0 h16
       refine (cl).use ?_;simp (disch:=omega) only [go_sem,seval]
       have htz:AY (nth ys k).set.toNat=AY S:=by rw [hS];rfl
       have hi:AY (nth ys k).set.toNat=0\/AY (nth ys k).set.toNat=1\/AY (nth ys k).set.toNat=2\/AY (nth ys k).set.toNat=3:=Za
       rcases hi with hi | hi | hi | hi
       all_goals try omega
       all_goals
        simp (disch:=omega) only [hi,go_sem,seval];refine Bk [14] [1,2,3] [2] 15 mixed Ze Ze Ze Ze Zb ?_;simp (disch:=omega) only [go_sem,seval,↓reduceIte];refine ⟨fun q hq p' hp=> ?_,?_⟩
        ·simp only [Z5,Y6,Ws] at hq;rcases hq with rfl | rfl | rfl
         ·obtain rfl:59=p':=Vi hp;exact V3 (by decide)
         ·obtain rfl:60=p':=Vi hp;exact V3 (by decide)
         ·obtain rfl:61=p':=Vi hp;exact V3 (by decide)
        ·have q0:=CN ys k 0;have q1:=CN ys k 1;have q2:=CN ys k 2;have q3:=CN ys k 3;refine Na 14 _ _ Ze (by simp (disch:=omega) only [go_sem,seval,↓reduceIte];exact ⟨rfl,rfl⟩) ?_;refine ⟨fun k hk=>by simp at hk;subst hk;rfl,Lk ?_⟩;simp (disch:=omega) only [go_sem,seval];exact ⟨k+1,Za,Za,Weak.mk (by simp (disch:=omega) only [h5,aZ hk2,hi,Xz,ZH,ZD,ZF,Xm,QT,QU,QV,QW,CT,Zr,Zn,go_sem,seval,↓reduceIte])⟩
      ·have hkl:k=ys.length:=Za
       subst hkl;clear hk h1
       try refine Zp (Weak.fz (o:=4) (by rfl)) ?_
       try refine Zp (Weak.fz (o:=5) (by rfl)) ?_
       try refine Zp (Weak.fz (o:=6) (by rfl)) ?_
       try refine Zp (Weak.fz (o:=7) (by rfl)) ?_
       refine Zg [17] _ _ _ _ ?_;simp (disch:=omega) only [YV,Zr,Zn,Z6,ZX,eq_self,go_sem,seval,↓reduceIte];refine Zp (Weak.fzC (o:=3) (ys:=(fstF x.orders.length ys).map Wy) (by rw [h5];rfl) (fun y hy=>by obtain ⟨p,_,rfl⟩:=XQ.1 hy;rfl)) ?_;refine Zg [17] _ _ _ _ ?_;simp (disch:=omega) only [h5,JL,QT,QU,QV,QW,Zr,Zn,Z6,ZX,ZD,ZF,Xm,Nat.reduceAdd,eq_self,go_sem,seval,↓reduceIte]
       refine Zg [28] _ _ _ _ ?_;simp (disch:=omega) only [go_sem,seval,↓reduceIte];refine Zm [2,6,78] (fun k:Nat=> [(79,.p (.int .i64 k))]) (fun k=> [Zj x,.map [],pW x m (.p (.list false ((fstF x.orders.length ys).map Wy))) (.sl (4+x.orders.length) 0 k k),.dead]++List.replicate x.orders.length .dead++ [.elems 1 ((skF x k).map eI)]) (fun k=>k<=x.orders.length) (fun k=>x.orders.length-k) 0 Za ((Weak.nilC (o:=2) (j:=7) 1 (by rfl) (by rfl) Zb).trans (Weak.mk ?_)) ?_
       ·simp (disch:=omega) only [h5,ZjG,List.replicate,Z6,ZX,ZD,ZF,Xm,Nat.reduceAdd,JL,QT,QU,QV,QW,Zr,Zn,ZK,Zy,Zj,pW,go_sem,seval]
       ·intro k hk;simp (disch:=omega) only [h5,List.replicate,Nat.reduceAdd,JL,QT,QU,QV,QW,Zr,Zn,ZK,Zy,Zj,pW,go_sem,seval];refine cD ?_ ?_<;>intro h1<;>simp (disch:=omega) only [Sh.out h1,go_sem,seval,↓reduceIte]
        ·have hk2:k<x.orders.length:=Za
         refine Wv (hun k) ?_;simp (disch:=omega) only [go_sem,seval,↓reduceIte];refine cD ?_ ?_<;>intro h2<;>simp (disch:=omega) only [Sh.out h2,go_sem,seval,↓reduceIte]
         ·refine Wv (HT _ (hu k)) ?_;simp (disch:=omega) only [go_sem,seval];refine cD ?_ ?_<;>intro h3<;>simp (disch:=omega) only [Sh.out h3,go_sem,seval,↓reduceIte]
          ·have hsk:skpF x k=(YB (unsF x k).1).1:=by simp [skpF,h2,h3]
           simp (disch:=omega) only [J6,go_sem,seval];rw [if_pos ⟨Za,Za⟩];simp (disch:=omega) only [J6,Z1,ZH,ZD,ZF,Xm,eq_self,VH,go_sem,seval];exact ⟨k+1,Za,Za,Weak.mk (by simp (disch:=omega) only [h5,Gy,hsk,Xz,List.replicate,Nat.reduceAdd,JL,QT,QU,QV,QW,Zr,Zn,ZK,Zy,go_sem,seval])⟩
          ·have hsk:skpF x k= -1:=by simp [skpF,h3]
           simp (disch:=omega) only [J6,go_sem,seval];rw [if_pos ⟨Za,Za⟩];simp (disch:=omega) only [J6,Z1,ZH,ZD,ZF,Xm,eq_self,VH,go_sem,seval];exact ⟨k+1,Za,Za,Weak.mk (by simp (disch:=omega) only [h5,Gy,hsk,Xz,List.replicate,Nat.reduceAdd,JL,QT,QU,QV,QW,Zr,Zn,ZK,Zy,go_sem,seval])⟩
         ·have hsk:skpF x k= -1:=by simp [skpF,h2]
          simp (disch:=omega) only [J6,go_sem,seval];rw [if_pos ⟨Za,Za⟩];simp (disch:=omega) only [J6,Z1,ZH,ZD,ZF,Xm,eq_self,VH,go_sem,seval];exact ⟨k+1,Za,Za,Weak.mk (by simp (disch:=omega) only [h5,Gy,hsk,Xz,List.replicate,Nat.reduceAdd,JL,QT,QU,QV,QW,Zr,Zn,ZK,Zy,go_sem,seval])⟩
        ·have hkl:k=x.orders.length:=Za
         clear hk h1;refine Zp (Weak.fz (o:=4+x.orders.length) (S:=1) (xs:=(skF x k).map eI) (by rw [h5];rfl)) ?_;refine Zg [] _ _ _ _ ?_;simp (disch:=omega) only [h5,Zr,Zn,Z6,ZX,Z1,J6,Nat.reduceAdd,eq_self,go_sem,seval,↓reduceIte];exact ⟨.tup [.ptr 2 0,.p (.int .i64 0)],_,Weak.mk (by simp (disch:=omega) only [hkl,h5,YZ,VV,shO,shVs,shV,JL,QT,QU,QV,QW,Zr,Zn,go_sem,seval]),.inr (.inr ⟨Za,hall,ys,⟨hC,hyl⟩,rfl,rfl⟩)⟩
theorem Zdn : ∀S:Fin 16,0<S.val->sHas (S.val:Int) (AY S.val)=true:=by decide+kernel
theorem N2 {x:Inst} (hx:InstOk x) (i:Nat): -1<=skpF x i/\skpF x i<=18014398509481984:=by
 unfold skpF
 split
 ·rename_i h
  have hm:(unsF x i).1.cost<=1000000/\(unsF x i).1.moved<=1/\0<=(unsF x i).1.moved/\(unsF x i).1.other=0/\(unsF x i).1.work=0:=by
   unfold unsF
   split
   ·simp [zSco]
   ·split
    ·simp [zSco]
    ·split
     ·simp [zSco]
     ·have ha:=(hx.orders.2 (i:Int).toNat Za).arg;simp only [argOk,rng,ZB,Zq] at ha
      grind
  obtain ⟨_,h2⟩:=h;unfold YB at h2 ⊢
  grind
 ·omega
theorem Rx {x:Inst} {l ys:List Col} (hx:InstOk x) (hn:x.orders.length<=4) (hC:Cheap l ys) (hr: ∀c∈l,rightB x c=true) (hs: ∀c∈l,c.set<9223372036854775808):ChOk x.orders.length x (fstF x.orders.length ys) (skF x x.orders.length):=by
 refine ⟨fun i hi c hc=> ?_,?_,fun i hi=> ?_⟩
 ·have e:nth (fstF x.orders.length ys) i=Yl ys i:=by
   grind [fstF,Zh]
  rw [e,Yl,QA] at hc;obtain ⟨h1,h2⟩:=hc;simp only [Zq] at h2;obtain ⟨j,hj,hjl,_⟩:=hC.bst c h1
  have hm:c∈l:=by grind [ZY]
  obtain ⟨S,q1,q2,q3,_⟩:=Qk (hr c hm) (hs c hm);have h16:S<16:=Uz q3 (Yt (n:=2) Za hn);have hb:=Zdn ⟨S,h16⟩ q2;have hr1:=hr c hm;simp only [rightB,ZB,Zq] at hr1
  grind
 ·have ht:=hx.types;simp only [typesOk,rng,Zq] at ht;refine ⟨Za,fun t _=> ?_⟩;rcases Wr t x.types.length with h | h
  ·have:=ht.2 t h;unfold Us at this;have:=this.1.1.1.1.1.1.2;simp only [rng,Zq] at this;omega
  ·rw [show nth x.types t=default from by grind [nth]]
   decide
 simp_all [skF,Zh,N2]
def zSt : St:=⟨0,0,[0,0,0,0,0,0]⟩
def Ln (x:Inst) (ys:List Col):Int:=Wg x.orders.length ((Yv x x.orders.length:Nat):Int) x (fstF x.orders.length ys) (skF x x.orders.length) 20 (Vv x.orders.length ((Yv x x.orders.length:Nat):Int) zSt)
theorem wY (n:Nat):StV n zSt:=⟨rfl,⟨by decide,by simp [zSt]⟩,⟨0,rfl,Za⟩,fun j hj=>by
 have:nth zSt.used j=0:=by
  have:j=0\/j=1\/j=2\/j=3\/j=4\/j=5:=Za
  rcases this with rfl | rfl | rfl | rfl | rfl | rfl<;>rfl
 omega⟩
theorem GB {α:Type} {r:α->α->Prop} (irr: ∀a,¬r a a) (asy: ∀a b,r a b-> ¬r b a): ∀ {l l':List α},l.Pairwise r->l'.Pairwise r->(∀a,a∈l↔a∈l')->l=l'
 | [],[],_,_,_=>rfl
 | [],b::_,_,_,h=>by have:=(h b).2 Zb;simp at this
 | a::_,[],_,_,h=>by have:=(h a).1 Zb;simp at this
 | a::l,b::l',h1,h2,h=>by
  rw [List.pairwise_cons] at h1 h2
  have hab:a=b:=by
   rcases Z5.1 ((h a).1 Zb) with e | e
   ·exact e
   ·rcases Z5.1 ((h b).2 Zb) with e' | e'
    ·exact e'.symm
    ·exact absurd (h1.1 b e') (asy _ _ (h2.1 a e))
  subst hab
  rw [GB irr asy h1.2 h2.2 fun c=>⟨fun hc=>by
   rcases Z5.1 ((h c).1 (Yr _ hc)) with e | e
   ·subst e;exact absurd (h1.1 c hc) (irr c)
   ·exact e,fun hc=>by
   rcases Z5.1 ((h c).2 (Yr _ hc)) with e | e
   ·subst e;exact absurd (h2.1 c hc) (irr c)
   ·exact e⟩]
theorem fK {l ys:List Col} (h:Cheap l ys) {c:Col} (hc:c∈l): ∃d∈ys,kd d=kd c/\d.price<=c.price:=by
 obtain ⟨d,hd,e⟩:=h.all c hc;obtain ⟨j,hj,rfl⟩:=ZT.1 hc;obtain ⟨i,hi,_,h3⟩:=h.bst d hd
 grind [Zh]
theorem fJ {l ys:List Col} (h:Cheap l ys) {d:Col} (hd:d∈ys):d∈l:=by
 obtain ⟨j,hj,e,_⟩:=h.bst d hd
 grind [ZY]
theorem Nq {n i:Nat} {ys:List Col} :nth (fstF n ys) i=if i<n then Yl ys i else []:=by
 split
 ·grind [fstF,Zh]
 ·rename_i h;rw [nth,JV,List.getElem?_eq_none (by simp [fstF];omega)];rfl
def cY (a b:Int):Prop:=b<0\/(0<=a/\a<=b)
theorem RR {x:Inst} {s:St} {r:Col->Int} (hr: ∀c,-1<=r c): ∀ {l:List Col} {a:Int},(∀c∈l,0<=c.price) ->
  cY (l.foldl (fun o c=>if YG x s c=true then YY o c.price (r c) else o) a) a/\ ∀c∈l,YG x s c=true->0<=r c->cY (l.foldl (fun o c=>if YG x s c=true then YY o c.price (r c) else o) a) (c.price+r c)
 | [],a,_=>⟨by grind [cY],fun c hc=>by simp at hc⟩
 | d::l,a,hp=>by
  have hd:=hp d Zb;obtain ⟨g1,g2⟩:=RR (x:=x) (s:=s) hr (l:=l) (a:=if YG x s d=true then YY a d.price (r d) else a) fun c hc=>hp c (Yr _ hc);rw [XP];generalize l.foldl (fun o c=>if YG x s c=true then YY o c.price (r c) else o) (if YG x s d=true then YY a d.price (r d) else a)=M at g1 g2;refine ⟨?_,fun c hc hy h0=> ?_⟩
  ·grind [cY,YY]
  ·rcases Z5.1 hc with rfl | hc
   ·rw [if_pos hy] at g1
    grind [cY,YY]
   grind
theorem HA {x:Inst} {s:St} {r:Col->Int} : ∀ {l:List Col} {a:Int},l.foldl (fun o c=>if YG x s c=true then YY o c.price (r c) else o) a=a\/ ∃c∈l,YG x s c=true/\0<=r c/\l.foldl (fun o c=>if YG x s c=true then YY o c.price (r c) else o) a=c.price+r c
 | [],a=> .inl rfl
 | d::l,a=>by
  rw [XP];rcases HA (x:=x) (s:=s) (r:=r) (l:=l) (a:=if YG x s d=true then YY a d.price (r d) else a) with h | ⟨c,h1,h2,h3,h4⟩
  ·rw [h]
   split
   ·rename_i hy;unfold YY
    split
    ·grind
    omega
   omega
  grind
abbrev Cm := { c:Col // ∃S:Nat,c.set=S/\0<S/\S<16 }
instance : Inhabited Cm := ⟨⟨⟨0, 1, 0, default⟩, 1, rfl, by decide, by decide⟩⟩
def lo (c:Col):Int:=AY c.set.toNat
def qA (a b:Col):Int:=sN [Y0 a.typ b.typ,Y0 (lo a) (lo b)]
theorem JE {a b:Col} :qA a b<0↔a.typ<b.typ\/(a.typ=b.typ/\lo a<lo b):=by
 grind [qA,EN,fW,fV]
def yZ (a b:Cm):Int:=qA a.val b.val
theorem qC : Go.Sort.SWO (ltOf yZ) where
 irrefl x:=by grind [ltOf,yZ,JE]
 trans x y z h1 h2:=by simp only [ltOf,yZ,Zq,JE] at *;omega
 ntrans x y z h1 h2:=by grind [ltOf,yZ,JE]
theorem Zi6 (c:Cm):PC 125 [.p (.int .i64 c.val.set)] (.int .i64 (lo c.val)):=by
 obtain ⟨c,S,h1,h2,h3⟩:=c
 grind [lo,NT]
theorem TE (a b:Cm):PC 124 [.p (Xp a.val),.p (Xp b.val)] (.int .i64 (yZ a b)):=by
 refine Zd Tryz.func124 rfl Zan ?_;simp (disch:=omega) only [Tryz.f124,go_sem,seval];refine Xo (Zc ?_);refine Zo (D0 a.val.typ b.val.typ) (Zc ?_);refine Zo (Zi6 a) (Zc ?_);refine Zo (Zi6 b) (Zc ?_);refine Zo (D0 (lo a.val) (lo b.val)) (Zc ?_);refine Zo (sO [Y0 a.val.typ b.val.typ,Y0 (lo a.val) (lo b.val)] false Zb) (Zc ?_)
 rfl
theorem tX (xs:List Cm) (hl:xs.length<=1048576) {H:List AM.Obj} {o:Nat} (hH:H[o]? =some (.elems 7 (xs.map fun c=>Xp c.val))) :
  ACalls Tryz.prog 123 [.sl o 0 xs.length xs.length,.fn (.func 124) [] []] H fun y H'=>y= .tup []/\ ∃ys:List Cm,ys.Perm xs/\ys.Pairwise (fun a b=> ¬yZ b a<0)/\H'=H.set o (.elems 7 (ys.map fun c=>Xp c.val)) :=
 ACalls.sortFunc N3 jF 7 Tryz.isAgg107 Tryz.sizeOf107 (fun c:Cm=>Xp c.val) (fun x=>⟨_,rfl,rfl,rfl⟩) yZ qC 124 TE xs Za hH
theorem DD {n:Nat} {m:Int} {x:Inst} {fst:List (List Col)} {sk:List Int} : ∀(d:Nat) (s:St),∀c∈(Yx n m x fst sk d s).1,∃i,i<fst.length/\c∈nth fst i
 | 0,s,c,h=>by simp [Yx] at h
 | d+1,s,c,h=>by
  rw [Yx] at h
  split at h
  ·simp at h
  ·split at h
   ·rename_i c' hf;simp only [Z5] at h;rcases h with rfl | h
    ·refine ⟨s.ix.toNat,?_,QY hf⟩;rcases Wr s.ix.toNat fst.length with h | h
     ·exact h
     ·rw [show nth fst s.ix.toNat= [] from by simp [nth,JV,List.getElem?_eq_none h];rfl] at hf;simp at hf
    ·exact DD d _ c h
   ·exact DD d _ c h
def zPlC : Pln:=⟨true,[],true,[]⟩
def oG (x:Inst) (l:List Col) (p:Pln) (c e:Int):Prop:=(8192<l.length/\p=zPlC/\c=0/\e=4)\/(l.length<=8192/\(∃c∈l,rightB x c=false)/\p=zPlC/\c=0/\e=2) \/
 (l.length<=8192/\(∀c∈l,rightB x c=true)/\ ∃ys,Cheap l ys/\ys.length<=l.length/\((Ln x ys<0/\p=zPlC/\c=0/\e=24)\/(0<=Ln x ys/\c=Ln x ys/\e=0 /\
  ∃zs:List Col,zs.Perm (Yx x.orders.length ((Yv x x.orders.length:Nat):Int) x (fstF x.orders.length ys) (skF x x.orders.length) 20 (Vv x.orders.length ((Yv x x.orders.length:Nat):Int) zSt)).1/\zs.Pairwise (fun a b=> ¬qA b a<0) /\
   p=⟨false,zs.map (·.route),false,(Yx x.orders.length ((Yv x x.orders.length:Nat):Int) x (fstF x.orders.length ys) (skF x x.orders.length) 20 (Vv x.orders.length ((Yv x x.orders.length:Nat):Int) zSt)).2⟩)))
theorem DC {n:Nat} {m:Int} {x:Inst} {fst:List (List Col)} {sk:List Int} : ∀(d:Nat) (s:St),(Yx n m x fst sk d s).1.length<=d/\(Yx n m x fst sk d s).2.length<=d
 | 0,s=>by simp [Yx]
 | d+1,s=>by
  rw [Yx]
  split
  ·simp
  ·split
   ·rename_i c' hf;have:=DC (n:=n) (m:=m) (x:=x) (fst:=fst) (sk:=sk) d (VT n m s c');simp;omega
   ·have:=DC (n:=n) (m:=m) (x:=x) (fst:=fst) (sk:=sk) d (Dz n m s);simp;omega
theorem aW (x:Inst) (l:List Col) (lc:Bool) (hx:InstOk x) (hn:x.orders.length<=4) (ht:x.types.length<=1048576) (hs: ∀c∈l,c.set<9223372036854775808) (hl:l.length<=1048576) :
  ACalls Tryz.prog 81 [.p (Zv x),.p (.list lc (l.map Xp))] [] fun y H'=> ∃p c e,oG x l p c e/\y= .tup [.p (JI p),.p (.int .i64 c),.p (.int .i64 e)]/\H'= []:=by
 refine Zf [16] Tryz.func81 rfl ZiO ?_;simp (disch:=omega) only [Tryz.f81,go_sem,seval];refine ((TC x l lc hn ht (fun i=>AQ Za (Od hx _)) hs hl).behind (by rfl) _).mono ?_;rintro y H' ⟨y1,H1,hq,rfl,rfl⟩;rcases hq with ⟨h1,rfl,rfl⟩ | ⟨h1,h2,rfl,rfl⟩ | ⟨h1,h2,ys,⟨hC,hyl⟩,rfl,rfl⟩
 ·simp (disch:=omega) only [shV,shVs,Zn,go_sem,seval];exact ⟨.tup [.p (JI zPlC),.p (.int .i64 0),.p (.int .i64 4)],[],Weak.mk (by simp (disch:=omega) only [zPlC,Zn,go_sem,seval]),_,_,_,Or.inl ⟨h1,rfl,rfl,rfl⟩,rfl,rfl⟩
 ·simp (disch:=omega) only [shV,shVs,Zn,go_sem,seval];exact ⟨.tup [.p (JI zPlC),.p (.int .i64 0),.p (.int .i64 2)],[],Weak.mk (by simp (disch:=omega) only [zPlC,Zn,go_sem,seval]),_,_,_,Or.inr (Or.inl ⟨h1,h2,rfl,rfl,rfl⟩),rfl,rfl⟩
 ·have hok:=Rx hx hn hC h2 hs
  have hcl: ∀r∈fstF x.orders.length ys,r.length<=1048576:=fun r hr=>by
   obtain ⟨p,_,rfl⟩:=XQ.1 hr
   grind [Yl]
  obtain ⟨m,hm⟩: ∃m:Int,m=((Yv x x.orders.length:Nat):Int):=⟨_,rfl⟩;obtain ⟨B,hB⟩: ∃B,B=Ln x ys:=⟨_,rfl⟩;simp (disch:=omega) only [shV,shVs,shO,YZ,VV,Zr,Zn,List.replicate,ZK,Zy,go_sem,seval];rw [<- hm];refine ACalls.mono ((Gm x (.list false ((fstF x.orders.length ys).map Wy)) (.list false ((skF x x.orders.length).map eI)) m [] zSt rfl (by decide) Za (by decide)).back [Zj x,.cells [.p (.list true []),.p (.list true [])],.cells (List.replicate 6 .junk)] (by rfl)) ?_;rintro y H' ⟨y1,H1,⟨rfl,rfl⟩,rfl,rfl⟩;obtain ⟨v1,_⟩:=LS (m:=m) (wY x.orders.length)
  have hrg:=Uk (m:=m) hok 20 _ v1
  have hbb:B=Wg x.orders.length m x (fstF x.orders.length ys) (skF x x.orders.length) 20 (Vv x.orders.length m zSt):=by rw [hB,Ln,hm]
  rw [<- hbb] at hrg;obtain ⟨R,hR⟩: ∃R,R=Yx x.orders.length m x (fstF x.orders.length ys) (skF x x.orders.length) 20 (Vv x.orders.length m zSt):=⟨_,rfl⟩;obtain ⟨i,w,b0,b1,b2,b3,b4,b5,hw⟩:=YP v1.len;have hRr:=hR;rw [hw] at hbb v1 hR ⊢;simp (disch:=omega) only [shV,shVs,shO,YZ,VV,Zr,Zn,List.replicate,ZK,Zy,go_sem,seval];have c3:=((Eu x (fstF x.orders.length ys) (skF x x.orders.length) false false m Za (by simp [fstF]) (by simp [skF]) hok hcl 20 ⟨i,w,[b0,b1,b2,b3,b4,b5]⟩ [] Za v1 (by have:=v1.ix;omega) (fun p hp=>by simp at hp)).mono (fun y H' hq=>(⟨hq,by obtain ⟨l',_,_,rfl⟩:=hq;rfl⟩:_/\H'.length=(YZ x (.list false ((fstF x.orders.length ys).map Wy)) (.list false ((skF x x.orders.length).map eI)) m []).length))).front (by rfl) (by rfl) [BH ⟨i,w,[b0,b1,b2,b3,b4,b5]⟩]
  refine ACalls.mono (c3.back [Zj x,.cells [.p (.list true []),.p (.list true [])],.cells (List.replicate 6 .junk)] (by rfl)) ?_;rintro y H' ⟨y1,H1,⟨H2,⟨l',hl',rfl,rfl⟩,rfl⟩,rfl,rfl⟩;rw [<- hbb];simp (disch:=omega) only [shV,shVs,shO,YZ,VV,BH,Zr,Zn,List.replicate,ZK,Zy,go_sem,seval];refine cD ?_ ?_<;>intro h3<;>simp (disch:=omega) only [Sh.out h3,go_sem,seval,↓reduceIte]
  ·exact ⟨.tup [.p (JI zPlC),.p (.int .i64 0),.p (.int .i64 24)],[],Weak.mk (by simp (disch:=omega) only [zPlC,Zn,go_sem,seval]),_,_,_,Or.inr (Or.inr ⟨h1,h2,ys,hC,hyl,Or.inl ⟨Za,rfl,rfl,rfl⟩⟩),rfl,rfl⟩
  ·refine ACalls.mono ((ZcT (BH ⟨i,w,[b0,b1,b2,b3,b4,b5]⟩) (by intro H n;simp (disch:=omega) only [BH,Zr,Zn,go_sem,seval]) (by intro o xs;rfl) x (fstF x.orders.length ys) (skF x x.orders.length) false false m Za (by simp [fstF]) (by simp [skF]) hok hcl ⟨i,w,[b0,b1,b2,b3,b4,b5]⟩ l' v1 hl').back [Zj x,.cells [.p (.list true []),.p (.list true [])],.cells (List.replicate 6 .junk)] (by rfl)) ?_;rintro y H' ⟨y1,H1,⟨l2,A,U,hl2,hAU,rfl,rfl⟩,rfl,rfl⟩;rw [<- hR] at hAU;have hlen:=DC (n:=x.orders.length) (m:=m) (x:=x) (fst:=fstF x.orders.length ys) (sk:=skF x x.orders.length) 20 (Vv x.orders.length m zSt)
   rw [<- hRr,<- hAU] at hlen
   have hA: ∀c∈A,∃S:Nat,c.set=S/\0<S/\S<16:=fun c hc=>by
    have hc':c∈(Yx x.orders.length m x (fstF x.orders.length ys) (skF x x.orders.length) 20 (Vv x.orders.length m zSt)).1:=by grind
    obtain ⟨j,hj,hm2⟩:=DD _ _ _ hc'
    have e:nth (fstF x.orders.length ys) j=Yl ys j:=by
     grind [fstF,Zh]
    rw [e,Yl,QA] at hm2;obtain ⟨q,hq,hql,_⟩:=hC.bst c hm2.1
    have hmem:c∈l:=by grind [ZY]
    obtain ⟨S,q1,q2,q3,_⟩:=Qk (h2 c hmem) (hs c hmem);exact ⟨S,q1,q2,Uz q3 (Yt (n:=2) Za hn)⟩
   obtain ⟨L,hL⟩: ∃L:List Cm,L.map Subtype.val=A:=⟨A.pmap (fun c h=>⟨c,h⟩) hA,by simp [List.map_pmap]⟩;subst hL
   have hLl:(L.map Subtype.val).length=L.length:=Zb
   have hLe:(L.map Subtype.val).map Xp=L.map fun c=>Xp c.val:=Zb
   simp only at hlen;rw [hLl] at hlen;simp (disch:=omega) only [shV,shVs,shO,YZ,VV,BH,Zr,Zn,List.replicate,ZK,Zy,hLl,hLe,go_sem,seval];refine ((tX L Za (H:=_) (o:=7) rfl)).mono ?_;rintro y H' ⟨rfl,zs,hp,hsr,rfl⟩;have hzl:zs.length=L.length:=hp.length_eq;rw [<- hzl] at hlen ⊢;refine K0 ?_;obtain ⟨Z,hZ⟩: ∃Z,Z=zs.map Subtype.val:=⟨_,rfl⟩
   have hZl:Z.length=zs.length:=by rw [hZ];simp
   have hZe:Z.map Xp=zs.map fun c=>Xp c.val:=by rw [hZ];simp
   rw [<- hZl] at hlen ⊢
   have htl: ∀k,k<=Z.length->(Z.take k).length=k:=fun k hk=>by simp;omega
   refine Zm [4,10,13,45,46] (fun k:Nat=> [(47,.p (.int .i64 k))]) (fun k=> [Zj x,.cells [.p (.list true []),.p (.list true [])],.cells (List.replicate 6 .junk),.map (l2.map (MK A4)),shO 3 (VV x (.list false ((fstF x.orders.length ys).map Wy)) (.list false ((skF x x.orders.length).map eI)) m),BH ⟨i,w,[b0,b1,b2,b3,b4,b5]⟩,.cells (List.replicate 8 .junk),.elems 7 (Z.map Xp),.cells [.sl 9 0 k k,.p (.list false (U.map eI))],.elems 4 ((Z.take k).map fun c=>WG c.route)]) (fun k=>k<=Z.length) (fun k=>Z.length-k) 0 Za ((Weak.nilC (o:=8) (j:=0) 4 (by rfl) (by rfl) Zb).trans (Weak.mk ?_)) ?_
   ·simp (disch:=omega) only [hZe,Q2,Z6,ZX,ZD,ZF,Xm,Nat.reduceAdd,shV,shVs,shO,VV,BH,Zr,Zn,List.replicate,ZK,Zy,Zj,go_sem,seval]
   ·intro k hk;simp (disch:=omega) only [shV,shVs,shO,VV,BH,Zr,Zn,List.replicate,Zj,go_sem,seval];refine cD ?_ ?_<;>intro h4<;>simp (disch:=omega) only [Sh.out h4,go_sem,seval,↓reduceIte]
    ·have hk2:k<Z.length:=Za
     simp (disch:=first | omega | (simp only [ZD,ZF,ZH,Z1,Xs,XI]<;>omega)) only [UR hk2,hk2,go_sem,seval,↓reduceIte]
     have hsc:Z.take (k+1)=Z.take k++ [nth Z k]:=by rw [Yb hk2,Zh hk2]
     rw [if_pos ⟨htl k hk,Za,Za⟩];simp (disch:=omega) only [htl k hk,Z1,ZH,ZD,ZF,Xm,eq_self,VH,go_sem,seval];exact ⟨k+1,Za,Za,Weak.mk (by simp (disch:=omega) only [hsc,Xz,Zr,Zn,go_sem,seval])⟩
    ·have hkl:k=Z.length:=Za
     subst hkl;refine Zp (Weak.fz (o:=9) (by rfl)) ?_;refine Zg [] _ _ _ _ ?_;simp (disch:=omega) only [Zr,Zn,Z6,ZX,YV,go_sem,seval];exact ⟨.tup [.p (JI ⟨false,Z.map (·.route),false,U⟩),.p (.int .i64 B),.p (.int .i64 0)],[],Weak.mk (by simp (disch:=omega) only [List.map_map,Function.comp_def,go_sem,seval]),_,_,_,Or.inr (Or.inr ⟨h1,h2,ys,hC,hyl,Or.inr ⟨Za,hB,rfl,Z,by grind,by rw [hZ];exact List.pairwise_map.2 hsr,by grind⟩⟩),rfl,rfl⟩
def ZmR (x:Inst) (l:List Col) (a e:Int):Prop:=(8192<l.length/\a=0/\e=4)\/(l.length<=8192/\(∃c∈l,rightB x c=false)/\a=0/\e=2) \/
 (l.length<=8192/\(∀c∈l,rightB x c=true)/\ ∃ys,Cheap l ys/\a=(if Ln x ys<0 then 0 else Ln x ys)/\e=(if Ln x ys<0 then 24 else 0))
def ky (l:List Col) (a:Int):Int×Int×Int:=if a<0 then (1,0,0) else (0,(nth l a.toNat).typ,(nth l a.toNat).set)
def jS (a b:Int×Int×Int):Prop:=a.1<b.1\/(a.1=b.1/\(a.2.1<b.2.1\/(a.2.1=b.2.1/\a.2.2<b.2.2)))
def KE (n:Nat) (l:List Col) (a b:List Int):Prop:= ∀t,t<n->ky l (nth a t)=ky l (nth b t)/\nth a t<=nth b t
def KL (n:Nat) (l:List Col) (a b:List Int):Prop:=(∃i,i<n/\(∀t,t<i->ky l (nth a t)=ky l (nth b t))/\jS (ky l (nth a i)) (ky l (nth b i)))\/KE n l a b
def mI (x:Inst):Int:=((Yv x x.orders.length:Nat):Int)
theorem FM {x:Inst} (hn:x.orders.length<=4) {k:Nat} (hk:k<x.orders.length):sHas (mI x) k= !(nth x.orders k).off:=by
 grind [mI,WQ,U2]
theorem B2 {n:Nat} {s:St} (h:StV n s) {k:Nat} (hk:k<=62):sHas s.cov k=s.cov.toNat.testBit k:=by
 obtain ⟨C,hC,_⟩:=h.cov
 grind [WQ]
structure Ctx (x:Inst) (l ys:List Col):Prop where
 n4:x.orders.length<=4
 t6:x.types.length<=6
 ch:Cheap l ys
 rt: ∀c∈l,rightB x c=true
 st: ∀c∈l,c.set<9223372036854775808
 ok:ChOk x.orders.length x (fstF x.orders.length ys) (skF x x.orders.length)
 sk: ∀k,k<x.orders.length->(nth x.orders k).off=false->(0<=(nth x.orders k).penalty↔0<=skpF x k)/\(0<=skpF x k->skpF x k=skR x k)
theorem ZcF : ∀S:Fin 16,0<S.val-> ∀k:Fin 4,(AY S.val=(k.val:Int)↔(S.val.testBit k.val=true/\ ∀i:Fin 4,i.val<k.val->S.val.testBit i.val=false)):=by decide+kernel
theorem P8 {S n k:Nat} (hS:0<S) (h:S<2^n) (hn:n<=4) (hk:k<n):AY S=(k:Int)↔(S.testBit k=true/\ ∀i,i<n->S.testBit i=true->k<=i):=by
 have h16:S<16:=Uz h (Yt (n:=2) Za hn);rw [show AY S=(k:Int)↔_ from ZcF ⟨S,h16⟩ hS ⟨k,Za⟩];refine and_congr_right fun _=>⟨fun g i hi hb=> ?_,fun g i hi=> ?_⟩
 ·rcases Wr i k with h1 | h1
  ·have:=g ⟨i,Za⟩ h1
   grind
  ·exact h1
 grind
theorem Ctx.set {x:Inst} {l ys:List Col} (h:Ctx x l ys) {c:Col} (hc:c∈l):c.set=(c.set.toNat:Int)/\0<c.set.toNat/\c.set.toNat<2^x.orders.length/\ ∀i,c.set.toNat.testBit i=true->i<x.orders.length/\(nth x.orders i).off=false:=by
 obtain ⟨S,h1,h2,h3,h4⟩:=Qk (h.rt c hc) (h.st c hc)
 grind
theorem Ctx.typ {x:Inst} {l ys:List Col} (h:Ctx x l ys) {c:Col} (hc:c∈l):(0<=c.typ/\c.typ<x.types.length)/\0<=c.price:=by
 have:=h.rt c hc;simp only [rightB,ZB,Zq] at this;omega
structure Nd (x:Inst) (l:List Col) (a:List Int) (s:St) (k:Nat):Prop where
 len:a.length=x.orders.length
 ix:s.ix=k
 v:StV x.orders.length s
 cov: ∀i,i<x.orders.length->s.cov.toNat.testBit i=decide (0<=nth a i)
 rng: ∀i,i<x.orders.length-> -1<=nth a i/\nth a i<l.length
 used: ∀T:Nat,T<6->nth s.used T=usdI l a T x.orders.length
 grp: ∀i,i<x.orders.length->0<=nth a i-> ∀t,t<x.orders.length->(nth l (nth a i).toNat).set.toNat.testBit t=true->nth a t=nth a i
 old: ∀i,i<x.orders.length->k<=i->0<=nth a i-> ∃t,t<k/\(nth l (nth a i).toNat).set.toNat.testBit t=true
 own: ∀i,i<x.orders.length->0<=nth a i->(nth l (nth a i).toNat).set.toNat.testBit i=true
def GO (s:St):St:= { s with ix:=s.ix+1 }
def AH (s:St) (c:Col):St:=⟨s.ix+1,((s.cov.toNat|||c.set.toNat:Nat):Int),s.used.set c.typ.toNat (nth s.used c.typ.toNat+1)⟩
theorem Nd.skip {x:Inst} {l:List Col} {a:List Int} {s:St} {k:Nat} (h:Nd x l a s k) (hk:k<x.orders.length) (ho:0<=nth a k-> ∃t,t<k/\(nth l (nth a k).toNat).set.toNat.testBit t=true):Nd x l a (GO s) (k+1) :=
 ⟨h.len,by simp only [GO,h.ix];omega,⟨h.v.len,by have:=h.ix;simp only [GO];omega,h.v.cov,h.v.used⟩,h.cov,h.rng,h.used,h.grp,fun i hi hki h0=>by
  obtain ⟨t,h1,h2⟩:=h.old i hi Za h0
  grind,h.own⟩
theorem Nd.skip' {x:Inst} {l:List Col} {a:List Int} {s:St} {k:Nat} (h:Nd x l a s k) (hk:k<x.orders.length):Nd x l a (GO s) (k+1):=h.skip hk fun h0=>h.old k hk (ZA _) h0
theorem Rw {x:Inst} {l ys:List Col} (hc:Ctx x l ys) {a:List Int} {s:St} {k j:Nat} (h:Nd x l a s k) (hk:k<x.orders.length) (hj:j<l.length):Kk x l a j k=true↔(YG x s (nth l j)=true/\AY (nth l j).set.toNat=(k:Int)):=by
 obtain ⟨hS,hS0,hS1,hS2⟩:=hc.set (ZY hj);obtain ⟨⟨ht0,ht1⟩,_⟩:=hc.typ (ZY hj);have ht6:=hc.t6;have hu:=h.used (nth l j).typ.toNat Za;rw [show (((nth l j).typ.toNat:Nat):Int)=(nth l j).typ by omega] at hu;rw [P8 hS0 hS1 hc.n4 hk];simp only [Kk,YG,El,ZB,Zq,J4,h.len,hu]
 constructor
 ·rintro ⟨h1,h2,h3⟩;refine ⟨⟨Cu fun i=> ?_,h2⟩,h1,fun i hi hb=>(h3 i hi hb).2⟩;rw [Nat.testBit_and,Nat.zero_testBit]
  cases hb:(nth l j).set.toNat.testBit i with
  | false=>simp
  | true =>
   have hi:=(hS2 i hb).1;rw [h.cov i hi,JS,X2]
   grind
 ·rintro ⟨⟨h1,h2⟩,h3,h4⟩;refine ⟨h3,h2,fun i hi hb=>⟨?_,h4 i hi hb⟩⟩;have:=ZU (fun z=>z.testBit i) h1;simp only [Nat.testBit_and,Nat.zero_testBit,hb,JS] at this;rw [h.cov i hi,X2] at this;omega
theorem Io {x:Inst} {l:List Col} {a:List Int} {k:Nat} {S:Nat} {j:Nat} (hl:a.length=x.orders.length) (hk:k<x.orders.length) (hb:S.testBit k=true) (hneg: ∀i,i<x.orders.length->S.testBit i=true->nth a i<0/\k<=i) (hfr: ∀i,i<x.orders.length->S.testBit i=false->nth a i≠(j:Int)) (T:Int) :
  ∀m,m<=x.orders.length->usdI l (VR S a j) T m=usdI l a T m+(if k<m/\(nth l j).typ=T then 1 else 0)
 | 0,_=>by simp [usdI]
 | i+1,hm=>by
  have hi:i<a.length:=Za
  rw [usdI,usdI,Io hl hk hb hneg hfr T i Za];have ZP: ∀t,t<i->nth (VR S a j) t=if S.testBit t=true then (j:Int) else nth a t:=fun t ht=>Xy Za
  cases hs:S.testBit i with
  | false =>
   have e:K6 l (VR S a j) T i=K6 l a T i:=by
    rw [K6,K6,Xy hi,hs,if_neg Zb]
    by_cases h0:0<=nth a i
    ·have ef:TW (VR S a j) i=TW a i:=by
      rw [Wq,Ca,Ca,Xy hi,hs,if_neg Zb]
      grind
     rw [ef]
    ·simp [h0]
   grind
  | true =>
   obtain ⟨hn,hki⟩:=hneg i Za hs
   have e2:K6 l a T i=false:=by
    simp_all [K6,J2]
   have e1:K6 l (VR S a j) T i=(decide ((nth l j).typ=T)&&decide (k=i)):=by
    rw [K6,Xy hi,hs,if_pos rfl,Q3 Za,VK,XO]
    congr 1
    rw [Wq,Ca,Xy hi,hs,if_pos rfl,Zq]
    grind
   grind
theorem Nd.child {x:Inst} {l ys:List Col} (hc:Ctx x l ys) {a:List Int} {s:St} {k j:Nat} (h:Nd x l a s k) (hk:k<x.orders.length) (hj:j<l.length) (hcan:Kk x l a j k=true):Nd x l (VR (nth l j).set.toNat a j) (AH s (nth l j)) (k+1):=by
 obtain ⟨hS,hS0,hS1,hS2⟩:=hc.set (ZY hj);obtain ⟨⟨ht0,ht1⟩,_⟩:=hc.typ (ZY hj);have ht6:=hc.t6;have hl6:s.used.length=6:=h.v.len;have hu:=h.used (nth l j).typ.toNat Za;rw [show (((nth l j).typ.toNat:Nat):Int)=(nth l j).typ by omega] at hu;have hcan':=hcan;simp only [Kk,ZB,Zq,J4,h.len] at hcan';obtain ⟨hb,hcnt,hneg⟩:=hcan';rw [<- hu] at hcnt;have hcount:=hc.ok.typ.2 (nth l j).typ.toNat Za;have hak:=(hneg k hk hb).1
 have hfr: ∀i,i<x.orders.length->(nth l j).set.toNat.testBit i=false->nth a i≠(j:Int):=fun i hi _ e=>by
  have:=h.grp i hi Za k hk (by grind [XO]);omega
 obtain ⟨C,hC,hC2⟩:=h.v.cov;have hS10:(nth l j).set.toNat<1024:=Uz hS1 (Yt (n:=2) Za (show x.orders.length<=10 by have:=hc.n4;omega));refine ⟨by rw [Uq];exact h.len,by simp only [AH,h.ix];omega,⟨by simp only [StR,AH,Qz];exact hl6,by have:=h.ix;simp only [AH];omega,⟨_,rfl,?_⟩,fun t ht=> ?_⟩,fun i hi=> ?_,fun i hi=> ?_,fun T hT=> ?_,fun i hi h0 t ht hbt=> ?_,fun i hi hki h0=> ?_,fun i hi h0=> ?_⟩
 ·rw [hC,XO];exact Q0 (n:=10) hC2 hS10
 ·simp only [AH];rw [CE Za]
  split
  ·omega
  ·exact h.v.used t ht
 ·simp only [AH,XO];rw [Az,h.cov i hi,Xy (by rw [h.len];exact hi)]
  grind
 ·rw [Xy (by rw [h.len];exact hi)]
  split
  ·omega
  ·exact h.rng i hi
 ·simp only [AH];rw [CE Za,Io h.len hk hb hneg hfr T _ (ZA _),h.used T hT]
  grind
 ·rw [Xy (i:=i) (by rw [h.len];exact hi)] at h0 hbt ⊢;rw [Xy (i:=t) (by rw [h.len];exact ht)]
  cases hbi:(nth l j).set.toNat.testBit i with
  | true =>
   rw [hbi,if_pos rfl,XO] at hbt
   grind
  | false =>
   rw [hbi,if_neg Zb] at h0 hbt;have e:=h.grp i hi h0 t ht hbt
   grind
 ·rw [Xy (by rw [h.len];exact hi)] at h0 ⊢
  cases hbi:(nth l j).set.toNat.testBit i with
  | true =>
   rw [if_pos rfl,XO]
   grind
  | false =>
   rw [hbi,if_neg Zb] at h0;rw [if_neg Zb];obtain ⟨t,h1,h2⟩:=h.old i hi Za h0
   grind
 ·rw [Xy (by rw [h.len];exact hi)] at h0 ⊢
  cases hbi:(nth l j).set.toNat.testBit i with
  | true=>rw [if_pos rfl,XO];exact hbi
  | false =>
   rw [hbi,if_neg Zb] at h0;rw [if_neg Zb];exact h.own i hi h0
def Lx (x:Inst) (ys:List Col) (D:Nat) (s:St):Int:=Wg x.orders.length (mI x) x (fstF x.orders.length ys) (skF x x.orders.length) D (Vv x.orders.length (mI x) s)
theorem dE {x:Inst} {ys:List Col} {D:Nat} {s:St} (h:s.ix=x.orders.length):Lx x ys D s=0:=by
 unfold Lx
 cases D with
 | zero=>rfl
 | succ D =>
  simp_all [Wg,Vv,C0]
theorem DL {n:Nat} {m:Int} {s:St} {k:Nat} (hk:s.ix=k) (hkn:k<n) (hc:sHas m k=false\/sHas s.cov k=true):Vv n m s=Vv n m (GO s):=by
 simp_all [Vv,GO,ER]
theorem DM {n:Nat} {m:Int} {s:St} {k:Nat} (hk:s.ix=k) (h1:sHas m k=true) (h2:sHas s.cov k=false):Vv n m s=s:=by
 obtain ⟨i,v,u⟩:=s
 simp_all [Vv,DN]
theorem GL {n:Nat} {m:Int} {s:St} {c:Col} {k:Nat} (hk:s.ix=k) (hkn:k<n) (hn:n<=4) (hb:c.set.toNat.testBit k=true):VT n m s c=Vv n m (AH s c):=by
 have e:=DL (n:=n) (m:=m) (s:=⟨s.ix,((s.cov.toNat|||c.set.toNat:Nat):Int),s.used.set c.typ.toNat (nth s.used c.typ.toNat+1)⟩) (k:=k) hk hkn (.inr (by
  simp only
  rw [WQ _ _ Za,Az,hb,Bool.or_true]))
 exact e
theorem KU {x:Inst} {l ys:List Col} (hc:Ctx x l ys) {k:Nat} (hk:k<x.orders.length) {c:Col} (hm:c∈Yl ys k):c∈ys/\c∈l/\AY c.set.toNat=(k:Int)/\c.set.toNat.testBit k=true:=by
 rw [Yl,QA,Zq] at hm;have hl:=fJ hc.ch hm.1;obtain ⟨_,h0,h1,_⟩:=hc.set hl;exact ⟨hm.1,hl,hm.2,((P8 h0 h1 hc.n4 hk).1 hm.2).1⟩
theorem Oy {x:Inst} {l ys:List Col} (hc:Ctx x l ys) {D:Nat} (hD:10<D) {s:St} {k:Nat} (hv:StV x.orders.length s) (hk:s.ix=k) (hkn:k<x.orders.length) (ho:(nth x.orders k).off=false) (hcv:s.cov.toNat.testBit k=false) :
  Lx x ys D s=if 0<=skpF x k then YY ((Yl ys k).foldl (fun o c=>if YG x s c=true then YY o c.price (Lx x ys D (AH s c)) else o) (-1)) (skpF x k) (Lx x ys D (GO s)) else (Yl ys k).foldl (fun o c=>if YG x s c=true then YY o c.price (Lx x ys D (AH s c)) else o) (-1):=by
 have hn:=hc.n4
 have e1:Lx x ys D s=Wg x.orders.length (mI x) x (fstF x.orders.length ys) (skF x x.orders.length) (D+1) s:=by
  rw [Lx,DM hk (by grind [FM]) (by grind [B2])];exact Jm hc.ok _ _ s hv Za Za
 rw [e1,Wg,if_neg Za]
 have e2:nth (fstF x.orders.length ys) s.ix.toNat=Yl ys k:=by simp_all [Nq]
 have e3:nth (skF x x.orders.length) s.ix.toNat=skpF x k:=by grind [skF,Zh]
 have e4:(Yl ys k).foldl (fun o c=>if YG x s c=true then YY o c.price (Wg x.orders.length (mI x) x (fstF x.orders.length ys) (skF x x.orders.length) D (VT x.orders.length (mI x) s c)) else o) (-1)=(Yl ys k).foldl (fun o c=>if YG x s c=true then YY o c.price (Lx x ys D (AH s c)) else o) (-1) :=
  JK fun c hm o=>by rw [GL hk hkn hn (KU hc hkn hm).2.2.2];rfl
 simp only [e2,e3,e4]
 rfl
def KW (x:Inst) (ys:List Col) (D:Nat) (s:St) (c:Col):Bool:=YG x s c&&(decide (0<=Lx x ys D (AH s c))&&decide (c.price+Lx x ys D (AH s c)=Lx x ys D s))
noncomputable def By (l:List Col) (d:Col):Nat:=open Classical in if h:Bst l l.length d then h.choose else 0
theorem Sx {l:List Col} {d:Col} (h:Bst l l.length d):By l d<l.length/\nth l (By l d)=d/\ ∀i,i<l.length->kd (nth l i)=kd d->d.price<(nth l i).price\/(d.price=(nth l i).price/\By l d<=i):=by
 have e:By l d=h.choose:=by rw [By,dif_pos h]
 grind
noncomputable def gr (x:Inst) (l ys:List Col) (D:Nat):Nat->Nat->St->List Int->List Int
 | 0,_,_,a=>a
 | d+1,k,s,a=>if (nth x.orders k).off=true\/0<=nth a k then gr x l ys D d (k+1) (GO s) a else
  match (Yl ys k).find? (KW x ys D s) with
  | some c=>gr x l ys D d (k+1) (AH s c) (VR c.set.toNat a (By l c))
  | none=>gr x l ys D d (k+1) (GO s) a
theorem J3 {x:Inst} {l ys:List Col} (hc:Ctx x l ys) {a:List Int} {s:St} {k:Nat} (h:Nd x l a s k) (hk:k<x.orders.length) {c:Col} (hm:c∈Yl ys k) (hy:YG x s c=true):By l c<l.length/\nth l (By l c)=c/\Kk x l a (By l c) k=true:=by
 obtain ⟨h1,h2,h3,h4⟩:=KU hc hk hm;obtain ⟨p1,p2,_⟩:=Sx (hc.ch.bst c h1)
 grind [Rw]
theorem B0 {x:Inst} {l:List Col} {a:List Int} {k j:Nat} (hl:a.length=x.orders.length) (hcan:Kk x l a j k=true):(nth l j).set.toNat.testBit k=true/\ ∀t,t<x.orders.length->(t<k\/0<=nth a t)->nth (VR (nth l j).set.toNat a j) t=nth a t:=by
 simp only [Kk,ZB,J4,hl] at hcan
 grind [Xy]
theorem Dn {x:Inst} {l ys:List Col} (hc:Ctx x l ys) {D:Nat} : ∀(d k:Nat) (s:St) (a:List Int),k+d=x.orders.length->Nd x l a s k->(gr x l ys D d k s a).length=x.orders.length/\ ∀t,t<x.orders.length->(t<k\/0<=nth a t)->nth (gr x l ys D d k s a) t=nth a t
 | 0,k,s,a,_,h=>⟨h.len,fun _ _ _=>rfl⟩
 | d+1,k,s,a,hd,h=>by
  have hk:k<x.orders.length:=Za
  rw [gr];have skip:=Dn hc (D:=D) d (k+1) (GO s) a Za (h.skip' hk)
  split
  ·grind
  ·split
   ·rename_i c hf;have hsel:=Qy hf;simp only [KW,ZB] at hsel;obtain ⟨p1,p2,p3⟩:=J3 hc h hk (QY hf) hsel.1;have hch:=h.child hc hk p1 p3;rw [p2] at hch;have ho:=(B0 h.len p3).2;rw [p2] at ho;obtain ⟨g1,g2⟩:=Dn hc (D:=D) d (k+1) (AH s c) _ Za hch;refine ⟨g1,fun t ht hh=> ?_⟩
    rw [g2 t ht (by
     rcases hh with h1 | h1
     ·left;omega
     ·right;rw [ho t ht (.inr h1)];exact h1),ho t ht hh]
   grind
theorem Cz {x:Inst} {l:List Col} : ∀(d:Nat) (a:List Int) (p:Int),d<=x.orders.length->a.length=x.orders.length-> ∀q∈Q9 x l d a p,q.1.length=x.orders.length/\ ∀t,t<x.orders.length->(t<x.orders.length-d\/0<=nth a t)->nth q.1 t=nth a t
 | 0,a,p,_,h,q,hq=>by
  simp only [Q9,Z5,Y6,Ws] at hq
  grind
 | d+1,a,p,hd,h,q,hq=>by
  rw [Q9] at hq
  split at hq
  ·obtain ⟨g1,g2⟩:=Cz d a p Za h q hq;exact ⟨g1,fun t ht hh=>g2 t ht (hh.imp Za id)⟩
  ·rw [Xd,XU] at hq;rcases hq with ⟨j,hj,hq⟩ | hq
   ·split at hq
    ·rename_i hcan;have ho:=(B0 h hcan).2;obtain ⟨g1,g2⟩:=Cz d _ _ Za (by rw [Uq];exact h) q hq;refine ⟨g1,fun t ht hh=> ?_⟩
     rw [g2 t ht (by
      rcases hh with h1 | h1
      ·left;omega
      ·right;rw [ho t ht (.inr h1)];exact h1),ho t ht hh]
    ·simp at hq
   ·split at hq
    ·obtain ⟨g1,g2⟩:=Cz d a _ Za h q hq;exact ⟨g1,fun t ht hh=>g2 t ht (hh.imp Za id)⟩
    ·simp at hq
theorem KE.refl {n:Nat} {l:List Col} {a:List Int} :KE n l a a:=fun _ _=>⟨rfl,Int.le_refl _⟩
theorem ZcD {l:List Col} {a:Int} (h:a<0):ky l a=(1,0,0):=if_pos h
theorem Li {l:List Col} {a:Int} (h:0<=a):ky l a=(0,(nth l a.toNat).typ,(nth l a.toNat).set):=if_neg Za
theorem ZiZ {l:List Col} {i j:Nat} :ky l (i:Int)=ky l (j:Int)↔kd (nth l i)=kd (nth l j):=by
 grind [Li,kd]
theorem iM {x:Inst} {s:St} {r:Col->Int} {ls:List Col} (hp: ∀c∈ls,0<=c.price) (hr: ∀c∈ls,YG x s c=true-> -1<=r c) {c:Col} (hc:c∈ls) (hy:YG x s c=true) (h0:0<=r c) :
  cY (ls.foldl (fun o c=>if YG x s c=true then YY o c.price (r c) else o) (-1)) (c.price+r c):=by
 have e:=JK (f:=fun o c=>if YG x s c=true then YY o c.price (r c) else o) (g:=fun o c=>if YG x s c=true then YY o c.price (max (-1) (r c)) else o) (l:=ls) (b:=(-1:Int)) fun c hc o=>by
  grind
 rw [e];have:=(RR (x:=x) (s:=s) (r:=fun c=>max (-1) (r c)) (fun c=>Za) (l:=ls) (a:= -1) hp).2 c hc hy Za
 grind
theorem Oz {x:Inst} {l ys:List Col} (hc:Ctx x l ys) {D:Nat} {s:St} (hv:StV x.orders.length s): -1<=Lx x ys D s:=(Uk (m:=mI x) hc.ok D _ (LS hv).1).1
theorem Ru {o p r:Int} (hr: -1<=r) (hp:0<=p):cY (YY o p r) o/\(0<=r->cY (YY o p r) (p+r)):=by
 grind [cY,YY]
theorem xA {x:Inst} {l ys:List Col} (hc:Ctx x l ys) {D:Nat} (hD:10<D) {a:List Int} {s:St} {k:Nat} (h:Nd x l a s k) (hk:k<x.orders.length) (ho:(nth x.orders k).off=false) (hak:nth a k<0) {c:Col} (hm:c∈Yl ys k) (hy:YG x s c=true) (h0:0<=Lx x ys D (AH s c)) :
  cY (Lx x ys D s) (c.price+Lx x ys D (AH s c)):=by
 have hcv:s.cov.toNat.testBit k=false:=by rw [h.cov k hk];grind
 rw [Oy hc hD h.v h.ix hk ho hcv]
 have nd: ∀e∈Yl ys k,YG x s e=true->StV x.orders.length (AH s e):=fun e he hye=>by
  obtain ⟨p1,p2,p3⟩:=J3 hc h hk he hye;have:=(h.child hc hk p1 p3).v
  grind
 have low:=iM (x:=x) (s:=s) (r:=fun c=>Lx x ys D (AH s c)) (ls:=Yl ys k) (fun e he=>(hc.typ (KU hc hk he).2.1).2) (fun e he hye=>Oz hc (nd e he hye)) hm hy h0
 split
 ·rename_i hs;have b:=(Ru (o:=(Yl ys k).foldl (fun o c=>if YG x s c=true then YY o c.price (Lx x ys D (AH s c)) else o) (-1)) (Oz hc (D:=D) (h.skip' hk).v) hs).1
  grind [cY]
 ·exact low
theorem oH {x:Inst} {l ys:List Col} (hc:Ctx x l ys) {D:Nat} (hD:10<D) {a:List Int} {s:St} {k:Nat} (h:Nd x l a s k) (hk:k<x.orders.length) (ho:(nth x.orders k).off=false) (hak:nth a k<0) (hs:0<=skpF x k) (h0:0<=Lx x ys D (GO s)) :
  cY (Lx x ys D s) (skpF x k+Lx x ys D (GO s)):=by
 have hcv:s.cov.toNat.testBit k=false:=by rw [h.cov k hk];grind
 rw [Oy hc hD h.v h.ix hk ho hcv,if_pos hs]
 grind [Ru]
theorem Re {x:Inst} {l ys:List Col} (hc:Ctx x l ys) {D:Nat} {a:List Int} {s:St} {k:Nat} (h:Nd x l a s k) (hk:k<x.orders.length) (ho:(nth x.orders k).off=true\/0<=nth a k):Lx x ys D s=Lx x ys D (GO s):=by
 unfold Lx;rw [DL h.ix hk (ho.imp (fun e=>by rw [FM hc.n4 hk,e];rfl) fun e=>by rw [B2 h.v (by have:=hc.n4;omega),h.cov k hk];grind)]
theorem Cb {x:Inst} {l ys:List Col} (hc:Ctx x l ys) {D:Nat} (hD:10<D): ∀(d k:Nat) (s:St) (a b:List Int) (p:Int),k+d=x.orders.length->Nd x l a s k->Nd x l b s k->KE x.orders.length l a b-> ∀q∈Q9 x l d b p,
  0<=Lx x ys D s/\p+Lx x ys D s<=q.2/\(q.2=p+Lx x ys D s->KL x.orders.length l (gr x l ys D d k s a) q.1)
 | 0,k,s,a,b,p,hd,ha,hb,he,q,hq=>by
  simp only [Q9,Z5,Y6,Ws] at hq;subst hq;rw [dE (by rw [ha.ix];omega)];exact ⟨Za,Zb,fun _=> .inr he⟩
 | d+1,k,s,a,b,p,hd,ha,hb,he,q,hq=>by
  have hk:k<x.orders.length:=Za
  have hkd:x.orders.length-(d+1)=k:=Za
  have hneg: ∀t,t<x.orders.length->(0<=nth a t↔0<=nth b t):=fun t ht=>by
   have h1:=ha.cov t ht;rw [hb.cov t ht,decide_eq_decide] at h1;exact h1.symm
  rw [Q9,hkd] at hq;rw [gr]
  split at hq
  ·rename_i ho;have ho':(nth x.orders k).off=true\/0<=nth a k:=ho.imp id (hneg k hk).2;rw [if_pos ho',Re hc ha hk ho'];exact Cb hc hD d (k+1) (GO s) a b p Za (ha.skip' hk) (hb.skip' hk) he q hq
  ·rename_i ho;have ho': ¬((nth x.orders k).off=true\/0<=nth a k):=fun g=>ho (g.imp id (hneg k hk).1);rw [if_neg ho']
   have hoff:(nth x.orders k).off=false:=by
    grind
   have hbk:nth b k<0:=Int.not_le.1 fun g=>ho (.inr g);have hak:nth a k<0:=Int.not_le.1 fun g=>ho' (.inr g)
   -- what was picked stands at k
   have hpick: ∀c,(Yl ys k).find? (KW x ys D s)=some c->YG x s c=true/\c∈ys/\(∀t,t<k->nth (gr x l ys D d (k+1) (AH s c) (VR c.set.toNat a (By l c))) t=nth a t)/\nth (gr x l ys D d (k+1) (AH s c) (VR c.set.toNat a (By l c))) k=By l c/\nth l (By l c)=c:=fun c hf=>by
    have hsel:=Qy hf;simp only [KW,ZB] at hsel;obtain ⟨p1,p2,p3⟩:=J3 hc ha hk (QY hf) hsel.1;have hch:=ha.child hc hk p1 p3;obtain ⟨c1,c2⟩:=B0 ha.len p3;rw [p2] at hch c1 c2;have g2:=(Dn hc (D:=D) d (k+1) (AH s c) _ Za hch).2;refine ⟨hsel.1,(KU hc hk (QY hf)).1,fun t ht=> ?_,?_,p2⟩
    ·grind
    ·rw [g2 k hk (.inl Za),Xy (by rw [ha.len];exact hk),if_pos c1]
   rw [Xd,XU] at hq;rcases hq with ⟨j,hj,hq⟩ | hq
   ·have hj:=ZL.1 hj
    split at hq
    ·rename_i hcan;obtain ⟨hy,htz⟩:=(Rw hc hb hk hj).1 hcan;have hjl:=ZY hj;obtain ⟨d',hd',hkd',hpr⟩:=fK hc.ch hjl
     have hst:d'.set=(nth l j).set/\d'.typ=(nth l j).typ:=by
      grind [kd]
     have hm:d'∈Yl ys k:=by
      simp_all [Yl]
     have hy':YG x s d'=true:=by grind [YG]
     have hnx:AH s d'=AH s (nth l j):=by grind [AH]
     have hcb:=hb.child hc hk hj hcan;obtain ⟨cb1,cb2⟩:=B0 hb.len hcan;have hqo:=(Cz d _ _ Za (by rw [Uq];exact hb.len) q hq).2
     have hqt: ∀t,t<k->nth q.1 t=nth b t:=fun t ht=>by rw [hqo t Za (.inl Za),cb2 t Za (.inl ht)]
     have hqk:nth q.1 k=j:=by rw [hqo k hk (.inl Za),Xy (by rw [hb.len];exact hk),if_pos cb1]
     obtain ⟨i1,i2,_⟩:=Cb hc hD d (k+1) _ _ _ _ Za hcb hcb KE.refl q hq;rw [<- hnx] at i1 i2;have hle:=xA hc hD ha hk hoff hak hm hy' i1;have hp0:=(hc.typ (KU hc hk hm).2.1).2
     have hL0:0<=Lx x ys D s/\Lx x ys D s<=d'.price+Lx x ys D (AH s d'):=by
      rcases hle with h | h
      ·-- the least price would be lacking: not so, azs the column leads on
       omega
      ·exact h
     refine ⟨hL0.1,Za,fun hqc=> ?_⟩
     have hpe:d'.price=(nth l j).price:=Za
     have hLe:d'.price+Lx x ys D (AH s d')=Lx x ys D s:=Za
     have hsel:KW x ys D s d'=true:=by simp_all [KW]
     have hpos:=Sx (hc.ch.bst d' hd')
     have hpj:By l d'<=j:=by
      rcases hpos.2.2 j hj hkd'.symm with h | h
      ·omega
      ·exact h.2
     cases hf:(Yl ys k).find? (KW x ys D s) with
     | none=>rw [Aq] at hf;simp_all
     | some c =>
      obtain ⟨k1,k2,k3,k4,k5⟩:=hpick c hf;simp only
      by_cases hcd:c=d'
      ·subst hcd;obtain ⟨p1,p2,p3⟩:=J3 hc ha hk hm hy';have hca:=ha.child hc hk p1 p3;rw [p2] at hca;rw [<- hnx] at hcb;refine (Cb hc hD d (k+1) _ _ _ _ Za hca hcb (fun t ht=> ?_) q hq).2.2 Za;rw [hst.1,Xy (by rw [ha.len];exact ht),Xy (by rw [hb.len];exact ht)]
       cases hbt:(nth l j).set.toNat.testBit t with
       | true =>
        rw [if_pos rfl,if_pos rfl,ZiZ,p2]
        grind
       | false =>
        rw [if_neg Zb,if_neg Zb];exact he t ht
      ·-- an earlier kind
       have hlt:cfK c d'<0:=by
        have hpw:(Yl ys k).Pairwise fun a b=>cfK a b<0:=hc.ch.asc.filter _;obtain ⟨_,u,w,hab,hno⟩:=List.find?_eq_some_iff_append.1 hf;rw [hab] at hpw hm;rw [EE,List.pairwise_cons] at hpw;rcases Xd.1 hm with h | h
        ·have:=hno d' h
         grind
        ·rcases Z5.1 h with h | h
         ·grind
         ·exact hpw.2.1.1 d' h
       rw [Fm] at hlt;refine .inl ⟨k,hk,fun t ht=> ?_,?_⟩
       ·rw [k3 t ht,hqt t ht];exact (he t Za).1
       ·rw [k4,hqk,Li Za,Li Za,XO,XO,k5]
        right
        grind
    ·simp at hq
   ·split at hq
    ·rename_i hpen;obtain ⟨s1,s2⟩:=hc.sk k hk hoff;have hs0:=s1.1 hpen;have hse:=s2 hs0;rw [<- hse] at hq;have hqo:=(Cz d _ _ Za hb.len q hq).2;obtain ⟨i1,i2,i3⟩:=Cb hc hD d (k+1) (GO s) a b _ Za (ha.skip' hk) (hb.skip' hk) he q hq;have hle:=oH hc hD ha hk hoff hak hs0 i1;have hrg:=Oz hc (D:=D) ha.v
     have hL0:0<=Lx x ys D s/\Lx x ys D s<=skpF x k+Lx x ys D (GO s):=by
      rcases hle with h | h
      ·omega
      ·exact h
     refine ⟨hL0.1,Za,fun hqc=> ?_⟩
     cases hf:(Yl ys k).find? (KW x ys D s) with
     | none=>grind
     | some c =>
      obtain ⟨k1,k2,k3,k4,k5⟩:=hpick c hf;simp only;refine .inl ⟨k,hk,fun t ht=> ?_,?_⟩
      ·rw [k3 t ht,hqo t Za (.inl Za)];exact (he t Za).1
      ·rw [k4,hqo k hk (.inl Za),Li Za,ZcD hbk]
       left;omega
    ·simp at hq
theorem Ol {x:Inst} {S:Nat} (hn:x.orders.length<=4) (hS:S<9223372036854775808):Rb S (Yv x x.orders.length)=(decide (S<2^x.orders.length)&&(List.range x.orders.length).all fun i=> !(S.testBit i&&(nth x.orders i).off)):=by
 rw [Wq,ZB,Zq,Rb,Zz,Zz]
 constructor
 ·intro h
  have key: ∀i,S.testBit i=true->i<x.orders.length/\(nth x.orders i).off=false:=fun i hi=>by
   have h63:i<63:=by
    rcases Wr i 63 with h | h
    ·exact h
    ·have:2^63<=2^i:=Yt Za h
     grind [Ao]
   grind [U2]
  refine ⟨Nat.lt_pow_two_of_testBit _ fun i hi=> ?_,fun i _=> ?_⟩
  ·grind
  grind
 ·rintro ⟨h1,h2⟩ i _
  cases hb:S.testBit i with
  | false=>rfl
  | true =>
   have hi:i<x.orders.length:=by
    rcases Wr i x.orders.length with h | h
    ·exact h
    ·have:2^x.orders.length<=2^i:=Yt Za h
     grind [Ao]
   have:=h2 i (ZL.2 hi)
   simp_all [U2]
theorem bK (x:Inst) (c:Col) (hn:x.orders.length<=4) (ht:x.types.length<=1048576) (hs:c.set<9223372036854775808):PC 84 [.p (Zv x),.p (Xp c)] (.bool (rightB x c)):=by
 obtain ⟨B,hB⟩: ∃B,B=rightB x c:=⟨_,rfl⟩;rw [<- hB]
 have h54:((pw 54:Nat):Int)=18014398509481984:=by decide
 refine Zd Tryz.func84 rfl ZiQ ?_;simp (disch:=omega) only [Tryz.f84,go_sem,seval];refine Xo (Zc ?_);refine gF ?_ ?_<;>intro h1<;>simp (disch:=omega) only [Sh.out h1,go_sem,seval,↓reduceIte]
 ·grind [rightB]
 ·refine gF ?_ ?_<;>intro h2<;>simp (disch:=omega) only [Sh.out h2,go_sem,seval,↓reduceIte]
  ·grind [rightB]
  ·refine gF ?_ ?_<;>intro h3<;>simp (disch:=omega) only [Sh.out h3,go_sem,seval,↓reduceIte]
   ·grind [rightB]
   ·obtain ⟨S,hS⟩: ∃S:Nat,c.set=S:=⟨c.set.toNat,Za⟩
    have e0:B=(decide (S<2^x.orders.length)&&((List.range x.orders.length).all fun i=> !(S.testBit i&&(nth x.orders i).off))&&(decide (0<=c.price)&&decide (c.price<=18014398509481984))):=by
     grind [rightB,Ol]
    rw [hS];refine Zo (IM x.orders.length Za) (Zc ?_);have hpw:pw x.orders.length=2^x.orders.length:=rfl;refine gF ?_ ?_<;>intro h4<;>simp (disch:=omega) only [Sh.out h4,go_sem,seval,↓reduceIte]
    ·grind [J2]
    ·refine gF ?_ ?_<;>intro h5<;>simp (disch:=omega) only [Sh.out h5,go_sem,seval,↓reduceIte]
     ·grind
     ·refine Zo (IM 54 Za) (Zc ?_);rw [h54];refine cD ?_ ?_<;>intro h6<;>simp (disch:=omega) only [Sh.out h6,go_sem,seval]
      ·grind
      ·have e1:B=((List.range x.orders.length).all fun i=> !(S.testBit i&&(nth x.orders i).off)):=by grind
       refine Zm [2,3] (fun k:Nat=> [(5,.p (.int .i64 k))]) (fun _=> [Zj x,IX c]) (fun k=>k<=x.orders.length/\ ∀j,j<k->(!(S.testBit j&&(nth x.orders j).off))=true) (fun k=>x.orders.length-k) 0 ⟨Zb,fun j hj=>Za⟩ (Weak.mk ?_) ?_
       ·simp (disch:=omega) only [Zj,IX,hS,go_sem,seval]
       ·rintro k ⟨hk,hno⟩;simp (disch:=omega) only [Zj,IX,hS,go_sem,seval];refine cD ?_ ?_<;>intro h7<;>simp (disch:=omega) only [Sh.out h7,go_sem,seval,↓reduceIte]
        ·have hk2:k<x.orders.length:=Za
         refine (La S k Za Za).use (Zc ?_);refine QS ?_ ?_<;>intro h8
         ·refine ZO ?_ ?_<;>intro h9
          ·grind
          ·exact ⟨k+1,⟨Za,Wl hno (by grind)⟩,Za,Weak.mk (by simp (disch:=omega) only [hS,go_sem,seval])⟩
         ·exact ⟨k+1,⟨Za,Wl hno (by rw [h8];rfl)⟩,Za,Weak.mk (by simp (disch:=omega) only [hS,go_sem,seval])⟩
        grind
def zCh : Chc:=⟨false,[],0⟩
def TK (b:Chc):PV:= .agg [.bool b.found,.list (!b.found) (b.places.map eI),.int .i64 b.price]
@[go_sem] theorem Zk9 (b:Chc):TK b= .agg [.bool b.found,.list (!b.found) (b.places.map eI),.int .i64 b.price]:=Zl rfl rfl
def Mc (b:Chc):AM.Obj:= .cells [.p (.bool b.found),.p (.list (!b.found) (b.places.map eI)),.p (.int .i64 b.price)]
def Eb (x:Inst) (l:List Col):Chc:=(Q9 x l x.orders.length (List.replicate x.orders.length (-1)) 0).foldl (YN l) zCh
def dC (x:Inst) (l:List Col) (b:Chc) (e:Int):Prop:=(8192<l.length/\b=zCh/\e=4)\/(l.length<=8192/\(∃c∈l,rightB x c=false)/\b=zCh/\e=2) \/
 (l.length<=8192/\(∀c∈l,rightB x c=true)/\(((Eb x l).found=false/\b=zCh/\e=24)\/((Eb x l).found=true/\b=Eb x l/\e=0)))
theorem EJ {n i:Nat} (h:i<n):nth (List.replicate n (-1:Int)) i= -1:=by
 grind [Zh]
theorem SA {x:Inst} {l:List Col} :RngA x l (List.replicate x.orders.length (-1)):=⟨Zb,fun i hi=>by rw [EJ hi];omega⟩
theorem MF {x:Inst} {l:List Col} (h4:x.orders.length<=4) (h6:x.types.length<=6) (hl:l.length<=1048576) (hs: ∀c∈l,c.set<9223372036854775808) (hr: ∀c∈l,rightB x c=true)
  (hsk: ∀k,k<x.orders.length->(nth x.orders k).off=false->0<=(nth x.orders k).penalty->0<=skR x k/\skR x k<=18014398509481984) (hus: ∀i,scoR 1152921504606846976 (unsF x i).1):ColsR x l :=
 ⟨h4,h6,hl,fun c hc=>by
  obtain ⟨S,q1,q2,q3,_⟩:=Qk (hr c hc) (hs c hc);have h:=hr c hc;simp only [rightB,ZB,Zq] at h
  exact ⟨⟨h.1,h.2.1⟩,h.2.2.2.2,S,q1,Uz q3 (Yt (n:=2) Za h4)⟩,hsk,hus⟩
theorem O4 (x:Inst) (l:List Col) (lc:Bool) (h4:x.orders.length<=4) (h6:x.types.length<=6) (hl:l.length<=1048576) (hs: ∀c∈l,c.set<9223372036854775808)
  (hsk: ∀k,k<x.orders.length->(nth x.orders k).off=false->0<=(nth x.orders k).penalty->0<=skR x k/\skR x k<=18014398509481984) (hus: ∀i,scoR 1152921504606846976 (unsF x i).1) :
  ACalls Tryz.prog 51 [.p (Zv x),.p (.list lc (l.map Xp))] [] fun y H'=> ∃b e,dC x l b e/\y= .tup [.p (TK b),.p (.int .i64 e)]/\H'= []:=by
 refine Zf [14] Tryz.func51 rfl Ziq ?_;simp (disch:=omega) only [Tryz.f51,go_sem,seval];refine cD ?_ ?_<;>intro h1<;>simp (disch:=omega) only [Sh.out h1,go_sem,seval,↓reduceIte]
 ·exact ⟨.tup [.p (TK zCh),.p (.int .i64 4)],[],Weak.mk (by simp (disch:=omega) only [zCh,Vj,Zn,go_sem,seval]),_,_,.inl ⟨Za,rfl,rfl⟩,rfl,rfl⟩
 ·refine Zm [1,2,4] (fun k:Nat=> [(6,.p (.int .i64 k))]) (fun _=> [Zj x,Mc zCh]) (fun k=>k<=l.length/\ ∀j,j<k->rightB x (nth l j)=true) (fun k=>l.length-k) 0 ⟨Zb,fun j hj=>Za⟩ (Weak.mk ?_) ?_
  ·simp (disch:=omega) only [Zj,Mc,zCh,Vj,Zn,go_sem,seval]
  ·rintro k ⟨hk,hno⟩;simp (disch:=omega) only [Zj,Mc,zCh,Vj,Zn,go_sem,seval];refine cD ?_ ?_<;>intro h2<;>simp (disch:=omega) only [Sh.out h2,go_sem,seval,↓reduceIte]
   ·have hk2:k<l.length:=Za
    refine Xo (Zc ?_);refine Zo (bK x (nth l k) h4 Za (hs _ (ZY hk2))) (Zc ?_)
    cases hr:rightB x (nth l k) with
    | false =>
     refine GE ?_;exact ⟨.tup [.p (TK zCh),.p (.int .i64 2)],[],Weak.mk (by simp (disch:=omega) only [zCh,Vj,Zn,go_sem,seval]),_,_,.inr (.inl ⟨Za,⟨_,ZY hk2,hr⟩,rfl,rfl⟩),rfl,rfl⟩
    | true =>
     refine BI ?_;exact ⟨k+1,⟨Za,Wl hno hr⟩,Za,wk⟩
   ·have hr: ∀c∈l,rightB x c=true:=fun c hc=>by
     obtain ⟨j,hj,rfl⟩:=ZT.1 hc
     grind [Zh]
    have hC:=MF h4 h6 hl hs hr hsk hus;clear hno hk h2;refine Z4 [14] [2,4,7] (fun k:Nat=> [(8,.sl 3 0 k k),(9,.p (.int .i64 k))]) (fun k=> [Zj x,Mc zCh,UL x lc l zCh,.elems 1 ((List.replicate k (-1:Int)).map eI)]) (fun k=>k<=x.orders.length) (fun k=>x.orders.length-k) 0 Zb (Weak.ofNil 8 1 (by simp (disch:=omega) only [go_sem,seval]) Zb (Weak.mk ?_)) ?_
    ·simp (disch:=omega) only [Zj,Mc,UL,zCh,Vj,Zn,List.replicate_zero,ZF,go_sem,seval]
    ·intro k hk;simp (disch:=omega) only [Zj,Mc,UL,zCh,Vj,Zn,go_sem,seval];refine cD ?_ ?_<;>intro h2<;>simp (disch:=omega) only [Sh.out h2,go_sem,seval,↓reduceIte]
     ·have hk2:k<x.orders.length:=Za
      have hrp:(List.replicate k (-1:Int))++ [-1]=List.replicate (k+1) (-1):=by rw [EF]
      simp (disch:=omega) only [Ct,go_sem,seval];rw [if_pos ⟨Za,Za⟩];refine Zc ?_;exact ⟨k+1,Za,Za,Weak.mk (by simp (disch:=omega) only [<- hrp,Xz,Zr,Zn,go_sem,seval])⟩
     ·have hkn:k=x.orders.length:=Za
      subst hkn;refine Zp (Weak.fz (o:=3) (by rfl)) ?_;refine Zg [] _ _ _ _ ?_;simp (disch:=omega) only [Zr,Zn,Z6,ZX,Ct,eq_self,go_sem,seval];have ht:=SU x lc l hC x.orders.length (List.replicate x.orders.length (-1)) 0 zCh (ZA _) SA Za Za (fun h=>by cases h);rw [AE] at ht;obtain ⟨B,hB⟩: ∃B,B=Eb x l:=⟨_,rfl⟩;rw [show (Q9 x l x.orders.length (List.replicate x.orders.length (-1)) 0).foldl (YN l) zCh=B from hB.symm] at ht;refine ACalls.mono (((ht.mono fun y H' hq=>(⟨hq,by grind⟩:_/\H'.length= [UL x lc l zCh].length)).front (by rfl) (by rfl) [.dead]).back [Zj x,Mc zCh] (by rfl)) ?_
      rintro y H' ⟨y1,H1,⟨H2,⟨rfl,rfl⟩,rfl⟩,rfl,rfl⟩;obtain ⟨f,bp,bc⟩:=B
      cases f with
      | false =>
       simp (disch:=omega) only [shV,shVs,shO,UL,Zj,Mc,zCh,Zr,Zn,ZK,Zy,Vj,go_sem,seval];exact ⟨.tup [.p (TK zCh),.p (.int .i64 24)],[],Weak.mk (by simp (disch:=omega) only [zCh,Vj,Zn,go_sem,seval]),_,_,.inr (.inr ⟨Za,hr,.inl ⟨by rw [<- hB],rfl,rfl⟩⟩),rfl,rfl⟩
      | true =>
       simp (disch:=omega) only [shV,shVs,shO,UL,Zj,Mc,zCh,Zr,Zn,ZK,Zy,YD,go_sem,seval];exact ⟨.tup [.p (TK ⟨true,bp,bc⟩),.p (.int .i64 0)],[],Weak.mk (by simp (disch:=omega) only [YD,go_sem,seval]),_,_,.inr (.inr ⟨Za,hr,.inr ⟨by rw [<- hB],hB,rfl⟩⟩),rfl,rfl⟩
theorem jT {l:List Col} {x y:Int} (hx: -1<=x) (hy: -1<=y) (h:ky l x=ky l y):(x<0->x=y)/\(y<0->x=y)/\(0<=x->0<=y/\(nth l x.toNat).typ=(nth l y.toNat).typ/\(nth l x.toNat).set=(nth l y.toNat).set):=by
 unfold ky at h
 grind
theorem Dh {l:List Col} : ∀ {a b:List Int},a.length=b.length->(∀t,t<a.length-> -1<=nth a t/\ -1<=nth b t/\ky l (nth a t)=ky l (nth b t))->Kj l a b=none
 | [],[],_,_=>Mu
 | [],_::_,h,_=>by simp at h
 | _::_,[],h,_=>by simp at h
 | x::a,y::b,hl,h=>by
  have ih:=Dh (l:=l) (a:=a) (b:=b) (by grind) fun t ht=>h (t+1) (by grind);obtain ⟨h1,h2,h3⟩:=h 0 Zb;obtain ⟨k1,k2,k3⟩:=jT (show-1<=x from h1) (show-1<=y from h2) h3;rw [Kj]
  grind
theorem Rr {l:List Col} : ∀ {a b:List Int} {i:Nat},a.length=b.length->i<a.length->(∀t,t<a.length-> -1<=nth a t/\ -1<=nth b t)->(∀t,t<i->ky l (nth a t)=ky l (nth b t))->jS (ky l (nth a i)) (ky l (nth b i))->Kj l a b=some true/\Kj l b a=some false
 | [],_,_,_,h,_,_,_=>by simp at h
 | _::_,[],_,h,_,_,_,_=>by simp at h
 | x::a,y::b,0,_,_,hr,_,h=>by
  obtain ⟨h1,h2⟩:=hr 0 Zb;have h':jS (ky l x) (ky l y):=h
  have hne:x≠y:=fun e=>by grind [jS]
  rw [Kj,Kj,if_neg hne,if_neg (Ne.symm hne)];unfold ky jS at h'
  grind
 | x::a,y::b,i+1,hl,hi,hr,he,h=>by
  have ih:=Rr (l:=l) (a:=a) (b:=b) (i:=i) (by grind) (by grind) (fun t ht=>hr (t+1) (by grind)) (fun t ht=>he (t+1) Za) h;obtain ⟨h1,h2⟩:=hr 0 Zb;have h3:ky l x=ky l y:=he 0 Za;obtain ⟨k1,k2,k3⟩:=jT (show-1<=x from h1) (show-1<=y from h2) h3;rw [Kj,Kj]
  grind
theorem Rs : ∀ {a b:List Int},a.length=b.length->(∀t,t<a.length->nth a t<=nth b t)->a=b\/(Ec a b=true/\Ec b a=false)
 | [],[],_,_=> .inl rfl
 | [],_::_,h,_=>by simp at h
 | _::_,[],h,_=>by simp at h
 | x::a,y::b,hl,h=>by
  have h0:x<=y:=h 0 Zb;rw [Ec,Ec]
  by_cases hxy:x=y
  ·subst hxy;rw [if_pos rfl,if_pos rfl];rcases Rs (a:=a) (b:=b) (by grind) (fun t ht=>h (t+1) (by grind)) with e | e
   ·grind
   grind
  grind
theorem wZ {x:Inst} {l:List Col} {a b:List Int} (ha:RngA x l a) (hb:RngA x l b) (h:KL x.orders.length l a b):a=b\/(Fi l a b=true/\Fi l b a=false):=by
 have hl:a.length=b.length:=by rw [ha.1,hb.1]
 have hr: ∀t,t<a.length-> -1<=nth a t/\ -1<=nth b t:=fun t ht=>⟨(ha.2 t (by rw [<- ha.1];exact ht)).1,(hb.2 t (by rw [<- ha.1];exact ht)).1⟩;rcases h with ⟨i,hi,he,hlt⟩ | h
 ·obtain ⟨h1,h2⟩:=Rr hl (by rw [ha.1];exact hi) hr he hlt
  grind [Je]
 ·have h1:=Dh (l:=l) hl fun t ht=>⟨(hr t ht).1,(hr t ht).2,(h t (by rw [<- ha.1];exact ht)).1⟩;have h2:=Dh (l:=l) hl.symm fun t ht=>⟨(hr t Za).2,(hr t Za).1,((h t (by rw [<- hb.1];exact ht)).1).symm⟩;rcases Rs hl fun t ht=>(h t (by rw [<- ha.1];exact ht)).2 with e | ⟨e1,e2⟩
  ·exact .inl e
  grind [Hh]
def Prf (l:List Col) (P:List Int) (W:Int) (q:List Int×Int):Prop:=W<=q.2/\(q.2=W->P=q.1\/(Fi l P q.1=true/\Fi l q.1 P=false))
theorem Og {l:List Col} {P:List Int} {W:Int} : ∀ {L:List (List Int×Int)},(∀q∈L,Prf l P W q)->L.foldl (YN l) ⟨true,P,W⟩=⟨true,P,W⟩
 | [],_=>rfl
 | q::L,h=>by
  have e:YN l ⟨true,P,W⟩ q=⟨true,P,W⟩:=by
   obtain ⟨h1,h2⟩:=h q Zb;unfold YN
   split
   ·rename_i hc;rcases hc with hc | hc | ⟨hc,hd⟩
    ·cases hc
    ·simp only at hc;omega
    ·simp only at hc hd;rcases h2 hc with e | ⟨_,e⟩
     ·rw [<- e,hc]
     ·rw [e] at hd;cases hd
   ·rfl
  rw [XP,e];exact Og fun q hq=>h q (Yr _ hq)
theorem Im {l:List Col} {P:List Int} {W:Int} : ∀ {L:List (List Int×Int)} {b:Chc},(b.found=false\/Prf l P W (b.places,b.price))->(∀q∈L,Prf l P W q)->(P,W)∈L->L.foldl (YN l) b=⟨true,P,W⟩
 | [],_,_,_,hm=>by simp at hm
 | q::L,b,hb,h,hm=>by
  rw [XP];have hq:=h q Zb;have hL: ∀q∈L,Prf l P W q:=fun q hq=>h q (Yr _ hq)
  by_cases e:q=(P,W)
  ·have:YN l b q=⟨true,P,W⟩:=by
    subst e;unfold YN
    split
    ·rfl
    ·rename_i hc;rcases hb with hb | ⟨h1,h2⟩
     ·grind
     ·simp only at h1 h2 hc
      have h3:b.price=W:=by
       omega
      rcases h2 h3 with e | ⟨e,_⟩
      ·obtain ⟨f,bp,bc⟩:=b
       grind
      grind
   grind [Og]
  ·refine Im ?_ hL (by
    rcases Z5.1 hm with h | h
    ·exact absurd h.symm e
    ·exact h)
   unfold YN
   split
   ·exact .inr hq
   ·exact hb
theorem RT {x:Inst} {l ys:List Col} (hc:Ctx x l ys) {D:Nat} (hD:10<D): ∀(d k:Nat) (s:St) (a:List Int) (p:Int),k+d=x.orders.length->Nd x l a s k->0<=Lx x ys D s->(gr x l ys D d k s a,p+Lx x ys D s)∈Q9 x l d a p
 | 0,k,s,a,p,hd,ha,h0=>by
  rw [dE (by rw [ha.ix];omega),UE,gr,Q9];simp
 | d+1,k,s,a,p,hd,ha,h0=>by
  have hk:k<x.orders.length:=Za
  have hkd:x.orders.length-(d+1)=k:=Za
  rw [Q9,hkd,gr]
  split
  ·rename_i ho;rw [Re hc ha hk ho] at h0 ⊢;exact RT hc hD d (k+1) _ a p Za (ha.skip' hk) h0
  ·rename_i ho
   have hoff:(nth x.orders k).off=false:=by
    cases e:(nth x.orders k).off with
    | false=>rfl
    | true=>exact absurd (.inl e) ho
   have hak:nth a k<0:=Int.not_le.1 fun g=>ho (.inr g)
   have hcv:s.cov.toNat.testBit k=false:=by rw [ha.cov k hk];exact J2 Za
   rw [Xd,XU]
   cases hf:(Yl ys k).find? (KW x ys D s) with
   | some c =>
    left
    have hsel:=Qy hf;simp only [KW,ZB,Zq] at hsel;obtain ⟨p1,p2,p3⟩:=J3 hc ha hk (QY hf) hsel.1;have hch:=ha.child hc hk p1 p3;rw [p2] at hch;refine ⟨By l c,ZL.2 p1,?_⟩;rw [if_pos p3,p2];have:=RT hc hD d (k+1) _ _ (p+c.price) Za hch hsel.2.1;rw [show p+c.price+Lx x ys D (AH s c)=p+Lx x ys D s by omega] at this;exact this
   | none =>
    right
    rw [Aq] at hf;have hdec:=Oy hc hD ha.v ha.ix hk hoff hcv;have hno: ∀c∈Yl ys k,YG x s c=true->0<=Lx x ys D (AH s c)->c.price+Lx x ys D (AH s c)≠Lx x ys D s:=fun c hm hy hL e=>hf c hm (by simp only [KW,hy,Q3 hL,Q3 e,Bool.and_self]);obtain ⟨s1,s2⟩:=hc.sk k hk hoff;have hfold:=HA (x:=x) (s:=s) (r:=fun c=>Lx x ys D (AH s c)) (l:=Yl ys k) (a:= -1)
    by_cases hs:0<=skpF x k
    ·rw [if_pos (s1.2 hs),<- s2 hs];rw [if_pos hs] at hdec;unfold YY at hdec
     split at hdec
     ·rename_i hb;have:=RT hc hD d (k+1) _ a (p+skpF x k) Za (ha.skip' hk) hb.1;rw [show p+skpF x k+Lx x ys D (GO s)=p+Lx x ys D s by omega] at this;exact this
     ·exfalso;rcases hfold with e | ⟨c,h1,h2,h3,h4⟩
      ·unfold YY at e;omega
      ·exact hno c h1 h2 h3 (by rw [hdec];exact h4.symm)
    ·exfalso;rw [if_neg hs] at hdec;rcases hfold with e | ⟨c,h1,h2,h3,h4⟩
     ·omega
     ·exact hno c h1 h2 h3 (by rw [hdec];exact h4.symm)
def SD (l:List Col) (g:List Int) (T:Nat):Nat->List Col
 | 0=> []
 | i+1=>SD l g T i++(if 0<=nth g i/\(nth l (nth g i).toNat).typ=T/\(nth l (nth g i).toNat).set%(pw i:Nat)=0 then [nth l (nth g i).toNat] else [])
def Md (l:List Col) (g:List Int) (n:Nat):Nat->List Col
 | 0=> []
 | T+1=>Md l g n T++SD l g T n
def dB (x:Inst) (g:List Int):Nat->List Int
 | 0=> []
 | i+1=>dB x g i++(if nth g i<0/\(nth x.orders i).off=false then [(i:Int)] else [])
theorem LJ {l:List Col} {g:List Int} {T:Nat} : ∀k,(SD l g T k).length<=k
 | 0=>ZA _
 | k+1=>by
  have:=LJ (l:=l) (g:=g) (T:=T) k;rw [SD,ZH];split<;>simp<;>omega
theorem LK {l:List Col} {g:List Int} {n:Nat} : ∀T,(Md l g n T).length<=T*n
 | 0=>by simp [Md]
 | T+1=>by
  have:=LK (l:=l) (g:=g) (n:=n) T;have:=LJ (l:=l) (g:=g) (T:=T) n;rw [Md,ZH,XR];omega
theorem L5 {x:Inst} {g:List Int} : ∀k,(dB x g k).length<=k
 | 0=>ZA _
 | k+1=>by
  have:=L5 (x:=x) (g:=g) k;rw [dB,ZH];split<;>simp<;>omega
def Me (x:Inst) (l:List Col) (p:Pln) (c e:Int):Prop:= ∃b,dC x l b e/\(e≠0->p=zPlC/\c=0)/\(e=0->c=b.price/\p=⟨false,(Md l b.places b.places.length x.types.length).map (·.route),false,dB x b.places b.places.length⟩)
def dA (v w:V):AM.Obj:= .cells [v,w]
theorem MD (x:Inst) (l:List Col) (lc:Bool) (h4:x.orders.length<=4) (h6:x.types.length<=6) (hl:l.length<=1048576) (hs: ∀c∈l,c.set<9223372036854775808)
  (hsk: ∀k,k<x.orders.length->(nth x.orders k).off=false->0<=(nth x.orders k).penalty->0<=skR x k/\skR x k<=18014398509481984) (hus: ∀i,scoR 1152921504606846976 (unsF x i).1) :
  ACalls Tryz.prog 31 [.p (Zv x),.p (.list lc (l.map Xp))] [] fun y H'=> ∃p c e,Me x l p c e/\y= .tup [.p (JI p),.p (.int .i64 c),.p (.int .i64 e)]/\H'= []:=by
 refine Zf [18] Tryz.func31 rfl Zia ?_;simp (disch:=omega) only [Tryz.f31,go_sem,seval];refine ((O4 x l lc h4 h6 hl hs hsk hus).behind (by rfl) _).mono ?_;rintro y H' ⟨y1,H1,⟨b,e,hb,rfl,rfl⟩,rfl,rfl⟩;simp (disch:=omega) only [shV,shVs,Zn,go_sem,seval];refine cD ?_ ?_<;>intro h1<;>simp (disch:=omega) only [Sh.out h1,go_sem,seval,↓reduceIte]
 ·exact ⟨.tup [.p (JI zPlC),.p (.int .i64 0),.p (.int .i64 e)],[],Weak.mk (by simp (disch:=omega) only [zPlC,Zn,go_sem,seval]),_,_,_,⟨b,hb,fun _=>⟨rfl,rfl⟩,fun h=>absurd h h1⟩,rfl,rfl⟩
 ·have he:e=0:=Za
  subst he;have hcv:=hb;rcases hb with ⟨_,_,h⟩ | ⟨_,_,_,h⟩ | ⟨hl2,hr,⟨_,_,h⟩ | ⟨hf,rfl,_⟩⟩
  ·cases h
  ·cases h
  ·cases h
  ·have hC:=MF h4 h6 hl hs hr hsk hus;have hrg:RngA x l (Eb x l).places:=(L7 (x:=x) (l:=l) (b:=zCh) (fun h=>by cases h) (AF x.orders.length SA)) hf;obtain ⟨⟨f,g,c⟩,hB⟩: ∃B,B=Eb x l:=⟨_,rfl⟩;rw [<- hB] at hcv hf hrg ⊢;simp only at hf hrg;subst hf;have hgl:g.length=x.orders.length:=hrg.1;refine Zm [1,2,4,7,9] (fun T:Nat=> [(10,.p (.int .i64 T))]) (fun T=> [Zj x,dA (.p (.list true [])) (.p (.list true [])),Mc ⟨true,g,c⟩,dA (.sl 4 0 (Md l g g.length T).length (Md l g g.length T).length) (.p (.list true [])),.elems 4 ((Md l g g.length T).map fun c=>WG c.route)]) (fun T=>T<=x.types.length) (fun T=>x.types.length-T) 0 Zb ((Weak.nilC (o:=3) (j:=0) 4 (by rfl) (by rfl) Zb).trans (Weak.mk ?_)) ?_
   ·simp (disch:=omega) only [Zj,dA,Mc,YD,Md,Zn,ZF,Z6,ZX,go_sem,seval]
   ·intro T hT;obtain ⟨R,hR⟩: ∃R,R=Md l g g.length T:=⟨_,rfl⟩;have hRl:=LK (l:=l) (g:=g) (n:=g.length) T;rw [<- hR] at hRl ⊢
    have hRs:Md l g g.length (T+1)=R++SD l g T g.length:=by rw [hR];rfl
    have hTn:T*g.length<=6*4:=Cy Za Za;simp (disch:=omega) only [Zj,dA,Mc,YD,go_sem,seval];refine cD ?_ ?_<;>intro h2<;>simp (disch:=omega) only [Sh.out h2,go_sem,seval,↓reduceIte]
    ·obtain ⟨W,hW⟩: ∃W:Nat->List Col,W=fun i=>R++SD l g T i:=⟨_,rfl⟩
     have hW0:W 0=R:=by grind [SD]
     have hWn:Md l g g.length (T+1)=W g.length:=by rw [hRs,hW]
     have hWl: ∀i,(W i).length<=R.length+i:=fun i=>by
      grind [LJ]
     have hWs: ∀i,W (i+1)=W i++(if 0<=nth g i/\(nth l (nth g i).toNat).typ=T/\(nth l (nth g i).toNat).set%(pw i:Nat)=0 then [nth l (nth g i).toNat] else []):=fun i=>by grind [SD]
     clear hW hRs;refine Zm [1,2,4,7,9,10] (fun i:Nat=> [(11,.p (.int .i64 i))]) (fun i=> [Zj x,dA (.p (.list true [])) (.p (.list true [])),Mc ⟨true,g,c⟩,dA (.sl 4 0 (W i).length (W i).length) (.p (.list true [])),.elems 4 ((W i).map fun c=>WG c.route)]) (fun i=>i<=g.length) (fun i=>g.length-i) 0 Zb (Weak.mk ?_) ?_
     ·simp (disch:=omega) only [Zj,dA,Mc,YD,hW0,go_sem,seval]
     ·intro i hi
      have hQl:(W i).length<=28:=by grind
      have hQs:=hWs i;simp (disch:=omega) only [Zj,dA,Mc,YD,go_sem,seval];refine ZO ?_ ?_<;>intro h3
      ·have hi2:i<g.length:=Za
       have hri:=hrg.2 i Za;refine Xo (Zc ?_);refine QS ?_ ?_<;>intro h5
       ·have hj:(nth g i).toNat<l.length:=Za
        obtain ⟨⟨t0,t1⟩,⟨c0,c1⟩,S,hS,hS2⟩:=hC.col _ (ZY hj);refine QS ?_ ?_<;>intro h7
        ·have hpp:0<pw i/\pw i<=pw 4:=⟨F7 i,Kh Za⟩;refine Zo (IM i Za) (Zc ?_);rw [hS];refine ZO ?_ ?_<;>intro h8
         ·rw [if_pos ⟨h5,h7,by grind⟩] at hQs;refine ZC 12 mixed Ze Ze ?_;refine Zc ?_;exact ⟨i+1,Za,Za,Weak.mk (by simp (disch:=omega) only [hQs,Xz,Zr,Zn,ZH,ZD,ZF,Xm,go_sem,seval])⟩
         ·rw [if_neg (fun h=>h8 (by grind)),Wp] at hQs;exact ⟨i+1,Za,Za,Weak.mk (by simp (disch:=omega) only [hQs,go_sem,seval])⟩
        ·rw [if_neg (fun h=>h7 h.2.1),Wp] at hQs;exact ⟨i+1,Za,Za,Weak.mk (by simp (disch:=omega) only [hQs,go_sem,seval])⟩
       ·rw [if_neg (fun h=>h5 h.1),Wp] at hQs;exact ⟨i+1,Za,Za,Weak.mk (by simp (disch:=omega) only [hQs,go_sem,seval])⟩
      ·have hig:i=g.length:=Za
       subst hig;exact ⟨T+1,Za,Za,Weak.mk (by simp (disch:=omega) only [hWn,go_sem,seval])⟩
    ·have hTt:T=x.types.length:=Za
     subst hTt;refine Z4 [18] [2,4,7,9] (fun i:Nat=> [(12,.p (.int .i64 i))]) (fun i=> [Zj x,dA (.p (.list true [])) (.p (.list true [])),Mc ⟨true,g,c⟩,dA (.sl 4 0 R.length R.length) (.sl 5 0 (dB x g i).length (dB x g i).length),.elems 4 (R.map fun c=>WG c.route),.elems 1 ((dB x g i).map eI)]) (fun i=>i<=g.length) (fun i=>g.length-i) 0 Zb ((Weak.nilC (o:=3) (j:=1) 1 (by rfl) (by rfl) Zb).trans (Weak.mk ?_)) ?_
     ·simp (disch:=omega) only [Zj,dA,Mc,YD,dB,Zn,ZF,Z6,ZX,go_sem,seval]
     ·intro i hi;obtain ⟨U,hU⟩: ∃U,U=dB x g i:=⟨_,rfl⟩;have hUl:=L5 (x:=x) (g:=g) i
      have hUs:dB x g (i+1)=U++(if nth g i<0/\(nth x.orders i).off=false then [(i:Int)] else []):=by rw [hU];rfl
      rw [<- hU] at hUl ⊢;simp (disch:=omega) only [Zj,dA,Mc,YD,go_sem,seval];refine cD ?_ ?_<;>intro h3<;>simp (disch:=omega) only [Sh.out h3,go_sem,seval,↓reduceIte]
      ·have hi2:i<g.length:=Za
       refine QS ?_ ?_<;>intro h5
       ·cases ho:(nth x.orders i).off with
        | true =>
         rw [if_neg (by rw [ho];simp),Wp] at hUs;refine BI ?_;exact ⟨i+1,Za,Za,Weak.mk (by simp (disch:=omega) only [hUs,go_sem,seval])⟩
        | false =>
         rw [if_pos ⟨h5,ho⟩] at hUs;refine GE ?_;exact ⟨i+1,Za,Za,Weak.mk (by simp (disch:=omega) only [hUs,Xz,Zr,Zn,ZH,ZD,ZF,Xm,go_sem,seval])⟩
       ·rw [if_neg (fun h=>h5 h.1),Wp] at hUs;exact ⟨i+1,Za,Za,Weak.mk (by simp (disch:=omega) only [hUs,go_sem,seval])⟩
      ·have hig:i=g.length:=Za
       subst hig;refine Zp (Weak.fz (o:=4) (by rfl)) ?_;refine Zp (Weak.fz (o:=5) (by rfl)) ?_;refine Zg [] _ _ _ _ ?_;simp (disch:=omega) only [Zr,Zn,Z6,ZX,eq_self,go_sem,seval];refine Bk [3] [1,2] [2] 4 mixed Ze Ze Ze Ze Zb (Zc ?_);refine ⟨fun q hq p' hp=> ?_,?_⟩
       ·simp only [Z5,Y6,Ws] at hq;rcases hq with rfl | rfl
        ·obtain rfl:7=p':=Vi hp;exact V3 (by decide)
        ·obtain rfl:114=p':=Vi hp;exact V3 (by decide)
       ·refine Na 3 _ _ Ze (by refine Zc ?_;exact ⟨rfl,rfl⟩) ?_;refine ⟨fun k hk=>by simp at hk;subst hk;rfl,Lk ?_⟩;refine Zc ?_;exact ⟨.tup [.p (JI ⟨false,R.map (·.route),false,U⟩),.p (.int .i64 c),.p (.int .i64 0)],[],Weak.mk (by simp (disch:=omega) only [List.map_map,Function.comp_def,go_sem,seval]),_,_,_,⟨_,hcv,fun h=>absurd rfl h,fun _=>⟨rfl,by rw [hR,hU]⟩⟩,rfl,rfl⟩
theorem FA {α:Type} {p q:α->Bool} : ∀ {l:List α},(∀a∈l,p a=q a)->l.find? p=l.find? q
 | [],_=>rfl
 | a::l,h=>by
  rw [List.find?_cons,List.find?_cons,h a Zb,FA fun a ha=>h a (Yr _ ha)]
def RA (l:List Col) (g:List Int):Nat->Nat->List Col
 | 0,_=> []
 | d+1,k=>(if 0<=nth g k/\AY (nth l (nth g k).toNat).set.toNat=(k:Int) then [nth l (nth g k).toNat] else [])++RA l g d (k+1)
def UA (x:Inst) (g:List Int):Nat->Nat->List Int
 | 0,_=> []
 | d+1,k=>(if nth g k<0/\(nth x.orders k).off=false then [(k:Int)] else [])++UA x g d (k+1)
theorem tO {x:Inst} {l ys:List Col} (hc:Ctx x l ys) {D:Nat} (hD:D=20) {s:St} {k:Nat} (hv:StV x.orders.length s) (hk:s.ix=k) (hkn:k<x.orders.length) (ho:(nth x.orders k).off=false) (hcv:s.cov.toNat.testBit k=false) {c:Col} (hm:c∈Yl ys k) :
  LR x.orders.length (mI x) x (fstF x.orders.length ys) (skF x x.orders.length) s c=KW x ys D s c:=by
 have hn:=hc.n4;have e1:=DM (n:=x.orders.length) hk (m:=mI x) (by grind [FM]) (by grind [B2]);have e2:=GL (m:=mI x) hk hkn hn (KU hc hkn hm).2.2.2
 grind [LR,KW,Lx]
theorem EP {x:Inst} {l ys:List Col} (hc:Ctx x l ys) {D:Nat} (hD:D=20): ∀(d k:Nat) (s:St) (a:List Int) (f:Nat),k+d=x.orders.length->d<f->Nd x l a s k ->
  Yx x.orders.length (mI x) x (fstF x.orders.length ys) (skF x x.orders.length) f (Vv x.orders.length (mI x) s)=(RA l (gr x l ys D d k s a) d k,UA x (gr x l ys D d k s a) d k)
 | 0,k,s,a,0,_,hf,_=>Za
 | 0,k,s,a,f+1,hd,_,h=>by
  rw [Yx,if_pos,RA,UA];simp only [Vv];have:=C0 (n:=x.orders.length) (m:=mI x) (cov:=s.cov) (x.orders.length-s.ix.toNat) s.ix.toNat;have:=h.ix;omega
 | d+1,k,s,a,0,_,hf,_=>Za
 | d+1,k,s,a,f+1,hd,hf,h=>by
  have hk:k<x.orders.length:=Za
  have hn:=hc.n4;rw [gr]
  split
  ·rename_i ho;have hsk:=ho.imp (fun e=>show sHas (mI x) k=false by grind [FM]) (fun e=>show sHas s.cov k=true by rw [B2 h.v Za,h.cov k hk];grind);rw [DL h.ix hk hsk,EP hc hD d (k+1) (GO s) a (f+1) Za Za (h.skip' hk)];have hg:=(Dn hc (D:=D) d (k+1) (GO s) a Za (h.skip' hk)).2 k hk (.inl Za);rw [RA,UA,hg,if_neg,if_neg,Zy,Zy]
   ·grind
   ·rintro ⟨g1,g2⟩;obtain ⟨t,t1,t2⟩:=h.old k hk (ZA _) g1;have hr:=h.rng k hk;obtain ⟨_,s0,s1,_⟩:=hc.set (ZY (l:=l) (i:=(nth a k).toNat) Za);have:=((P8 s0 s1 hn hk).1 g2).2 t Za t2;omega
  ·rename_i ho
   have hoff:(nth x.orders k).off=false:=by
    grind
   have hak:nth a k<0:=Int.not_le.1 fun g=>ho (.inr g)
   have hcv:s.cov.toNat.testBit k=false:=by rw [h.cov k hk];grind
   rw [DM h.ix (by grind [FM]) (by rw [B2 h.v Za,hcv]),Yx,if_neg (by rw [h.ix];omega)]
   have e2:nth (fstF x.orders.length ys) s.ix.toNat=Yl ys k:=by rw [h.ix,XO,Nq,if_pos hk]
   rw [e2,FA (q:=KW x ys D s) fun c hm=>tO hc hD h.v h.ix hk hoff hcv hm]
   cases hfd:(Yl ys k).find? (KW x ys D s) with
   | some c =>
    have hsel:=Qy hfd;have hm:=QY hfd;simp only [KW,ZB] at hsel;obtain ⟨p1,p2,p3⟩:=J3 hc h hk hm hsel.1;have hch:=h.child hc hk p1 p3;obtain ⟨c1,c2⟩:=B0 h.len p3;rw [p2] at hch c1 c2;have hg:=(Dn hc (D:=D) d (k+1) (AH s c) _ Za hch).2 k hk (.inl Za);rw [Xy (by rw [h.len];exact hk),if_pos c1] at hg;simp only;rw [GL h.ix hk hn (KU hc hk hm).2.2.2,EP hc hD d (k+1) (AH s c) _ f Za Za hch,RA,UA,hg,if_pos ⟨Za,by rw [XO,p2];exact (KU hc hk hm).2.2.1⟩,if_neg Za,XO,p2]
    rfl
   | none =>
    have hg:=(Dn hc (D:=D) d (k+1) (GO s) a Za (h.skip' hk)).2 k hk (.inl Za);simp only;have e3:Dz x.orders.length (mI x) s=Vv x.orders.length (mI x) (GO s):=rfl;rw [e3,EP hc hD d (k+1) (GO s) a f Za Za (h.skip' hk),RA,UA,hg,if_neg Za,if_pos ⟨hak,hoff⟩,h.ix]
    rfl
theorem Is {l:List Col} {g:List Int} {c:Col} : ∀(d k:Nat),c∈RA l g d k↔ ∃i,k<=i/\i<k+d/\0<=nth g i/\AY (nth l (nth g i).toNat).set.toNat=(i:Int)/\c=nth l (nth g i).toNat
 | 0,k=>by simp [RA];omega
 | d+1,k=>by
  rw [RA,Xd,Is d (k+1)]
  constructor
  ·rintro (h | ⟨i,h1,h2,h3⟩)
   ·split at h
    ·grind
    ·simp at h
   grind
  grind
theorem dF {l:List Col} {g:List Int} : ∀(d k:Nat),(RA l g d k).Pairwise fun a b=>AY a.set.toNat<AY b.set.toNat
 | 0,k=> .nil
 | d+1,k=>by
  rw [RA,EE];refine ⟨?_,dF d (k+1),fun a ha b hb=> ?_⟩
  ·split<;>simp
  ·split at ha
   ·rename_i hh;obtain ⟨i,h1,h2,h3,h4,rfl⟩:=(Is _ _).1 hb
    grind
   ·simp at ha
theorem Rg {x:Inst} {g:List Int} : ∀(d k:Nat),UA x g (d+1) k=UA x g d k++(if nth g (k+d)<0/\(nth x.orders (k+d)).off=false then [((k+d:Nat):Int)] else [])
 | 0,k=>by simp [UA]
 | d+1,k=>by
  rw [UA,Rg d (k+1),UA,KI,show k+1+d=k+(d+1) by omega]
theorem dH {x:Inst} {g:List Int} : ∀n,UA x g n 0=dB x g n
 | 0=>rfl
 | n+1=>by rw [Rg,dH n,dB,Xm]
theorem ZcY : ∀S:Fin 16,0<S.val-> ∀i:Fin 4,S.val.testBit i.val=true->((S.val:Int)%(pw i.val:Nat)=0↔AY S.val=(i.val:Int)):=by decide+kernel
theorem AP {l:List Col} {g:List Int} {T:Nat} {c:Col} : ∀k,c∈SD l g T k↔ ∃i,i<k/\0<=nth g i/\(nth l (nth g i).toNat).typ=T/\(nth l (nth g i).toNat).set%(pw i:Nat)=0/\c=nth l (nth g i).toNat
 | 0=>by simp [SD]
 | k+1=>by
  rw [SD,Xd,AP k]
  constructor
  ·grind
  grind
theorem LL {l:List Col} {g:List Int} {n:Nat} {c:Col} : ∀T,c∈Md l g n T↔ ∃t,t<T/\c∈SD l g t n
 | 0=>by simp [Md]
 | T+1=>by
  rw [Md,Xd,LL T]
  grind
theorem wU {x:Inst} (hx:InstOk x) {k:Nat} (hk:k<x.orders.length) (ho:(nth x.orders k).off=false):(0<=(nth x.orders k).penalty↔0<=skpF x k)/\(0<=skpF x k->skpF x k=skR x k):=by
 have ha:=(hx.orders.2 k hk).arg;simp only [argOk,rng,ZB,Zq] at ha
 have e:unsF x k=if (nth x.orders k).penalty= -1 then (zSco,23) else (⟨(nth x.orders k).penalty,if (nth x.orders k).now= -1 then 0 else 1,0,0⟩,0):=by
  simp_all [unsF,if_neg]
 by_cases hp:(nth x.orders k).penalty= -1
 ·simp_all [skpF]
 ·have hm:(if (nth x.orders k).now= -1 then (0:Int) else 1)=0\/(if (nth x.orders k).now= -1 then (0:Int) else 1)=1:=Za
  have e2:skpF x k=skR x k/\0<=skR x k:=by
   rw [skpF,skR,e,if_neg hp];generalize (if (nth x.orders k).now= -1 then (0:Int) else 1)=m at hm
   have:YB ⟨(nth x.orders k).penalty,m,0,0⟩=((((nth x.orders k).penalty*16+m)*16+0)*65536+0,0):=by
    rw [YB,if_neg (by grind),if_neg (by grind)]
   grind
  omega
theorem gC {x:Inst} {l ys:List Col} (hx:InstOk x) (hn:x.orders.length<=4) (hC:Cheap l ys) (hr: ∀c∈l,rightB x c=true) (hs: ∀c∈l,c.set<9223372036854775808):Ctx x l ys :=
 have hok:=Rx hx hn hC hr hs
 ⟨hn,hok.typ.1,hC,hr,hs,hok,fun _ hk ho=>wU hx hk ho⟩
theorem SY {l:List Col} {n:Nat} {T:Int} : ∀m,m<=n->usdI l (List.replicate n (-1)) T m=0
 | 0,_=>rfl
 | m+1,h=>by
  rw [usdI,SY m Za,K6,EJ Za,J2 Za];rfl
theorem Sn (x:Inst) (l:List Col):Nd x l (List.replicate x.orders.length (-1)) zSt 0:=by
 have hz: ∀i,i<x.orders.length->nth (List.replicate x.orders.length (-1:Int)) i= -1:=fun i hi=>EJ hi;refine ⟨Zb,rfl,wY _,fun i hi=> ?_,fun i hi=>by grind,fun T hT=> ?_,fun i hi h=>by grind,fun i hi _ h=>by grind,fun i hi h=>by grind⟩
 ·simp_all [zSt]
 ·rw [SY _ (ZA _)]
  have:T=0\/T=1\/T=2\/T=3\/T=4\/T=5:=Za
  rcases this with rfl | rfl | rfl | rfl | rfl | rfl<;>rfl
theorem Nd.RngA {x:Inst} {l:List Col} {a:List Int} {s:St} {k:Nat} (h:Nd x l a s k):RngA x l a:=⟨h.len,h.rng⟩
theorem MZ {x:Inst} {l ys:List Col} (hc:Ctx x l ys) {D:Nat} : ∀(d k:Nat) (s:St) (a:List Int),k+d=x.orders.length->Nd x l a s k-> ∃s',Nd x l (gr x l ys D d k s a) s' x.orders.length
 | 0,k,s,a,hd,h=>⟨s,by grind [gr]⟩
 | d+1,k,s,a,hd,h=>by
  have hk:k<x.orders.length:=Za
  rw [gr]
  split
  ·exact MZ hc d (k+1) _ _ Za (h.skip' hk)
  ·split
   ·rename_i c hf;have hsel:=Qy hf;simp only [KW,ZB] at hsel;obtain ⟨p1,p2,p3⟩:=J3 hc h hk (QY hf) hsel.1;have hch:=h.child hc hk p1 p3;rw [p2] at hch;exact MZ hc d (k+1) _ _ Za hch
   ·exact MZ hc d (k+1) _ _ Za (h.skip' hk)
theorem Rl {x:Inst} {l ys:List Col} (hc:Ctx x l ys) {D:Nat} (hD:10<D) :
  (Lx x ys D zSt<0->(Eb x l).found=false)/\(0<=Lx x ys D zSt->Eb x l=⟨true,gr x l ys D x.orders.length 0 zSt (List.replicate x.orders.length (-1)),Lx x ys D zSt⟩):=by
 have hz:=Sn x l;have hb:=Cb hc hD x.orders.length 0 zSt _ _ 0 Za hz hz KE.refl;obtain ⟨s',hg⟩:=MZ hc (D:=D) x.orders.length 0 zSt _ Za hz
 constructor
 ·intro h
  have:Q9 x l x.orders.length (List.replicate x.orders.length (-1)) 0= []:=by
   cases e:Q9 x l x.orders.length (List.replicate x.orders.length (-1)) 0 with
   | nil=>rfl
   | cons q L=>grind
  rw [Eb,this];rfl
 ·intro h;have hin:=RT hc hD x.orders.length 0 zSt _ 0 Za hz h;rw [Int.zero_add] at hin;refine Im (.inl rfl) (fun q hq=> ?_) hin;obtain ⟨_,h2,h3⟩:=hb q hq;rw [Int.zero_add] at h2 h3;exact ⟨h2,fun e=>wZ hg.RngA (AF _ hz.RngA q hq) (h3 e)⟩
theorem SE {l:List Col} {g:List Int} {T n:Nat} (hdv: ∀i,i<n->0<=nth g i->((nth l (nth g i).toNat).set%(pw i:Nat)=0↔AY (nth l (nth g i).toNat).set.toNat=(i:Int))): ∀k,k<=n->(SD l g T k).Pairwise fun a b=>qA a b<0
 | 0,_=> .nil
 | k+1,hk=>by
  rw [SD,EE];refine ⟨SE hdv k Za,by split<;>simp,fun a ha b hb=> ?_⟩
  split at hb
  ·rename_i hh
   obtain rfl:b=nth l (nth g k).toNat:=by grind
   obtain ⟨i,h1,h2,h3,h4,rfl⟩:=(AP _).1 ha;rw [JE,h3,hh.2.1]
   right
   refine ⟨rfl,?_⟩
   show AY _<AY _
   grind
  ·simp at hb
theorem SF {l:List Col} {g:List Int} {n:Nat} (hdv: ∀i,i<n->0<=nth g i->((nth l (nth g i).toNat).set%(pw i:Nat)=0↔AY (nth l (nth g i).toNat).set.toNat=(i:Int))): ∀T,(Md l g n T).Pairwise fun a b=>qA a b<0
 | 0=> .nil
 | T+1=>by
  rw [Md,EE];refine ⟨SF hdv T,SE hdv n (ZA _),fun a ha b hb=> ?_⟩;obtain ⟨t,h1,h2⟩:=(LL _).1 ha;obtain ⟨i,_,_,h3,_,rfl⟩:=(AP _).1 h2;obtain ⟨j,_,_,h5,_,rfl⟩:=(AP _).1 hb
  simp_all [JE]
theorem bO {x:Inst} {l ys:List Col} (hc:Ctx x l ys) {g:List Int} {s:St} (hg:Nd x l g s x.orders.length) {zs:List Col} (hp:zs.Perm (RA l g x.orders.length 0)) (ha:zs.Pairwise fun a b=> ¬qA b a<0):zs=Md l g x.orders.length x.types.length:=by
 have hn:=hc.n4;have hin: ∀i,i<x.orders.length->0<=nth g i->nth l (nth g i).toNat∈l:=fun i hi h0=>ZY (by have:=hg.rng i hi;omega)
 have hdv: ∀i,i<x.orders.length->0<=nth g i->((nth l (nth g i).toNat).set%(pw i:Nat)=0↔AY (nth l (nth g i).toNat).set.toNat=(i:Int)):=fun i hi h0=>by
  obtain ⟨e,s0,s1,_⟩:=hc.set (hin i hi h0);have h16:(nth l (nth g i).toNat).set.toNat<16:=Uz s1 (Yt (n:=2) Za hn);have:=ZcY ⟨_,h16⟩ s0 ⟨i,Za⟩ (hg.own i hi h0)
  grind
 have hne:zs.Pairwise fun a b=>lo a≠lo b:=by
  have h1:(RA l g x.orders.length 0).Pairwise fun a b=>lo a≠lo b:=(dF _ _).imp fun {a b} h e=>by
   have e':AY a.set.toNat=AY b.set.toNat:=e;omega
  exact (hp.pairwise_iff fun h e=>h e.symm).2 h1
 have hz:zs.Pairwise fun a b=>qA a b<0:=(hne.and ha).imp fun {a b} h=>by
  have h1:=h.1;have h2:=h.2;rw [JE] at h2 ⊢;omega
 refine GB (r:=fun a b=>qA a b<0) (fun a=>by rw [JE];omega) (fun a b=>by rw [JE,JE];omega) hz (SF hdv _) fun c=> ?_;rw [hp.mem_iff,Is,LL]
 constructor
 ·rintro ⟨i,_,h1,h2,h3,rfl⟩;have ht:=(hc.typ (hin i Za h2)).1;exact ⟨(nth l (nth g i).toNat).typ.toNat,Za,(AP _).2 ⟨i,Za,h2,Za,(hdv i Za h2).2 h3,rfl⟩⟩
 ·rintro ⟨t,_,h⟩;obtain ⟨i,h1,h2,h3,h4,rfl⟩:=(AP _).1 h
  grind
theorem Mv {x:Inst} {ys:List Col} {D:Nat} (hD:D=20):Ln x ys=Lx x ys D zSt:=by subst hD;rfl
theorem Zi1 {x:Inst} {l:List Col} {a e e':Int} {b:Chc} (hx:InstOk x) (hn:x.orders.length<=4) (hs: ∀c∈l,c.set<9223372036854775808) (h:ZmR x l a e) (h':dC x l b e'):a=b.price/\e=e':=by
 rcases h with ⟨g1,rfl,rfl⟩ | ⟨g1,⟨c,gc,g2⟩,rfl,rfl⟩ | ⟨g1,g2,ys,g3,rfl,rfl⟩<;>rcases h' with ⟨k1,rfl,rfl⟩ | ⟨k1,⟨c',kc,k2⟩,rfl,rfl⟩ | ⟨k1,k2,k3⟩
 ·exact ⟨rfl,rfl⟩
 ·omega
 ·omega
 ·omega
 ·exact ⟨rfl,rfl⟩
 ·grind
 ·omega
 ·grind
 ·obtain ⟨D,hD⟩: ∃D:Nat,D=20:=⟨20,rfl⟩;rw [Mv hD];obtain ⟨q1,q2⟩:=Rl (gC hx hn g3 g2 hs) (D:=D) Za;rcases k3 with ⟨f,rfl,rfl⟩ | ⟨f,rfl,rfl⟩
  ·have:Lx x ys D zSt<0:=Int.not_le.1 fun h0=>by grind
   rw [if_pos this,if_pos this];exact ⟨rfl,rfl⟩
  grind
theorem fO {x:Inst} {l:List Col} {p q:Pln} {c e c' e':Int} (hx:InstOk x) (hn:x.orders.length<=4) (hs: ∀c∈l,c.set<9223372036854775808) (h:oG x l p c e) (h':Me x l q c' e'):c=c'/\e=e'/\p.routes=q.routes/\p.unserved=q.unserved/\p.routes.length<=24/\p.unserved.length<=24/\ ∀r∈p.routes,∃c∈l,r=c.route:=by
 obtain ⟨b,hb,h1,h2⟩:=h';have z:zPlC.routes.length<=24/\zPlC.unserved.length<=24/\ ∀r∈zPlC.routes,∃c∈l,r=c.route:=⟨by simp [zPlC],by simp [zPlC],fun r hr=>by simp [zPlC] at hr⟩;rcases h with ⟨g1,rfl,rfl,rfl⟩ | ⟨g1,⟨c,gc,g2⟩,rfl,rfl,rfl⟩ | ⟨g1,g2,ys,g3,g4,g5⟩<;>rcases hb with ⟨k1,rfl,rfl⟩ | ⟨k1,⟨c',kc,k2⟩,rfl,rfl⟩ | ⟨k1,k2,k3⟩
 ·grind
 ·omega
 ·omega
 ·omega
 ·grind
 ·grind
 ·omega
 ·grind
 ·obtain ⟨D,hD⟩: ∃D:Nat,D=20:=⟨20,rfl⟩;have hc:=gC hx hn g3 g2 hs;obtain ⟨q1,q2⟩:=Rl hc (D:=D) Za;rw [Mv hD] at g5;rcases g5 with ⟨g6,rfl,rfl,rfl⟩ | ⟨g6,rfl,rfl,zs,hp,ha,rfl⟩
  ·grind
  ·rcases k3 with ⟨f,rfl,rfl⟩ | ⟨f,rfl,rfl⟩
   ·grind
   ·obtain ⟨rfl,rfl⟩:=h2 rfl;have hz:=Sn x l;have hpk:=EP hc hD x.orders.length 0 zSt _ 20 Za Za hz;obtain ⟨s',hg⟩:=MZ hc (D:=D) x.orders.length 0 zSt _ Za hz;rw [q2 g6];simp only [mI] at hpk;rw [hpk] at hp ⊢;simp only at hp ⊢;have hzs:=bO hc hg hp ha;rw [hg.len,dH,hzs];have l1:=LK (l:=l) (g:=gr x l ys D x.orders.length 0 zSt (List.replicate x.orders.length (-1))) (n:=x.orders.length) x.types.length;have l2:=L5 (x:=x) (g:=gr x l ys D x.orders.length 0 zSt (List.replicate x.orders.length (-1))) x.orders.length
    have l3:x.types.length*x.orders.length<=6*4:=Cy hc.t6 hn;refine ⟨trivial,trivial,rfl,rfl,by grind,Za,fun r hr=> ?_⟩;obtain ⟨c,hcm,rfl⟩:=XQ.1 hr;rw [<- hzs,hp.mem_iff,Is] at hcm;obtain ⟨i,_,i1,i2,_,rfl⟩:=hcm;exact ⟨_,ZY (by have:=hg.rng i Za;omega),rfl⟩
theorem Fz {α:Type} [DecidableEq α] {p q:α->Bool} {a:α} : ∀ {l:List α},l.Nodup->a∈l->p a=false->q a=true->(∀b∈l,b≠a->p b=q b)->(l.filter q).length=(l.filter p).length+1
 | [],_,h,_,_,_=>by simp at h
 | b::l,hn,h,hp,hq,he=>by
  rw [List.nodup_cons] at hn
  by_cases e:b=a
  ·grind [Au]
  ·have ih:=Fz hn.2 (by
    grind) hp hq fun c hc=>he c (Yr _ hc)
   grind
theorem GG {ok:List Vis->Bool} {col:List Vis->Col} {better:Col->Col->Bool} (hb: ∀a b,(better a b=true->a.price<=b.price)/\(better a b=false->b.price<=a.price)): ∀(L:List (List Vis)) (b:Col×Bool),(b.2=true->(L.foldl (XF ok col better) b).2=true/\(L.foldl (XF ok col better) b).1.price<=b.1.price) /\
  ∀m∈L,ok m=true->(L.foldl (XF ok col better) b).2=true/\(L.foldl (XF ok col better) b).1.price<=(col m).price
 | [],b=>⟨fun h=>⟨h,Int.le_refl _⟩,fun m hm=>by simp at hm⟩
 | l::L,b=>by
  rw [XP];obtain ⟨g1,g2⟩:=GG hb L (XF ok col better b l)
  have hu:(b.2=true->(XF ok col better b l).2=true/\(XF ok col better b l).1.price<=b.1.price)/\(ok l=true->(XF ok col better b l).2=true/\(XF ok col better b l).1.price<=(col l).price):=by
   unfold XF
   split
   ·rename_i hc;refine ⟨fun h=>⟨rfl,?_⟩,fun _=>⟨rfl,Int.le_refl _⟩⟩;rcases hc.2 with h2 | h2
    ·rw [h2] at h;cases h
    ·exact (hb _ _).1 h2
   ·rename_i hc;refine ⟨fun h=>⟨h,Int.le_refl _⟩,fun h=> ?_⟩
    have h2:b.2=true:=by
     cases h3:b.2 with
     | true=>rfl
     | false=>exact absurd ⟨h,.inl h3⟩ hc
    have h4:better (col l) b.1=false:=by
     cases h3:better (col l) b.1 with
     | false=>rfl
     | true=>exact absurd ⟨h,.inr h3⟩ hc
    exact ⟨h2,(hb _ _).2 h4⟩
  refine ⟨fun h=> ?_,fun m hm hk=> ?_⟩
  ·obtain ⟨h1,h2⟩:=hu.1 h;obtain ⟨h3,h4⟩:=g1 h1;exact ⟨h3,Int.le_trans h4 h2⟩
  grind
theorem iX {x:Inst} {S:Nat} {m:List Vis} (h:Gr x S m): ∀(f k:Nat),m.length=k+f->m∈A9 (fun l=>nextU x S l x.orders.length) f (m.take k)
 | 0,k,hl=>by
  grind [A9]
 | f+1,k,hl=>by
  have hk:k<m.length:=Za
  have ha:=h.at k hk;rw [A9,if_neg (fun e=>by grind),XU];refine ⟨nth m k,ha,?_⟩
  have e:m.take k++ [nth m k]=m.take (k+1):=by rw [Yb hk,Zh hk]
  rw [e];exact iX h f (k+1) Za
theorem NA {x:Inst} {l:List Vis} (h:RightV x l):Xt l≠0:=fun e=>by
 obtain ⟨v,hv⟩: ∃v,v∈l:=by
  cases l with
  | nil=>exact absurd rfl h.ne
  | cons v l=>simp
 have hi:=h.inr v hv;have hb:=(h.bit v.order.toNat).2 ⟨v,hv,Za⟩
 grind
theorem pV (a b:Col):(Wm a b=true->a.price<=b.price)/\(Wm a b=false->b.price<=a.price):=by
 unfold Wm
 grind
theorem TA {x:Inst} (hx:InstOk x) {k:Int} {m:List Vis} (ht:0<=(nth x.types k.toNat).opn) (hok:FY x k m=true) (z:Col×Bool) :
  Wx x.orders x.apart x.before ((Xt m:Nat):Int)=0/\(Ee x k (Xt m) z).2=true/\(Ee x k (Xt m) z).1.price<=(YH x (Q6 k m)).1:=by
 have hf:=XJ hx
 have hn:x.orders.length<=60:=by have:=hf.len;omega
 have hr:RightV x m:=WI (Um hok);have ha:=hr.alw hf;have hS:=(hr.lt hf).2;refine ⟨(Qt hn hS hf.val).2 ha,?_⟩;rw [O0 hx (NA hr) hS ha ht z,BY];have hg:=hr.gr hf m.length (ZA _);rw [YV] at hg;have hin:m∈A9 (CF x (Xt m)) (WV x (Xt m)) []:=iX hg (WV x (Xt m)) 0 (by rw [hr.len hf,WV];omega)
 have hR:Db x k (Xt m) m=true:=by
  unfold Db;rw [hok,Um hok,hr.ord hf];simp
 exact (GG pV _ z).2 m hin hR
theorem GH {g:FuncId} {args:List V} {R:Pln->Int->Int->Prop} {H:List AM.Obj} {K:V->List AM.Obj->Prop} (h:ACalls Tryz.prog g args [] fun y H'=> ∃p c e,R p c e/\y= .tup [.p (JI p),.p (.int .i64 c),.p (.int .i64 e)]/\H'= []) (k: ∀p c e,R p c e->K (.tup [.p (JI p),.p (.int .i64 c),.p (.int .i64 e)]) H) (ha:Xn 0 args=true:=by rfl):ACalls Tryz.prog g args H K :=
 (h.behind ha H).mono fun x H' hq=>by
  obtain ⟨y,H1,⟨p,c,e,hr,rfl,rfl⟩,rfl,rfl⟩:=hq
  grind [shV,shVs]
theorem DS {ok:List Vis->Bool} {col:List Vis->Col} {better:Col->Col->Bool} : ∀(L:List (List Vis)) (b:Col×Bool),(L.foldl (XF ok col better) b).2=true->(b.2=true/\(L.foldl (XF ok col better) b).1=b.1)\/ ∃m∈L,ok m=true/\(L.foldl (XF ok col better) b).1=col m
 | [],b,h=> .inl ⟨h,rfl⟩
 | l::L,b,h=>by
  rw [XP] at h ⊢;rcases DS L _ h with ⟨h1,h2⟩ | ⟨m,h1,h2,h3⟩
  ·rw [h2];unfold XF at h1 ⊢
   grind
  grind
theorem Di {x:Inst} {k:Int} {S:Nat} (h:(VU x k S).2=0): ∃m,m∈R9 x k S (WV x S) [] (st0 (nth x.types k.toNat))/\FY x k m=true/\(VU x k S).1=YR x k S m:=by
 unfold VU at h ⊢
 split at h
 ·rename_i hc;rw [if_pos hc];rcases DS _ _ hc.2 with ⟨h1,_⟩ | ⟨m,h1,h2,h3⟩
  ·cases h1
  ·exact ⟨m,h1,h2,h3⟩
 ·cases h
theorem NI {one:Nat->List Col} {c:Col} : ∀q,c∈BC one q↔ ∃S,1<=S/\S<=q/\c∈one S
 | 0=>by simp [BC];omega
 | q+1=>by
  rw [BC,Xd,NI q]
  grind
theorem Ml {one:Nat->Nat->List Col} {N:Nat} {c:Col} : ∀K,c∈Uf one N K↔ ∃k S,k<K/\1<=S/\S<=N/\c∈one k S
 | 0=>by simp [Uf]
 | K+1=>by
  rw [Uf,Xd,Ml K,NI]
  grind
noncomputable def XG (x:Inst):List Col:=Uf (VM x) (2^x.orders.length-1) x.types.length
theorem BS {x:Inst} {c:Col} :c∈XG x↔ ∃k S,k<x.types.length/\0<S/\S<2^x.orders.length/\(VU x (k:Int) S).2=0/\c=(VU x (k:Int) S).1:=by
 have hp1:1<=2^x.orders.length:=Nat.one_le_two_pow;rw [XG,Ml]
 constructor
 ·grind [VM]
 ·rintro ⟨k,S,h1,h2,h3,h4,h5⟩;exact ⟨k,S,h1,Za,Za,by simp_all [VM]⟩
theorem dX {x:Inst} {c:Col} (h:c∈XG x): ∃(k S:Nat) (m:List Vis),k<x.types.length/\0<S/\S<2^x.orders.length/\m.length=WV x S/\FY x k m=true/\c=YR x k S m:=by
 obtain ⟨k,S,h1,h2,h3,h4,rfl⟩:=BS.1 h;obtain ⟨m,m1,m2,m3⟩:=Di h4;exact ⟨k,S,m,h1,h2,h3,by have:=Lo _ _ _ m m1;grind,m2,m3⟩
theorem Er {x:Inst} (hn:x.orders.length<=4) (h6:x.types.length<=6):(XG x).length<=96/\ ∀c∈XG x,c.set<9223372036854775808/\Zc5 c.route:=by
 have hp2:2^x.orders.length<=2^4:=Yt Za hn;refine ⟨?_,fun c hc=> ?_⟩
 ·have h1:=BR (N:=2^x.orders.length-1) (KR (x:=x)) x.types.length;have h2:x.types.length*(2^x.orders.length-1)<=6*16:=Cy Za Za;unfold XG;omega
 ·obtain ⟨k,S,m,_,_,h3,h4,_,rfl⟩:=dX hc;have:=C7 x S x.orders.length;unfold WV at h4;exact ⟨by grind [YR],by grind [YR,Q6],by simp [YR,Q6]⟩
theorem tW (x:Inst) (hx:InstOk x) (hn:x.orders.length<=4) (h6:x.types.length<=6) (hbl:x.before.length<=1048576) (hal:x.apart.length<=1048576) :
  ACalls Tryz.prog 47 [.p (Zv x)] [] fun y H'=> ∃p c e,oG x (XG x) p c e/\y= .tup [.p (JI p),.p (.int .i64 c),.p (.int .i64 e)]/\H'= []:=by
 obtain ⟨hl,hc⟩:=Er hn h6;have ca:=NB x hx hn h6 hbl hal;have cc:=aW x (XG x) false hx hn Za (fun c h=>(hc c h).1) Za;rw [show Uf (VM x) (2^x.orders.length-1) x.types.length=XG x from rfl] at ca;generalize XG x=L at ca cc ⊢;refine Zf [] Tryz.func47 rfl Zil ?_;simp (disch:=omega) only [Tryz.f47,go_sem,seval];refine Wv ca (Zc ?_);refine GH cc fun p c e hR=>Zc ?_;exact ⟨.tup [.p (JI p),.p (.int .i64 c),.p (.int .i64 e)],[],wk,p,c,e,hR,rfl,rfl⟩
theorem bY (x:Inst) (hx:InstOk x) (hn:x.orders.length<=4) (h6:x.types.length<=6) (hbl:x.before.length<=1048576)
  (hsk: ∀k,k<x.orders.length->(nth x.orders k).off=false->0<=(nth x.orders k).penalty->0<=skR x k/\skR x k<=18014398509481984) (hus: ∀i,scoR 1152921504606846976 (unsF x i).1) :
  ACalls Tryz.prog 12 [.p (Zv x)] [] fun y H'=> ∃p c e,Me x (XG x) p c e/\y= .tup [.p (JI p),.p (.int .i64 c),.p (.int .i64 e)]/\H'= []:=by
 obtain ⟨hl,hc⟩:=Er hn h6;have ca:=oM x hx hn h6 hbl;have cc:=MD x (XG x) false hn h6 Za (fun c h=>(hc c h).1) hsk hus;rw [show Uf (VM x) (2^x.orders.length-1) x.types.length=XG x from rfl] at ca;generalize XG x=L at ca cc ⊢;refine Zf [] Tryz.func12 rfl ZhV ?_;simp (disch:=omega) only [Tryz.f12,go_sem,seval];refine Wv ca (Zc ?_);refine GH cc fun p c e hR=>Zc ?_;exact ⟨.tup [.p (JI p),.p (.int .i64 c),.p (.int .i64 e)],[],wk,p,c,e,hR,rfl,rfl⟩
theorem Sy {x:Inst} {r:Rte} (h0:r.start=0) (hz:r.rests= []):YH x r=YH x (Q6 r.typ r.visits):=by
 cases r
 simp only at h0 hz;subst h0;subst hz;rfl
theorem fZ {x:Inst} (hx:InstOk x) {r:Rte} (he:(YH x r).2=0) (hty:0<=r.typ/\r.typ<(x.types.length:Int)) (h0:r.start=0) (hz:r.rests= []) :
  ∃j,j<(XG x).length/\(nth (XG x) j).typ=r.typ/\(nth (XG x) j).set=((Xt r.visits:Nat):Int)/\(nth (XG x) j).price<=(YH x r).1:=by
 obtain ⟨k,hk⟩: ∃k:Nat,r.typ=(k:Int):=⟨r.typ.toNat,Za⟩
 have hkl:k<x.types.length:=Za
 have hok:FY x (k:Int) r.visits=true:=by
  grind [FY,Sy]
 have hr:RightV x r.visits:=WI (r:=Q6 (k:Int) r.visits) (Um hok)
 have hopn:0<=(nth x.types (k:Int).toNat).opn:=by
  simp_all [WS]
 obtain ⟨g1,g2,g3⟩:=TA hx (k:=(k:Int)) (m:=r.visits) hopn hok (WD,false)
 have hv:VU x (k:Int) (Xt r.visits)=((Ee x (k:Int) (Xt r.visits) (WD,false)).1,0):=by
  simp_all [VU]
 have hS:Xt r.visits<2^x.orders.length:=by
  rcases Nat.div_eq_zero_iff.1 (hr.lt (XJ hx)).2 with h | h
  ·grind [pw]
  ·exact h
 have hmem:(VU x (k:Int) (Xt r.visits)).1∈XG x:=BS.2 ⟨k,Xt r.visits,hkl,Nat.pos_of_ne_zero (NA hr),hS,by rw [hv],rfl⟩;obtain ⟨m,_,_,m3⟩:=Di (x:=x) (k:=(k:Int)) (S:=Xt r.visits) (by rw [hv]);obtain ⟨j,hj,e⟩:=List.getElem_of_mem hmem;refine ⟨j,hj,?_⟩;rw [Zh hj,e];refine ⟨by rw [m3,hk];rfl,by rw [m3];rfl,?_⟩
 grind [Sy]
end Go.Proofs.YtenjikkmmibffaaGreatDoor.K
