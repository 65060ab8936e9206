/- Declarations that the closing texts need, part 17: joined by tools/slim.py. -/
import Derived.Test.YtjkkdmeebhjaiaaGreatDoorS16
import Derived.Shelf.SlSortCmp.NoneTotal
set_option linter.unusedVariables false
set_option linter.unusedSimpArgs false
namespace Go.AM
open Go.RowKit Go.Shelf Go.Lib Go.Sort Go.Proofs
theorem iL {W w':World} {H':List AM.Obj} {ι':List (Option Nat)} (g:Good AX [] [] W H' ι' w'): ∃q os',w'=grow (W.drewN q) os':=by
 refine ⟨w'.drawn-W.drawn,w'.heap.extract W.heap.size w'.heap.size,?_⟩
 have h1:w'.heap=W.heap++w'.heap.extract W.heap.size w'.heap.size:=by
  apply Array.ext_getElem?;intro i
  by_cases hi:i<W.heap.size
  ·rw [Dv hi];exact g.keep i hi Zb
  ·rw [Array.getElem?_append_right Za];have:=g.size;rw [Array.getElem?_extract]
   split
   ·congr 1;omega
   ·rw [Array.getElem?_eq_none Za]
 have h2:W.drawn<=w'.drawn:=g.tape.2.resolve_right fun h=>h;have h3:=g.tape.1;have h4:=g.os;have h5:=g.output
 cases w'
 simp only [grow,World.drewN] at *
 congr 1
 omega
def PU (c:Array Value) (k i:Nat):List Value:=(List.range k).map fun j=>c.getD (i*k+j) undef
theorem Gb (c k i):(PU c k i).length=k:=by simp [PU]
theorem CS {c k i j} (h:j<k):(PU c k i)[j]! =c.getD (i*k+j) undef:=by
 rw [List.getElem!_eq_getElem?_getD,PU,Xh,List.getElem?_range h];rfl
theorem ACalls.sortFunc {P : Program} {ρ : Ren} (L : SlLaysF0.n6 P ρ) (hg : Zi P (ρ.f 6)) (k : Nat) (aE : ∀ w, (isAgg (ρ.t 24)).run P w = .ok true w) (zE : ∀ w, (Go.sizeOf (ρ.t 24)).run P w = .ok k w)
    {β : Type} [Inhabited β] (f : β -> PV) (hf : ∀ x, ∃ cs, f x = .agg cs /\ cs.length = k /\ cs.all (·.one) = true) (cf : β -> β -> Int) (hO : SWO (ltOf cf)) (g : FuncId)
    (hcmp : ∀ x y, ACalls P g [.p (f x), .p (f y)] [] fun r H' => r = .p (.int .i64 (cf x y)) /\ H' = []) (xs : List β) (hlen : xs.length < 4611686018427387904) {H : List AM.Obj} {o : Nat} (hHo : H[o]? = some (.elems k (xs.map f))) :
    ACalls P (ρ.f 6) [.sl o 0 xs.length xs.length, .fn (.func g) [] []] H fun y H' => y = .tup [] /\ ∃ ys : List β, ys.Perm xs /\ ys.Pairwise (fun a b => ¬ cf b a < 0) /\ H' = H.set o (.elems k (ys.map f)) := by
  refine ⟨hg, fun F ι w vs hr hv => ?_⟩;obtain ⟨hv1, hv2⟩ := hv;have h0 := hv2 0 _ rfl;have h1 := hv2 1 _ rfl
  have hvs : vs = #[vs.getD 0 undef, vs.getD 1 undef] := by
    apply Array.ext
    · simpa using hv1
    · intro i h2 h3
      have : i = 0 \/ i = 1 := by simp at hv1; omega
      rcases this with rfl | rfl <;> simp [Array.getD, h2]
  rw [hvs];generalize vs.getD 0 undef = v0 at h0 ⊢;generalize vs.getD 1 undef = v1 at h1 ⊢;clear hvs hv1 hv2
  cases h1 with | fn _ _ _ a e hs ht _ _ =>
  have ea : a = #[] := Ex (by simpa using hs);have ee : e = #[] := Ex (by simpa using ht);subst ea; subst ee;generalize hL : xs.length = n at h0 hlen
  by_cases hz : n = 0
  · subst hz
    obtain rfl : xs = [] := List.length_eq_zero_iff.1 hL
    have e1 : H.set o (.elems k (([] : List β).map f)) = H := by
      apply JU;intro i;rw [Q0]
      split
      · rename_i hi; subst hi; rw [hHo]; simp [(ZS.1 hHo).1]
      · rfl
    obtain ⟨ad, cap, rfl⟩ : ∃ ad cap, v0 = .slice ad 0 cap := by
      cases h0 with
      | slNil => exact ⟨_, _, rfl⟩
      | sl => exact ⟨_, _, rfl⟩
      | slD _ _ _ _ _ hd => rw [hHo] at hd; cases hd
      | slS _ _ _ _ _ S2 xs2 hd hne => rw [hHo] at hd; simp at hd; obtain ⟨_, rfl⟩ := hd; simp at hne
      | slC _ _ _ _ _ _ hd => rw [hHo] at hd; cases hd
    refine (AnyF.slices_SortFunc_none L ad cap _ w).mono ?_;rintro e w' ⟨rfl, rfl⟩;exact ⟨.tup [], _, ι, _, rfl, ⟨rfl, [], .refl _, .nil, e1.symm⟩, Good.refl hr, .tup [] #[] Zb Zb⟩
  have hn : 0 < n := Za
  cases h0 with
  | slNil => omega
  | slD _ _ _ _ _ hd => rw [hHo] at hd; cases hd
  | slS _ _ _ _ _ S ys hd hlt => rw [hHo] at hd; simp at hd; obtain ⟨_, rfl⟩ := hd; simp at hlt; omega
  | slC _ _ _ _ _ _ hd => rw [hHo] at hd; cases hd
  | sl _ _ _ _ b S cap t ys c hι hH ht2 hw hcap hl hle hm =>
  rw [hHo] at hH;simp at hH;obtain ⟨rfl, rfl⟩ := hH;rcases hr.elm o k (xs.map f) hHo with ⟨e1, _⟩ | ⟨b2, c2, t2, cap2, e1, e2, e3, e4, e5, e6, e7⟩
  · rw [hι] at e1; cases e1
  rw [hι] at e1;simp at e1; subst e1;rw [hw] at e2;simp at e2;obtain ⟨rfl, rfl⟩ := e2;have hbs : b < w.heap.size := (hr.avo o b hι).2;have hbF : ¬ F b := (hr.avo o b hι).1
  -- an index, made one that there is
  let ix : Nat -> Nat := fun i => if i < n then i else 0
  have hix : ∀ i, ix i < n := fun i => by simp only [ix]; split <;> omega
  have hixe : ∀ i, i < n -> ix i = i := fun i hi => by simp only [ix]; rw [if_pos hi]
  let enc : Nat -> List Value := fun i => PU c k (ix i)
  have hk : ∀ x, (enc x).length = k := fun x => Gb _ _ _
  -- one cell of an element
  have cell : ∀ i, i < n -> ∃ cs, f (nth xs i) = .agg cs /\ cs.length = k /\ ∀ (j : Nat) (y : PV), cs[j]? = some y -> y.one = true /\ RP (Own F ι) w y (c.getD (i * k + j) undef) := fun i hi => by
    obtain ⟨cs, q1, q2, q3⟩ := hf (nth xs i);refine ⟨cs, q1, q2, fun j y hj => ⟨ZD.1 q3 y (Xw hj), ?_⟩⟩;refine e7 i (f (nth xs i)) j y ?_ (by rw [q1]; exact hj);rw [Xh, QZ Za, Zj Za]; rfl
  have one : ∀ x, ∀ v ∈ enc x, v.oneCell' = true := fun x v hv => by
    obtain ⟨j, hj, rfl⟩ := ZO.1 hv
    have hjk : j < k := by rw [hk] at hj; exact hj
    obtain ⟨cs, q1, q2, q3⟩ := cell (ix x) (hix x);have hg := q3 j (cs[j]'(Za)) Zb
    have e9 : (enc x)[j] = c.getD (ix x * k + j) undef := by
      have := CS (c := c) (i := ix x) hjk;rw [List.getElem!_eq_getElem?_getD, QZ (by rw [Gb]; exact hjk)] at this;exact this
    rw [e9];exact hg.2.oneCell hg.1
  let d : Array Nat := Array.range n
  have hd : d.size = n := by simp [d]
  let cf' : Nat -> Nat -> Int := fun i j => cf (nth xs (ix i)) (nth xs (ix j))
  have hO' : SWO (ltOf cf') := ⟨fun x => hO.irrefl _, fun x y z h1 h2 => hO.trans _ _ _ h1 h2, fun x y z h1 h2 => hO.ntrans _ _ _ h1 h2⟩
  have hsz : n * k <= c.size := by
    rw [e3]; exact Yl k (by simpa [hL] using e4)
  have hcell : ∀ j, j < c.size -> w.cell? ⟨b, j, none⟩ = some (c.getD j undef) := fun j hj => by
    simp [World.cell?, hw, hj]
  have hHolds : HoldsK enc k w b (0 * k) d := fun j hj => by
    have hj2 : j < n * k := by simpa [hd] using hj
    have k0 : 0 < k := by rcases Nat.eq_zero_or_pos k with h | h; · subst h; simp at hj2
                          · exact h
    rw [get_flatK enc k d j (by rw [hd]; exact hj2)];have hdj : j / k < n := Nat.div_lt_of_lt_mul (by rw [AA]; exact hj2)
    have hde : d[j / k]! = j / k := by simp [d, hdj]
    rw [hde]
    have e9 : (enc (j / k))[j % k]! = c.getD j undef := by
      show (PU c k (ix (j / k)))[j % k]! = _
      rw [hixe _ hdj, CS (Nat.mod_lt _ k0), Nat.div_add_mod']
    rw [e9, Nat.zero_mul, Xi];exact ⟨hcell j Za, by simp [World.frozen?, hw]⟩
  have hcmp' : CmpLays P g #[] enc k cf' b (0 * k) d.size w := fun m os dk hdk x y => by
    generalize hW : sortWorldK enc k w b (0 * k) m dk os = W
    have hKeep : Keeps (Own F ι) w AX W := fun b' hb' hs' => by
      have hne : b' ≠ b := fun e => hb' (.inr (e ▸ Xw hι));refine ⟨fun h => h, ?_, ?_⟩
      · rw [<- hW]; simp [sortWorldK, grow, putRowK, putRow, mapBlock, ahead]; omega
      · rw [<- hW]
        simp only [sortWorldK, grow, putRowK, putRow, mapBlock, ahead];rw [Dv (by simpa using hs'), EC, if_neg (fun e => hne e.symm)]
        rfl
    have heW : Env AX [] W := (hr.env.of (w' := W) (ι' := ι) (by rw [<- hW]; simp [sortWorldK, grow, putRowK, putRow, mapBlock, ahead]) (fun b' hb' hni => by
      have hne : b' ≠ b := fun e => hni (e ▸ Xw hι);rw [<- hW];simp only [sortWorldK, grow, putRowK, putRow, mapBlock, ahead];rw [Dv (by simpa using hb'), EC, if_neg (fun e => hne e.symm)]
      rfl) (fun _ _ h => h)).noth
    have arg : ∀ i, RV AX [] [] W (.p (f (nth xs (ix i)))) (.agg (enc i).toArray) := fun i => by
      obtain ⟨cs, q1, q2, q3⟩ := cell (ix i) (hix i);refine .p _ _ ?_;rw [q1]
      refine (RP.agg cs (enc i).toArray (by simp [hk, q2]) fun j y hj => ?_ : RP AX W _ _).weaker fun b hb => by
        rcases hb with hb | hb
        · exact hb
        · simp at hb
      have hjk : j < k := by rw [<- q2]; exact (ZS.1 hj).1
      have e9 : (enc i).toArray.getD j undef = c.getD (ix i * k + j) undef := by
        have := CS (c := c) (i := ix i) hjk;rw [List.getElem!_eq_getElem?_getD, QZ (by rw [Gb]; exact hjk)] at this;simp only [XA, Cq];rw [QZ (by rw [hk]; exact hjk), JX];rw [JX] at this;simpa only [XA] using this
      rw [e9];exact (q3 j y hj).2.ext hKeep
    refine ((hcmp (nth xs (ix x)) (nth xs (ix y))).2 AX [] W _ (Gf heW) ⟨rfl, fun j q hj => ?_⟩).mono ?_
    · cases j with
      | zero => simp at hj; subst hj; exact arg x
      | succ j => cases j with
        | zero => simp at hj; subst hj; exact arg y
        | succ j => simp at hj
    · rintro e' w' ⟨x', H', ι', v, rfl, ⟨rfl, rfl⟩, gd, rv⟩
      cases rv with | p _ _ rp =>
      rw [rp.int_inv];exact ⟨rfl, iL gd⟩
  have eg := (hcmp default default).1;have main := AnyQ.slices_SortFunc L k aE zE enc hk one cf' hO' g #[] b (0 * k) cap d w (fun args w => eg args w) hcmp' hHolds hbs (by rw [hd]; exact hlen);rw [hd] at main;refine main.mono ?_;rintro e' w' ⟨rfl, d', m, os, hp, hso, rfl⟩;obtain ⟨p1, _, p3⟩ := hp;rw [hd] at p1
  have hperm : d'.toList.Perm (List.range n) := by
    have e8 : (d'.extract 0 n).toList = d'.toList := by rw [<- p1]; simp
    have e9 : (d.extract 0 n).toList = List.range n := by
      have : d.extract 0 n = d := by rw [<- hd]; simp
      rw [this]; simp [d]
    rw [e8, e9] at p3; exact p3
  have hlt : ∀ i ∈ d'.toList, i < n := fun i hi => by simpa using hperm.mem_iff.1 hi
  have hlt2 : ∀ i, i < n -> d'.toList[i]?.isSome = true := fun i hi => by simp [p1, hi]
  have hget : ∀ i (hi : i < n), d'[i]! = d'.toList[i]'(by simp [p1, hi]) := fun i hi => by
    rw [getElem!_pos d' i Za]; simp
  let ys : List β := d'.toList.map (nth xs)
  have hyl : ys.length = n := by simp [ys, p1]
  have hys : ∀ i (hi : i < n), ys[i]'(Za) = nth xs d'[i]! := fun i hi => by
    simp only [ys, Cv]; rw [hget i hi]
  have hdl : ∀ i, i < n -> d'[i]! < n := fun i hi => by rw [hget i hi]; exact hlt _ (JW _)
  have yperm : ys.Perm xs := by
    have h9 : (List.range n).map (nth xs) = xs := by
      refine Qc (by simp [hL]) fun i h1 h2 => ?_;simp only [Cv, List.getElem_range];rw [Zj h2]
    have := hperm.map (nth xs);rw [h9] at this; exact this
  have ysort : ys.Pairwise fun a b => ¬ cf b a < 0 := by
    rw [KK];intro i j hi hj hij;rw [hys i Za, hys j Za];have h9 := hso i j (J1 _) hij Za;simp only [ltOf, cf', X3] at h9;rwa [hixe _ (hdl j Za), hixe _ (hdl i Za)] at h9
  let c' : Array Value := putCells id (0 * k) (flatK enc k d') c
  have hcs : c'.size = c.size := by simp [c', putCells]
  have hat : (sortWorldK enc k w b (0 * k) m d' os).heap[b]? = some (.cells c' t (0, 0)) := by
    simp only [sortWorldK, grow, putRowK, putRow, mapBlock, ahead];rw [Dv (by simpa using hbs), EC, if_pos rfl]
    show Option.map _ w.heap[b]? = _
    rw [hw]; rfl
  have hoth : ∀ q, q < w.heap.size -> q ≠ b -> (sortWorldK enc k w b (0 * k) m d' os).heap[q]? = w.heap[q]? := fun q hq hne => by
    simp only [sortWorldK, grow, putRowK, putRow, mapBlock, ahead];rw [Dv (by simpa using hq), EC, if_neg (fun e => hne e.symm)]
    rfl
  have hc' : ∀ i j, i < n -> j < k -> c'.getD (i * k + j) undef = c.getD (d'[i]! * k + j) undef := fun i j hi hj => by
    have hb1 : i * k + j < n * k := by
      have := Yl k (show i + 1 <= n from hi);rw [XB, VT] at this; omega
    have e8 : (flatK enc k d')[i * k + j]! = c.getD (d'[i]! * k + j) undef := by
      rw [get_flatK enc k d' _ (by rw [p1]; exact hb1)]
      have q1 : (i * k + j) / k = i := by rw [AA, Nat.mul_add_div Za, QA hj]; omega
      have q2 : (i * k + j) % k = j := by rw [AA, Nat.mul_add_mod, Cw hj]
      rw [q1, q2]
      show (PU c k (ix d'[i]!))[j]! = _
      rw [CS hj, hixe _ (hdl i hi)]
    have e9 : c'[i * k + j]? = some ((flatK enc k d')[i * k + j]!) := by
      simp only [c', putCells, Array.getElem?_mapIdx];rw [Array.getElem?_eq_getElem Za];simp only [Au, Nat.zero_mul, J1, true_and, Xi, size_flatK, p1, hb1, if_true, Nat.sub_zero, id]
    rw [XA, e9, JX, e8]
  have good := YF (w' := sortWorldK enc k w b (0 * k) m d' os) (c := c') (t := t) (xs' := ys.map f) (cap := cap2) (b' := b) hr (o := o) (S := k) (xs := xs.map f) hHo rfl (Tp.of rfl (by simp [sortWorldK, grow, putRowK, putRow, mapBlock, ahead])) rfl
    (fun c0 t0 h => by rw [hw] at h; simp at h; obtain ⟨rfl, rfl⟩ := h; exact ⟨rfl, hcs⟩) (by simp [sortWorldK, grow, putRowK, putRow, mapBlock, ahead]) hat hoth (.inl ⟨hι, .inl ⟨by simp [hyl, hL], fun c0 t0 h => by rw [hw] at h; simp at h; obtain ⟨rfl, rfl⟩ := h; exact ⟨rfl, hcs⟩⟩⟩)
    (by rw [hcs]; exact e3) (by simp only [Zx, hyl]; simpa [hL] using e4) e5
    (fun i x hi => by
      rw [Xh, ZV] at hi;obtain ⟨y, _, rfl⟩ := hi;obtain ⟨cs, q1, q2, _⟩ := hf y
      rw [q1]; exact q2)
    (fun i x j y hi hj => by
      rw [Xh, ZV] at hi;obtain ⟨z, hz, rfl⟩ := hi
      have hin : i < n := by have := (ZS.1 hz).1; omega
      have e8 : z = nth xs d'[i]! := by
        obtain ⟨h9, h10⟩ := ZS.1 hz;rw [<- h10]; exact hys i hin
      obtain ⟨cs, q1, q2, q3⟩ := cell _ (hdl i hin);rw [e8, q1] at hj
      have hjk : j < k := by rw [<- q2]; exact (ZS.1 hj).1
      rw [hc' i j hin hjk]
      exact (q3 j y hj).2)
  have ZK : ι.set o (some b) = ι := by
    refine JU fun i => ?_;rw [Q0]
    split
    · rename_i e; subst e
      have := (ZS.1 hι).1;rw [if_pos this, hι]
    · rfl
  rw [ZK] at good;exact ⟨.tup [], _, ι, .tuple #[], rfl, ⟨rfl, ys, yperm, ysort, rfl⟩, good, .tup [] #[] rfl (fun j c hj => by simp at hj)⟩
end Go.AM
namespace Go.Proofs.YtjkkdmeebhjaiaaGreatDoor.K
open Go Go.AM Go.Proofs
set_option maxRecDepth 8000
set_option maxHeartbeats 8000000
deriving instance DecidableEq for Itm
theorem XE {v w:Itm} :v=w↔v.kind=w.kind/\v.a=w.a:=by cases v;cases w;simp
def Fs (a b:Itm):Int:=if WH a.kind b.kind=0 then WH a.a b.a else WH a.kind b.kind
theorem MD (a b:Itm):PC 62 [.p (Xg a),.p (Xg b)] (.int .i64 (Fs a b)):=by
 refine Zc Tryz.func62 rfl ZiH ?_;simp (disch:=omega) only [Tryz.f62,go_sem,seval];refine Xd ?_;simp (disch:=omega) only [go_sem,seval];refine Zn (DZ a.kind b.kind) ?_;simp (disch:=omega) only [go_sem,seval];refine Zn (DZ a.a b.a) ?_;simp (disch:=omega) only [go_sem,seval];refine Zn (rR [WH a.kind b.kind,WH a.a b.a] false Zb) ?_;simp (disch:=omega) only [go_sem,seval];rw [ER,Fs]
def Ly (x:Inst) (o:Int):Bool:=decide (o<0)||decide ((x.orders.length:Int)<=o)||(nth x.orders o.toNat).off
theorem Lw (x:Inst) (o:Int) (hl:x.orders.length<=1048576):PC 60 [.p (Zq x),.p (.int .i64 o)] (.bool (Ly x o)):=by
 refine Zc Tryz.func60 rfl ZiF ?_;simp (disch:=omega) only [Tryz.f60,go_sem,seval];refine gF ?_ ?_<;>intro h<;>simp (disch:=omega) only [Sh.out h,go_sem,seval]
 ·simp [Ly,h]
 ·refine gF ?_ ?_<;>intro h2<;>simp (disch:=omega) only [Sh.out h2,go_sem,seval]
  ·simp [Ly,h2]
  ·simp [Ly,h,h2]
def jE (x:Inst) (i:Nat):List Itm:=if (nth x.orders i).off=true then [] else
 (if (nth x.orders i).pick.place≠ -1 then [⟨1,i⟩] else [])++(if (nth x.orders i).drp.place≠ -1 then [⟨2,i⟩] else [])++(if (nth x.orders i).skills≠0 then [⟨4,i⟩] else [])++(if (nth x.orders i).penalty= -1 then [⟨10,i⟩] else [])
def Dr (x:Inst) (k:Nat):List Itm:=(List.range k).flatMap (jE x)
theorem HD (x k):Dr x (k+1)=Dr x k++jE x k:=by simp [Dr,X8]
theorem qR (x i):(jE x i).length<=4:=by
 unfold jE
 split
 ·simp
 ·simp only [Zz]
  split<;>split<;>split<;>split<;>simp
theorem Ce (x): ∀k,(Dr x k).length<=4*k
 | 0=>by simp [Dr]
 | k+1=>by
  have h1:=Ce x k;have h2:=qR x k;rw [HD,Zz];omega
def hO (x:Inst) (m:List Itm) (i:Nat):List AM.Obj:= [Zf x,.cells [.sl 2 0 m.length m.length],.elems 2 (m.map Xg),.cells [.p (.int .i64 (i:Nat))]]
theorem En (x:Inst) (m:List Itm) (i:Nat) (has:Bool) (kind:Int) (hm:m.length<=1048576):ACalls Tryz.prog 88 [.p (.bool has),.p (.int .i64 kind),.ptr 1 0,.ptr 3 0] (hO x m i) fun y H'=>y= .tup []/\H'=hO x (if has=true then m++ [⟨kind,i⟩] else m) i:=by
 refine Ze [] Tryz.func88 rfl Zi4 ?_
 cases has with
 | true =>
  simp (disch:=omega) only [Tryz.f88,hO,Zf,go_sem,seval];exact ⟨.tup [],hO x (m++ [⟨kind,i⟩]) i,Weak.mk (by simp (disch:=omega) only [hO,Zf,go_sem,seval]),rfl,by simp [hO,Zf,Xg]⟩
 | false =>
  simp (disch:=omega) only [Tryz.f88,hO,Zf,go_sem,seval];exact ⟨.tup [],hO x m i,Weak.mk (by simp (disch:=omega) only [hO,Zf,go_sem,seval]),rfl,by simp [hO,Zf]⟩
theorem Lv (x:Inst) (hl:x.orders.length<=1000):ACalls Tryz.prog 59 [.p (Zq x)] [] fun y H'=> ∃m:List Itm,m=Dr x x.orders.length/\y= .sl 0 0 m.length m.length/\H'= [.elems 2 (m.map Xg)]:=by
 refine ZG [2] Tryz.func59 rfl ZiE ?_;simp (disch:=omega) only [Tryz.f59,go_sem,seval];refine Zo (Weak.nilC (o:=1) (j:=0) 2 rfl rfl Zb) ?_;refine Zh [] _ _ _ _ ?_;simp (disch:=omega) only [ZL,ZC,ZM,ZE,go_sem,seval];refine Zl [3,8,9] (fun q:Nat×List Itm=> [(10,.p (.int .i64 q.1))]) (fun q=> [Zf x,.cells [.sl 2 0 q.2.length q.2.length],.elems 2 (q.2.map Xg)]) (fun q=>q.1<=x.orders.length/\q.2=Dr x q.1) (fun q=>x.orders.length-q.1) (0,[]) ⟨Zb,by simp [Dr]⟩ (Weak.mk ?_) ?_
 ·simp (disch:=omega) only [Zf,go_sem,seval]
 ·rintro ⟨i,m⟩ ⟨hi,hm⟩;simp only at hi hm
  have hml:m.length<=4*i:=by rw [hm];exact Ce x i
  have hsc:=HD x i;simp (disch:=omega) only [Zf,go_sem,seval];refine cD ?_ ?_<;>intro h<;>simp (disch:=omega) only [Sh.out h,go_sem,seval]
  ·have hi2:i<x.orders.length:=Za
   refine cD ?_ ?_<;>intro h2<;>simp (disch:=omega) only [Sh.out h2,go_sem,seval]
   ·exact ⟨(i+1,m),⟨by simp only;omega,by simp only [hsc,jE,h2,if_true,hm,Yw]⟩,by simp only;omega,Weak.mk (by simp (disch:=omega) only [Zf,go_sem,seval])⟩
   ·have c1:=En x m i (decide ((nth x.orders i).pick.place≠ -1)) 1 Za
    have ifl: ∀ {c:Prop} [Decidable c] (m:List Itm) (v:Itm),(if decide c=true then m++ [v] else m)=m++(if c then [v] else []):=fun {c} _ m v=>by by_cases h:c<;>simp [h]
    have ifn: ∀ {c:Prop} [Decidable c] (v:Itm),(if c then [v] else []).length<=1:=fun {c} _ v=>by split<;>simp
    rw [ifl] at c1;refine c1.useP (L:= [_]) (by rfl) ?_ (by rfl) (by rfl);have n1:=ifn (c:=(nth x.orders i).pick.place≠ -1) ⟨1,i⟩;have n2:=ifn (c:=(nth x.orders i).drp.place≠ -1) ⟨2,i⟩;have n3:=ifn (c:=(nth x.orders i).skills≠0) ⟨4,i⟩;have n4:=ifn (c:=(nth x.orders i).penalty= -1) ⟨10,i⟩
    have hit:jE x i=(if (nth x.orders i).pick.place≠ -1 then [⟨1,i⟩] else [])++(if (nth x.orders i).drp.place≠ -1 then [⟨2,i⟩] else [])++(if (nth x.orders i).skills≠0 then [⟨4,i⟩] else [])++(if (nth x.orders i).penalty= -1 then [⟨10,i⟩] else []):=by rw [jE,if_neg (by rw [h2];simp)]
    generalize hA:(if (nth x.orders i).pick.place≠ -1 then [(⟨1,i⟩:Itm)] else [])=A at hit n1 c1 ⊢;have c2:=En x (m++A) i (decide ((nth x.orders i).drp.place≠ -1)) 2 (by simp;omega);rw [ifl] at c2;generalize (if (nth x.orders i).drp.place≠ -1 then [(⟨2,i⟩:Itm)] else [])=B at hit n2 c2;have c3:=En x (m++A++B) i (decide ((nth x.orders i).skills≠0)) 4 (by simp;omega);rw [ifl] at c3;generalize (if (nth x.orders i).skills≠0 then [(⟨4,i⟩:Itm)] else [])=C at hit n3 c3;have c4:=En x (m++A++B++C) i (decide ((nth x.orders i).penalty= -1)) 10 (by simp;omega)
    rw [ifl] at c4;generalize (if (nth x.orders i).penalty= -1 then [(⟨10,i⟩:Itm)] else [])=D at hit n4 c4;generalize hm1:m++A=m1 at c2 c3 c4 ⊢;generalize hm2:m1++B=m2 at c2 c3 c4 ⊢;generalize hm3:m2++C=m3 at c3 c4 ⊢;generalize hm4:m3++D=m4 at c4;simp (disch:=omega) only [hO,Zf,YD,go_sem,seval];refine c2.useP (L:= [_]) (by rfl) ?_ (by rfl) (by rfl);simp (disch:=omega) only [hO,Zf,YD,go_sem,seval];refine c3.useP (L:= [_]) (by rfl) ?_ (by rfl) (by rfl);simp (disch:=omega) only [hO,Zf,YD,go_sem,seval];refine c4.useP (L:= [_]) (by rfl) ?_ (by rfl) (by rfl)
    simp (disch:=omega) only [hO,Zf,YD,go_sem,seval];refine ⟨(i+1,m4),⟨by simp only;omega,?_⟩,by simp only;omega,Weak.mk (by simp (disch:=omega) only [hO,Zf,YD,go_sem,seval])⟩;simp only [hsc,hit,<- hm4,<- hm3,<- hm2,<- hm1,hm,Vr]
  ·have hin:i=x.orders.length:=Za
   subst hin;exact ⟨m,hm,2,by simp (disch:=omega) only [Zf,go_sem,seval]⟩
def jF (k:Nat):List Itm:=(List.range k).flatMap fun (i:Nat)=> [⟨3,i⟩,⟨7,i⟩,⟨8,i⟩,⟨9,i⟩]
def G2 (x:Inst) (i:Nat):List Itm:=if (!Ly x (nth x.apart i).1&& !Ly x (nth x.apart i).2)=true then [⟨5,i⟩] else []
def jC (x:Inst) (k:Nat):List Itm:=(List.range k).flatMap (G2 x)
def Ld (x:Inst) (i:Nat):List Itm:=if (!Ly x (nth x.before i).2)=true then [⟨6,i⟩] else []
def jD (x:Inst) (k:Nat):List Itm:=(List.range k).flatMap (Ld x)
def G5 (x:Inst):List Itm:=Dr x x.orders.length++jF x.types.length++jC x x.apart.length++jD x x.before.length
theorem Na (k):jF (k+1)=jF k++ [⟨3,k⟩,⟨7,k⟩,⟨8,k⟩,⟨9,k⟩]:=by simp [jF,X8]
theorem Cd (x k):jC x (k+1)=jC x k++G2 x k:=by simp [jC,X8]
theorem FJ (x k):jD x (k+1)=jD x k++Ld x k:=by simp [jD,X8]
theorem Eu : ∀k,(jF k).length=4*k
 | 0=>by simp [jF]
 | k+1=>by rw [Na,Zz,Eu k];simp;omega
theorem Lc (x): ∀k,(jC x k).length<=k
 | 0=>by simp [jC]
 | k+1=>by
  have h1:=Lc x k
  have h2:(G2 x k).length<=1:=by unfold G2;split<;>simp
  rw [Cd,Zz];omega
theorem Le (x): ∀k,(jD x k).length<=k
 | 0=>by simp [jD]
 | k+1=>by
  have h1:=Le x k
  have h2:(Ld x k).length<=1:=by unfold Ld;split<;>simp
  rw [FJ,Zz];omega
theorem UN {a b:Itm} :Fs a b<0↔a.kind<b.kind\/(a.kind=b.kind/\a.a<b.a):=by
 unfold Fs
 split
 ·rename_i h;rw [Dk] at h;rw [RK];omega
 ·rename_i h;rw [Dk] at h;rw [RK];omega
theorem fV : Go.Sort.SWO (ltOf Fs) where
 irrefl x:=by simp only [ltOf,X3,UN];omega
 trans x y z h1 h2:=by simp only [ltOf,Zr,UN] at *;omega
 ntrans x y z h1 h2:=by simp only [ltOf,X3,UN] at *;omega
theorem N8 (xs:List Itm) (hne:xs≠ []) (hl:xs.length<=1048576) {H:List AM.Obj} {o:Nat} (hH:H[o]? =some (.elems 2 (xs.map Xg))) :
  ACalls Tryz.prog 61 [.sl o 0 xs.length xs.length,.fn (.func 62) [] []] H fun y H'=>y= .tup []/\ ∃ys:List Itm,ys.Perm xs/\ys.Pairwise (fun a b=> ¬Fs b a<0)/\H'=H.set o (.elems 2 (ys.map Xg)) :=
 ACalls.sortFunc bZ ZiG 2 Tryz.isAgg41 Tryz.sizeOf41 Xg (fun x=>⟨_,rfl,rfl,rfl⟩) Fs fV 62 MD xs Za hH
theorem T3 (x:Inst) (ho:x.orders.length<=1000) (ht:0<x.types.length/\x.types.length<=1000) (ha:x.apart.length<=1000) (hb:x.before.length<=1000):ACalls Tryz.prog 31 [.p (Zq x)] [] fun y H'=> ∃m:List Itm,(m.Perm (G5 x)/\m.Pairwise (fun a b=> ¬Fs b a<0))/\y= .sl 0 0 m.length m.length/\H'= [.elems 2 (m.map Xg)]:=by
 refine ZG [] Tryz.func31 rfl Zif ?_;simp (disch:=omega) only [Tryz.f31,go_sem,seval];obtain ⟨os,hos⟩: ∃os,os=Dr x x.orders.length:=⟨_,rfl⟩;have hosl:=Ce x x.orders.length;rw [<- hos] at hosl;refine ACalls.useF (S:=2) (n:=os.length) (xs:=os.map Xg) ((Lv x ho).mono fun y H' ⟨m,hm,h1,h2⟩=>by rw [hos,<- hm];exact ⟨h1,h2⟩) ?_;simp (disch:=omega) only [go_sem,seval];obtain ⟨ks,hks⟩: ∃ks:List Int,ks= [3,7,8,9]:=⟨_,rfl⟩
 have hkl:ks.length=4:=by rw [hks];rfl
 have hke:(ks.map eI).length=ks.length:=Zb
 refine Zl [1,15] (fun q:Nat×List Itm=> [(3,.sl 1 0 q.2.length q.2.length),(16,.p (.int .i64 q.1))]) (fun q=> [Zf x,.elems 2 (q.2.map Xg)]) (fun q=>q.1<=x.types.length/\q.2=os++jF q.1) (fun q=>x.types.length-q.1) (0,os) ⟨Zb,by simp [jF]⟩ (Weak.mk ?_) ?_
 ·simp (disch:=omega) only [Zf,go_sem,seval]
 ·rintro ⟨i,m⟩ ⟨hi,hm⟩;simp only at hi hm
  have hml:m.length=os.length+4*i:=by rw [hm,Zz,Eu]
  simp (disch:=omega) only [Zf,go_sem,seval];refine cD ?_ ?_<;>intro h<;>simp (disch:=omega) only [Sh.out h,go_sem,seval]
  ·have hi2:i<x.types.length:=Za
   refine Zl [1,4,15,16,20] (fun q:Nat×List Itm=> [(3,.sl 1 0 q.2.length q.2.length),(19,.sl 2 0 ks.length ks.length),(21,.p (.int .i64 q.1))]) (fun q=> [Zf x,.elems 2 (q.2.map Xg),.elems 1 (ks.map eI)]) (fun q=>q.1<=4/\q.2=m++(ks.take q.1).map fun c=>(⟨c,i⟩:Itm)) (fun q=>4-q.1) (0,m) ⟨Zb,Zb⟩ (Weak.mk ?_) ?_
   ·rw [hks];simp (disch:=omega) only [Zf,Zs,Zk,ZA,ZH,go_sem,seval]
   ·rintro ⟨k,m2⟩ ⟨hk,hm2⟩;simp only at hk hm2
    have hm2l:m2.length=m.length+k:=by rw [hm2];simp;omega
    simp (disch:=omega) only [Zf,go_sem,seval];refine cD ?_ ?_<;>intro h2<;>simp (disch:=omega) only [Sh.out h2,Vm,go_sem,seval]
    ·have hk2:k<ks.length:=Za
     have htk:ks.take (k+1)=ks.take k++ [nth ks k]:=by rw [XZ hk2,Zj hk2]
     simp (disch:=omega) only [hk2,go_sem,seval];exact ⟨(k+1,m2++ [⟨nth ks k,i⟩]),⟨by simp only;omega,by simp only [htk,hm2,Xn,Vr];rfl⟩,by simp only;omega,Weak.mk (by simp (disch:=omega) only [Zf,go_sem,seval])⟩
    ·have hk4:k=4:=Za
     subst hk4;refine ⟨(i+1,m2),⟨by simp only;omega,?_⟩,by simp only;omega,Weak.mk (by simp (disch:=omega) only [Zf,go_sem,seval])⟩;simp only [Na,hm2,hm,Vr];rw [hks];rfl
  ·have hin:i=x.types.length:=Za
   subst hin;clear hi h;refine Zl [1,34,35] (fun q:Nat×List Itm=> [(3,.sl 1 0 q.2.length q.2.length),(36,.p (.int .i64 q.1))]) (fun q=> [Zf x,.elems 2 (q.2.map Xg)]) (fun q=>q.1<=x.apart.length/\q.2=m++jC x q.1) (fun q=>x.apart.length-q.1) (0,m) ⟨Zb,by simp [jC]⟩ (Weak.mk ?_) ?_
   ·simp (disch:=omega) only [Zf,go_sem,seval]
   ·rintro ⟨i,m2⟩ ⟨hi,hm2⟩;simp only at hi hm2
    have hm2l:m2.length<=m.length+i:=by have:=Lc x i;rw [hm2,Zz];omega
    simp (disch:=omega) only [Zf,go_sem,seval];refine cD ?_ ?_<;>intro h<;>simp (disch:=omega) only [Sh.out h,go_sem,seval]
    ·have hi2:i<x.apart.length:=Za
     refine (Lw x (nth x.apart i).1 Za).use ?_;simp (disch:=omega) only [go_sem,seval];refine gT ?_ ?_<;>intro h2<;>simp (disch:=omega) only [Sh.out h2,go_sem,seval]
     ·refine (Lw x (nth x.apart i).2 Za).use ?_;simp (disch:=omega) only [go_sem,seval];refine cD ?_ ?_<;>intro h3<;>simp (disch:=omega) only [Sh.out h3,go_sem,seval]
      ·exact ⟨(i+1,m2++ [⟨5,i⟩]),⟨by simp only;omega,by simp only [Cd,G2,h2,h3,Bool.and_self,if_true,hm2,Vr]⟩,by simp only;omega,Weak.mk (by simp (disch:=omega) only [Zf,go_sem,seval])⟩
      ·exact ⟨(i+1,m2),⟨by simp only;omega,by simp [Cd,G2,h2,h3,hm2]⟩,by simp only;omega,Weak.mk (by simp (disch:=omega) only [Zf,go_sem,seval])⟩
     ·exact ⟨(i+1,m2),⟨by simp only;omega,by simp [Cd,G2,h2,hm2]⟩,by simp only;omega,Weak.mk (by simp (disch:=omega) only [Zf,go_sem,seval])⟩
    ·have hin:i=x.apart.length:=Za
     subst hin;clear hi h;refine Zl [1,60,61] (fun q:Nat×List Itm=> [(3,.sl 1 0 q.2.length q.2.length),(62,.p (.int .i64 q.1))]) (fun q=> [Zf x,.elems 2 (q.2.map Xg)]) (fun q=>q.1<=x.before.length/\q.2=m2++jD x q.1) (fun q=>x.before.length-q.1) (0,m2) ⟨Zb,by simp [jD]⟩ (Weak.mk ?_) ?_
     ·simp (disch:=omega) only [Zf,go_sem,seval]
     ·rintro ⟨i,m3⟩ ⟨hi,hm3⟩;simp only at hi hm3
      have hm3l:m3.length<=m2.length+i:=by have:=Le x i;rw [hm3,Zz];omega
      simp (disch:=omega) only [Zf,go_sem,seval];refine cD ?_ ?_<;>intro h<;>simp (disch:=omega) only [Sh.out h,go_sem,seval]
      ·have hi2:i<x.before.length:=Za
       refine (Lw x (nth x.before i).2 Za).use ?_;simp (disch:=omega) only [go_sem,seval];refine cD ?_ ?_<;>intro h2<;>simp (disch:=omega) only [Sh.out h2,go_sem,seval]
       ·exact ⟨(i+1,m3++ [⟨6,i⟩]),⟨by simp only;omega,by simp only [FJ,Ld,h2,if_true,hm3,Vr]⟩,by simp only;omega,Weak.mk (by simp (disch:=omega) only [Zf,go_sem,seval])⟩
       ·exact ⟨(i+1,m3),⟨by simp only;omega,by simp [FJ,Ld,h2,hm3]⟩,by simp only;omega,Weak.mk (by simp (disch:=omega) only [Zf,go_sem,seval])⟩
      ·have hin:i=x.before.length:=Za
       subst hin
       have hpre:m3=G5 x:=by rw [hm3,hm2,hm,hos];rfl
       have hne:m3≠ []:=fun e=>by have:=ZW List.length hpre;rw [e] at this;simp [G5,Eu] at this;omega
       refine (N8 m3 hne Za (H:=_) (o:=1) rfl).mono ?_;rintro y H' ⟨rfl,ys,h1,h2,rfl⟩;have hyl:ys.length=m3.length:=h1.length_eq;simp (disch:=omega) only [ZL,ZC,go_sem,seval];rw [<- hyl];exact ⟨ys,⟨by rw [<- hpre];exact h1,h2⟩,1,by simp (disch:=omega) only [go_sem,seval]⟩
def UL (x:Inst) (i:Int):Bool:=decide (0<=i)&&decide (i<(x.orders.length:Int))&& !(nth x.orders i.toNat).off
theorem Nu {x o} :Ly x o= !UL x o:=by
 unfold Ly UL
 by_cases h1:o<0
 ·have: ¬ 0<=o:=Za
  simp [h1,this]
 ·by_cases h2:(x.orders.length:Int)<=o
  ·have: ¬o<(x.orders.length:Int):=Za
   simp [h2,this]
  ·have h3:0<=o:=Za
   have h4:o<(x.orders.length:Int):=Za
   simp [h1,h2,h3,h4]
def DA (o:Ord) (kind:Int):Bool:=if kind=1 then decide (0<=o.pick.place) else if kind=2 then decide (0<=o.drp.place) else if kind=4 then decide (o.skills≠0) else decide (o.penalty= -1)
def Yj (x:Inst) (v:Itm):Bool :=
 if v.kind=1\/v.kind=2\/v.kind=4\/v.kind=10 then UL x v.a&&DA (nth x.orders v.a.toNat) v.kind
 else if v.kind=3\/v.kind=7\/v.kind=8\/v.kind=9 then decide (0<=v.a)&&decide (v.a<(x.types.length:Int))
 else if v.kind=5 then decide (0<=v.a)&&decide (v.a<(x.apart.length:Int))&&UL x (nth x.apart v.a.toNat).1&&UL x (nth x.apart v.a.toNat).2
 else if v.kind=6 then decide (0<=v.a)&&decide (v.a<(x.before.length:Int))&&UL x (nth x.before v.a.toNat).2
 else false
theorem Sq {x i} {v:Itm} :v∈jE x i↔(nth x.orders i).off=false/\v.a=(i:Int)/\((v.kind=1/\(nth x.orders i).pick.place≠ -1)\/(v.kind=2/\(nth x.orders i).drp.place≠ -1)\/(v.kind=4/\(nth x.orders i).skills≠0)\/(v.kind=10/\(nth x.orders i).penalty= -1)):=by
 have one: ∀(c:Prop) [Decidable c] (w:Itm),v∈(if c then [w] else [])↔c/\v.kind=w.kind/\v.a=w.a:=fun c _ w=>by
  split<;>simp_all [XE]
 unfold jE
 split
 ·rename_i h;simp [h]
 ·rename_i h;simp only [Xe,one]
  have h2:(nth x.orders i).off=false:=by simpa using h
  simp only [h2,true_and]
  constructor
  ·rintro (((⟨h1,h2,h3⟩ | ⟨h1,h2,h3⟩) | ⟨h1,h2,h3⟩) | ⟨h1,h2,h3⟩)
   ·exact ⟨h3,.inl ⟨h2,h1⟩⟩
   ·exact ⟨h3,.inr (.inl ⟨h2,h1⟩)⟩
   ·exact ⟨h3,.inr (.inr (.inl ⟨h2,h1⟩))⟩
   ·exact ⟨h3,.inr (.inr (.inr ⟨h2,h1⟩))⟩
  ·rintro ⟨h3,(⟨h2,h1⟩ | ⟨h2,h1⟩ | ⟨h2,h1⟩ | ⟨h2,h1⟩)⟩
   ·exact .inl (.inl (.inl ⟨h1,h2,h3⟩))
   ·exact .inl (.inl (.inr ⟨h1,h2,h3⟩))
   ·exact .inl (.inr ⟨h1,h2,h3⟩)
   ·exact .inr ⟨h1,h2,h3⟩
theorem EM {n} {v:Itm} :v∈jF n↔(v.kind=3\/v.kind=7\/v.kind=8\/v.kind=9)/\0<=v.a/\v.a<(n:Int):=by
 simp only [jF,XK,ZP,Z3,Wv,WT,XE]
 constructor
 ·rintro ⟨i,hi,h⟩;rcases h with ⟨h1,h2⟩ | ⟨h1,h2⟩ | ⟨h1,h2⟩ | ⟨h1,h2⟩<;>refine ⟨by simp [h1],Za,Za⟩
 ·rintro ⟨h,h1,h2⟩;refine ⟨v.a.toNat,Za,?_⟩
  have:v.a=(v.a.toNat:Int):=Za
  rcases h with h | h | h | h<;>simp [h,<- this]
theorem Lp {x n} {v:Itm} :v∈jC x n↔v.kind=5/\0<=v.a/\v.a<(n:Int)/\UL x (nth x.apart v.a.toNat).1=true/\UL x (nth x.apart v.a.toNat).2=true:=by
 simp only [jC,XK,ZP,G2,Nu,Bool.not_not,Zv]
 constructor
 ·rintro ⟨i,hi,h⟩
  split at h
  ·rename_i h3;simp only [Z3,Wv,WT,XE] at h
   have e:v.a.toNat=i:=Za
   rw [e];exact ⟨h.1,Za,Za,h3⟩
  ·simp at h
 ·rintro ⟨h,h1,h2,h3⟩;refine ⟨v.a.toNat,Za,?_⟩;rw [if_pos h3];simp only [Z3,Wv,WT,XE];exact ⟨h,Za⟩
theorem Sp {x n} {v:Itm} :v∈jD x n↔v.kind=6/\0<=v.a/\v.a<(n:Int)/\UL x (nth x.before v.a.toNat).2=true:=by
 simp only [jD,XK,ZP,Ld,Nu,Bool.not_not]
 constructor
 ·rintro ⟨i,hi,h⟩
  split at h
  ·rename_i h3;simp only [Z3,Wv,WT,XE] at h
   have e:v.a.toNat=i:=Za
   rw [e];exact ⟨h.1,Za,Za,h3⟩
  ·simp at h
 ·rintro ⟨h,h1,h2,h3⟩;refine ⟨v.a.toNat,Za,?_⟩;rw [if_pos h3];simp only [Z3,Wv,WT,XE];exact ⟨h,Za⟩
theorem CA {x:Inst} (hp:Plc x) {v:Itm} :v∈Dr x x.orders.length↔(v.kind=1\/v.kind=2\/v.kind=4\/v.kind=10)/\UL x v.a=true/\DA (nth x.orders v.a.toNat) v.kind=true:=by
 simp only [Dr,XK,ZP,Sq]
 constructor
 ·rintro ⟨i,hi,h0,ha,h⟩
  have e:v.a.toNat=i:=Za
  have hpl:=hp _ (Zt hi);rw [e];refine ⟨?_,by simp only [UL,e,h0,Wx,QC,Zv,Zr];omega,?_⟩
  ·rcases h with h | h | h | h<;>simp [h.1]
  ·rcases h with h | h | h | h<;>simp only [DA,h.1]<;>simp [h.2]<;>omega
 ·rintro ⟨hk,ha,ho⟩;simp only [UL,Zv,Zr,XR] at ha;refine ⟨v.a.toNat,Za,ha.2,Za,?_⟩;rcases hk with h | h | h | h<;>simp only [DA,h] at ho<;>simp at ho<;>simp [h]<;>first | exact ho | omega
theorem No {x:Inst} (hp:Plc x) {v:Itm} :v∈G5 x↔Yj x v=true:=by
 simp only [G5,Xe,CA hp,EM,Lp,Sp,Yj]
 by_cases h1:v.kind=1\/v.kind=2\/v.kind=4\/v.kind=10
 ·rw [if_pos h1]
  have h2: ¬(v.kind=3\/v.kind=7\/v.kind=8\/v.kind=9):=Za
  have h3: ¬v.kind=5:=Za
  have h4: ¬v.kind=6:=Za
  simp [h1,h2,h3,h4]
 ·rw [if_neg h1]
  by_cases h2:v.kind=3\/v.kind=7\/v.kind=8\/v.kind=9
  ·rw [if_pos h2]
   have h3: ¬v.kind=5:=Za
   have h4: ¬v.kind=6:=Za
   simp [h1,h2,h3,h4]
  ·rw [if_neg h2]
   by_cases h3:v.kind=5
   ·rw [if_pos h3];simp [h1,h2,h3,and_assoc]
   ·rw [if_neg h3]
    by_cases h4:v.kind=6
    ·rw [if_pos h4];simp [h1,h2,h3,h4,and_assoc]
    ·simp [h1,h2,h3,h4]
theorem T1 (x i):(jE x i).Nodup:=by
 unfold jE
 split
 ·simp
 ·split<;>split<;>split<;>split<;>simp
theorem JM {f:Nat->List Itm} {n:Nat} (h: ∀i,(f i).Nodup) (ha: ∀i,∀v∈f i,v.a=(i:Int)):((List.range n).flatMap f).Nodup:=by
 rw [List.Nodup,List.pairwise_flatMap];refine ⟨fun i _=>h i,List.Pairwise.imp ?_ (List.nodup_range (n:=n))⟩;intro i j hij v hv w hw e;have h1:=ha i v hv;have h2:=ha j w hw;rw [e] at h1;omega
theorem F8 {x:Inst} (hp:Plc x):(G5 x).Nodup:=by
 have n1:(Dr x x.orders.length).Nodup:=JM (T1 x) fun i v hv=>(Sq.1 hv).2.1
 have n2:(jF x.types.length).Nodup:=JM (fun i=>Zb) fun i v hv=>by
  simp only [Z3,Wv,WT] at hv;rcases hv with rfl | rfl | rfl | rfl<;>rfl
 have n3:(jC x x.apart.length).Nodup:=JM (fun i=>by unfold G2;split<;>simp) fun i v hv=>by
  unfold G2 at hv;split at hv
  ·simp at hv;rw [hv]
  ·simp at hv
 have n4:(jD x x.before.length).Nodup:=JM (fun i=>by unfold Ld;split<;>simp) fun i v hv=>by
  unfold Ld at hv;split at hv
  ·simp at hv;rw [hv]
  ·simp at hv
 rw [G5,Ct,Ct,Ct];refine ⟨⟨⟨n1,n2,fun v hv w hw e=> ?_⟩,n3,fun v hv w hw e=> ?_⟩,n4,fun v hv w hw e=> ?_⟩
 ·subst e;have h1:=(CA hp).1 hv;have h2:=EM.1 hw;omega
 ·subst e;have h2:=Lp.1 hw;rcases Xe.1 hv with hv | hv
  ·have h1:=(CA hp).1 hv;omega
  ·have h1:=EM.1 hv;omega
 ·subst e;have h2:=Sp.1 hw;rcases Xe.1 hv with hv | hv
  ·rcases Xe.1 hv with hv | hv
   ·have h1:=(CA hp).1 hv;omega
   ·have h1:=EM.1 hv;omega
  ·have h1:=Lp.1 hv;omega
def LF (x:Inst) (k:Nat) (a:Nat):List Itm:=if Yj x ⟨k+1,a⟩=true then [⟨k+1,a⟩] else []
def DH (x:Inst) (k n:Nat):List Itm:=(List.range n).flatMap (LF x k)
def KP (x:Inst):Nat:=max (max (max x.orders.length x.types.length) x.apart.length) x.before.length
def YS (x:Inst) (n:Nat):List Itm:=(List.range n).flatMap fun k=>DH x k (KP x)
theorem H8 (x k n):DH x k (n+1)=DH x k n++LF x k n:=by simp [DH,X8]
theorem H7 (x n):YS x (n+1)=YS x n++DH x n (KP x):=by simp [YS,X8]
theorem CB {x k a} {v:Itm} :v∈LF x k a↔Yj x v=true/\v.kind=(k:Int)+1/\v.a=(a:Int):=by
 unfold LF
 constructor
 ·intro h
  split at h
  ·simp at h;subst h;rename_i h2;exact ⟨h2,rfl,rfl⟩
  ·simp at h
 ·rintro ⟨h1,h2,h3⟩;have:v=⟨(k:Int)+1,a⟩:=XE.2 ⟨h2,h3⟩;subst this;rw [if_pos h1];simp
theorem Qf {x:Inst} {v:Itm} :v∈YS x 10↔Yj x v=true:=by
 simp only [YS,DH,XK,ZP,CB]
 constructor
 ·rintro ⟨k,_,a,_,h,_⟩;exact h
 ·intro h
  have hk:1<=v.kind/\v.kind<=10/\0<=v.a/\v.a<(KP x:Int):=by
   unfold Yj at h;unfold KP
   split at h
   ·simp only [UL,Zv,Zr] at h;omega
   ·split at h
    ·simp only [Zv,Zr] at h;omega
    ·split at h
     ·simp only [Zv,Zr] at h;omega
     ·split at h
      ·simp only [Zv,Zr] at h;omega
      ·simp at h
  exact ⟨(v.kind-1).toNat,Za,v.a.toNat,Za,h,Za,Za⟩
theorem KZ (x:Inst) (n:Nat):(YS x n).Pairwise fun a b=>Fs a b<0:=by
 rw [YS,List.pairwise_flatMap];refine ⟨fun k _=> ?_,List.Pairwise.imp ?_ (List.pairwise_lt_range (n:=n))⟩
 ·rw [DH,List.pairwise_flatMap];refine ⟨fun a _=>by unfold LF;split<;>simp,List.Pairwise.imp ?_ (List.pairwise_lt_range (n:=_))⟩;intro i j hij v hv w hw;have h1:=CB.1 hv;have h2:=CB.1 hw;rw [UN];omega
 ·intro i j hij v hv w hw;simp only [DH,XK,CB] at hv hw;obtain ⟨_,_,h1⟩:=hv;obtain ⟨_,_,h2⟩:=hw;rw [UN];omega
theorem D7 {α:Type} {R:α->α->Prop} (asym: ∀a b,R a b-> ¬R b a): ∀ {l m:List α},l.Pairwise R->m.Pairwise R->(∀v,v∈l↔v∈m)->l=m
 | [],[],_,_,_=>rfl
 | [],b::m,_,_,h=>absurd ((h b).2 Zb) Zb
 | a::l,[],_,_,h=>absurd ((h a).1 Zb) Zb
 | a::l,b::m,hl,hm,h=>by
  rw [List.pairwise_cons] at hl hm
  have e:a=b:=by
   rcases Z3.1 ((h a).1 Zb) with e | e
   ·exact e
   ·rcases Z3.1 ((h b).2 Zb) with e2 | e2
    ·exact e2.symm
    ·exact absurd (hl.1 b e2) (asym _ _ (hm.1 a e))
  subst e;have irr: ¬R a a:=fun h=>asym a a h h;rw [D7 asym hl.2 hm.2 fun v=>⟨fun hv=> ?_,fun hv=> ?_⟩]
  ·rcases Z3.1 ((h v).1 (by simp [hv])) with e | e
   ·subst e;exact absurd (hl.1 _ hv) irr
   ·exact e
  ·rcases Z3.1 ((h v).2 (by simp [hv])) with e | e
   ·subst e;exact absurd (hm.1 _ hv) irr
   ·exact e
theorem jG {x:Inst} (hp:Plc x) {m:List Itm} (h1:m.Perm (G5 x)) (h2:m.Pairwise fun a b=> ¬Fs b a<0):m=YS x 10:=by
 refine D7 (R:=fun a b=>Fs a b<0) (fun a b h k=> ?_) ?_ (KZ x 10) fun v=> ?_
 ·rw [UN] at h k;omega
 ·have h3:m.Nodup:=h1.nodup_iff.2 (F8 hp);have h4:=List.Pairwise.and h2 h3;refine h4.imp ?_;rintro a b ⟨h5,h6⟩;rw [UN] at h5 ⊢;have: ¬(a.kind=b.kind/\a.a=b.a):=fun h=>h6 (XE.2 h);omega
 ·rw [h1.mem_iff,No hp,Qf]
theorem qS (x:Inst) (hp:Plc x) (ho:x.orders.length<=1000) (ht:0<x.types.length/\x.types.length<=1000) (ha:x.apart.length<=1000) (hb:x.before.length<=1000):PC 31 [.p (Zq x)] (.list false ((YS x 10).map Xg)):=by
 refine ACalls.frozen (S:=2) (n:=(YS x 10).length) Zb ?_;refine (T3 x ho ht ha hb).mono ?_;rintro y H' ⟨m,⟨h1,h2⟩,h3,h4⟩;rw [jG hp h1 h2] at h3 h4;exact ⟨h3,h4⟩
def LV (l:List Itm) (v:Itm):Int:=match l.findIdx? (fun w=>decide (v=w)) with | some i=>(i:Int) | none=> -1
theorem Rb {l:List Itm} {v:Itm} {k:Nat} (hk:k<l.length) (h:v=nth l k) (hno: ∀j,j<k-> ¬v=nth l j):LV l v=(k:Int):=by
 have:l.findIdx? (fun w=>decide (v=w))=some k:=by
  rw [VO];refine ⟨hk,by rw [<- Zj hk];simpa using h,fun j hj=> ?_⟩;have h2:=hno j hj;rw [Zj Za] at h2;simpa using h2
 simp [LV,this]
theorem mT {l:List Itm} {v:Itm} (hno: ∀j,j<l.length-> ¬v=nth l j):LV l v= -1:=by
 have:l.findIdx? (fun w=>decide (v=w))=none:=by
  rw [EA];intro x hx;obtain ⟨j,hj,rfl⟩:=ZO.1 hx;have:=hno j hj;rw [Zj hj] at this;simpa using this
 simp [LV,this]
theorem V0 {l:List Itm} {v:Itm} :0<=LV l v↔v∈l:=by
 unfold LV
 cases h:l.findIdx? (fun w=>decide (v=w)) with
 | none =>
  rw [EA] at h
  have:v ∉ l:=fun hm=>by simpa using h v hm
  simp [this]
 | some i =>
  rw [VO] at h;obtain ⟨h1,h2,_⟩:=h
  have h3:v=l[i]:=by simpa using h2
  have:v∈l:=by rw [h3];exact JW _
  simp [this]
theorem TZ (l:List Itm) (c:Bool) (v:Itm) (hl:l.length<=1048576):PC 87 [.p (.list c (l.map Xg)),.p (Xg v)] (.int .i64 (LV l v)):=by
 refine Zc Tryz.func87 rfl Zi3 ?_;simp (disch:=omega) only [Tryz.f87,go_sem,seval];refine Zl [0,3,7] (fun k:Nat=> [(8,.p (.int .i64 k))]) (fun _=> [.cells [.p (.int .i64 v.kind),.p (.int .i64 v.a)]]) (fun k=>k<=l.length/\ ∀j,j<k-> ¬v=nth l j) (fun k=>l.length-k) 0 Zb (Weak.mk ?_) ?_
 ·simp (disch:=omega) only [go_sem,seval]
 ·rintro k ⟨hk,hno⟩;simp (disch:=omega) only [go_sem,seval];refine cD ?_ ?_<;>intro h<;>simp (disch:=omega) only [Sh.out h,go_sem,seval]
  ·have hk2:k<l.length:=Za
   refine Xd ?_;simp (disch:=omega) only [go_sem,seval];refine cD ?_ ?_<;>intro h2<;>simp (disch:=omega) only [Sh.out h2,go_sem,seval]
   ·have:v=nth l k:=by rw [XE];simpa using h2
    rw [Rb hk2 this hno]
   ·have: ¬v=nth l k:=by rw [XE];simpa using h2
    exact ⟨k+1,⟨Za,Zp.2 ⟨hno,this⟩⟩,Za,wk⟩
  ·have hkl:k=l.length:=Za
   subst hkl;rw [mT hno]
theorem UO (l:List Itm) (c:Bool) (v:Itm) (hl:l.length<=1048576):PC 58 [.p (.list c (l.map Xg)),.p (Xg v)] (.bool (decide (v∈l))):=by
 refine Zc Tryz.func58 rfl ZiD ?_;simp (disch:=omega) only [Tryz.f58,go_sem,seval];refine (TZ l c v hl).use ?_;simp (disch:=omega) only [go_sem,seval];simp only [V0]
theorem GW (l:List Typ) (c:Bool) (hl:l.length<=1048576):ACalls Tryz.prog 63 [.p (.list c (l.map X0))] [] fun y H'=>y= .sl 0 0 l.length l.length/\H'= [.elems 14 (l.map X0)]:=by
 refine Ze [1] Tryz.func63 rfl ZiI ?_;simp (disch:=omega) only [Tryz.f63,go_sem,seval];refine YU (Fh (e:=63) (cl:=c) (xs:=l.map X0) Tryz.underlying26 (by rfl) Zb fun b hb=> ?_);refine Zh [] _ _ _ _ ?_;simp (disch:=omega) only [go_sem,seval];refine cD ?_ ?_<;>intro h<;>simp (disch:=omega) only [Sh.out h,go_sem,seval]
 ·have:l= []:=by simpa using hb h
  subst this;exact ⟨_,_,Weak.nil 0 14 rfl Zb,rfl,rfl⟩
 ·refine Zh [] _ _ _ _ ?_;simp (disch:=omega) only [go_sem,seval];exact we
theorem A4 (l:List Ord) (c:Bool) (hl:l.length<=1048576):ACalls Tryz.prog 64 [.p (.list c (l.map eOrd))] [] fun y H'=>y= .sl 0 0 l.length l.length/\H'= [.elems 16 (l.map eOrd)]:=by
 refine Ze [1] Tryz.func64 rfl ZiJ ?_;simp (disch:=omega) only [Tryz.f64,go_sem,seval];refine YU (Fh (e:=67) (cl:=c) (xs:=l.map eOrd) Tryz.underlying27 (by rfl) Zb fun b hb=> ?_);refine Zh [] _ _ _ _ (Zd ?_);refine cD ?_ ?_<;>intro h<;>simp (disch:=omega) only [Sh.out h,go_sem,seval]
 ·have:l= []:=by simp_all
  subst this;exact ⟨_,_,Weak.nil 0 16 rfl Zb,rfl,rfl⟩
 ·refine Zh [] _ _ _ _ (Zd ?_);exact we
def YT (l:List (Int×Int)) (w:List Itm) (kind:Int) (k:Nat):List (Int×Int):=(List.range k).flatMap fun (i:Nat)=>if (⟨kind,i⟩:Itm)∈w then [] else [nth l i]
theorem JR (l w kind k):YT l w kind (k+1)=YT l w kind k++if (⟨kind,k⟩:Itm)∈w then [] else [nth l k]:=by simp [YT,X8]
theorem Ds (l w kind): ∀k,(YT l w kind k).length<=k
 | 0=>by simp [YT]
 | k+1=>by
  have:=Ds l w kind k;rw [JR,Zz]
  split<;>simp<;>omega
theorem HW (l:List (Int×Int)) (w:List Itm) (kind:Int) (c d:Bool) (hl:l.length<=1048576) (hw:w.length<=1048576):PC 67 [.p (.list c (l.map eP)),.p (.list d (w.map Xg)),.p (.int .i64 kind)] (.list false ((YT l w kind l.length).map eP)):=by
 refine ACalls.frozen (S:=2) (n:=(YT l w kind l.length).length) Zb ?_
 suffices hh:ACalls Tryz.prog 67 [.p (.list c (l.map eP)),.p (.list d (w.map Xg)),.p (.int .i64 kind)] [] fun y H'=> ∃m:List (Int×Int),m=YT l w kind l.length/\y= .sl 0 0 m.length m.length/\H'= [.elems 2 (m.map eP)] by
  refine hh.mono ?_;rintro x H' ⟨m,rfl,h1,h2⟩;exact ⟨h1,h2⟩
 refine ZG [2] Tryz.func67 rfl ZiL ?_;simp (disch:=omega) only [Tryz.f67,go_sem,seval];refine Zo (Weak.ofNil 7 2 (by simp (disch:=omega) only [go_sem,seval]) Zb (Weak.refl _ _ _)) ?_;refine Zh [] _ _ _ _ ?_;simp (disch:=omega) only [go_sem,seval];refine Zl [1,2,10,11] (fun q:Nat×List (Int×Int)=> [(7,.sl 0 0 q.2.length q.2.length),(12,.p (.int .i64 q.1))]) (fun q=> [.elems 2 (q.2.map eP)]) (fun q=>q.1<=l.length/\q.2=YT l w kind q.1) (fun q=>l.length-q.1) (0,[]) ⟨Zb,by simp [YT]⟩ (Weak.mk ?_) ?_
 ·simp (disch:=omega) only [go_sem,seval]
 ·rintro ⟨k,m⟩ ⟨hk,hm⟩;simp only at hk hm;have hml:=Ds l w kind k;rw [<- hm] at hml;have hs:=JR l w kind k;simp (disch:=omega) only [go_sem,seval];refine cD ?_ ?_<;>intro h<;>simp (disch:=omega) only [Sh.out h,go_sem,seval]
  ·have hk2:k<l.length:=Za
   refine (UO w d ⟨kind,k⟩ hw).use ?_;simp (disch:=omega) only [go_sem,seval];refine cD ?_ ?_<;>intro h2<;>simp (disch:=omega) only [Sh.out h2,go_sem,seval]
   ·have h3: ¬(⟨kind,k⟩:Itm)∈w:=by simpa using h2
    exact ⟨(k+1,m++ [nth l k]),⟨by simp only;omega,by simp only [hs,h3,Yo,hm]⟩,by simp only;omega,wk⟩
   ·have h3:(⟨kind,k⟩:Itm)∈w:=by simpa using h2
    exact ⟨(k+1,m),⟨by simp only;omega,by simp only [hs,h3,if_true,hm,Yw]⟩,by simp only;omega,wk⟩
  ·have hkl:k=l.length:=Za
   subst hkl;exact ⟨m,hm,0,by simp (disch:=omega) only [go_sem,seval]⟩
def CK (o:Ord) (kind:Int):Ord :=
 if kind=1 then { o with pick:= { o.pick with cls:=4096 } }
 else if kind=2 then { o with drp:= { o.drp with cls:=4096 } }
 else if kind=4 then { o with skills:=0 }
 else if kind=10 then { o with penalty:=0 }
 else o
theorem AQ {α β:Type} {f:α->β} {l:List α} {i:Nat} {a:α} :(l.map f).set i (f a)=(l.set i a).map f:=by rw [UD]
theorem rM (os:List Ord) (i:Nat) (hi:i<os.length):ACalls Tryz.prog 93 [.ep 0 i 2 os.length] [.elems 16 (os.map eOrd)] fun y H'=>y= .tup []/\H'= [.elems 16 ((os.set i (CK (nth os i) 1)).map eOrd)]:=by
 refine Ze [] Tryz.func93 rfl vK ?_;simp (disch:=omega) only [Tryz.f93,go_sem,seval];exact ⟨_,_,Weak.refl _ _ _,rfl,by rw [<- AQ];rfl⟩
theorem rL (os:List Ord) (i:Nat) (hi:i<os.length):ACalls Tryz.prog 93 [.ep 0 i 6 os.length] [.elems 16 (os.map eOrd)] fun y H'=>y= .tup []/\H'= [.elems 16 ((os.set i (CK (nth os i) 2)).map eOrd)]:=by
 refine Ze [] Tryz.func93 rfl vK ?_;simp (disch:=omega) only [Tryz.f93,go_sem,seval];exact ⟨_,_,Weak.refl _ _ _,rfl,by rw [<- AQ];rfl⟩
theorem kD {α:Type} [Inhabited α] {l:List α} {i:Nat} (h:i<l.length):l.set i (nth l i)=l:=by
 rw [Zj h];exact List.set_getElem_self h
theorem AI (os:List Ord) (i:Nat) (k:Int) (hi:i<os.length):ACalls Tryz.prog 65 [.ep 0 i 0 os.length,.p (.int .i64 k)] [.elems 16 (os.map eOrd)] fun y H'=>y= .tup []/\H'= [.elems 16 ((os.set i (CK (nth os i) k)).map eOrd)]:=by
 refine Ze [] Tryz.func65 rfl ZiK ?_;simp (disch:=omega) only [Tryz.f65,go_sem,seval];refine cD ?_ ?_<;>intro h1<;>simp (disch:=omega) only [Sh.out h1,go_sem,seval]
 ·subst h1;refine (rM os i hi).useH ?_;simp (disch:=omega) only [go_sem,seval];exact ⟨_,_,Weak.refl _ _ _,rfl,rfl⟩
 ·refine cD ?_ ?_<;>intro h2<;>simp (disch:=omega) only [Sh.out h2,go_sem,seval]
  ·subst h2;refine (rL os i hi).useH ?_;simp (disch:=omega) only [go_sem,seval];exact ⟨_,_,Weak.refl _ _ _,rfl,rfl⟩
  ·refine cD ?_ ?_<;>intro h3<;>simp (disch:=omega) only [Sh.out h3,go_sem,seval]
   ·subst h3;exact ⟨_,_,Weak.refl _ _ _,rfl,by rw [<- AQ];rfl⟩
   ·refine cD ?_ ?_<;>intro h4<;>simp (disch:=omega) only [Sh.out h4,go_sem,seval]
    ·subst h4;exact ⟨_,_,Weak.refl _ _ _,rfl,by rw [<- AQ];rfl⟩
    ·have:CK (nth os i) k=nth os i:=by rw [CK,if_neg h1,if_neg h2,if_neg h3,if_neg h4]
     rw [this,kD hi];exact ⟨_,_,Weak.refl _ _ _,rfl,rfl⟩
theorem DP {α:Type} {cs:List α} {j:Nat} {v:α} (h:j<cs.length):List.take 1 (List.drop j (cs.set j v))= [v]:=by
 rw [VP (by simpa using h)];simp
theorem mU {α:Type} {cs:List α} {j:Nat} {v:α} (h:cs[j]? =some v):List.take 1 (List.drop j cs)= [v]:=by
 obtain ⟨h1,h2⟩:=ZS.1 h;rw [VP h1,h2];simp
theorem LU {α:Type} : ∀ {cs:List α} {j:Nat},Q8 cs j []=cs
 | [],_=>rfl
 | _::_,0=>rfl
 | _::_,_+1=>by simp [Q8,LU]
theorem C3 {α:Type} : ∀ {cs:List α} {j:Nat} {v:α},Q8 cs j [v]=cs.set j v
 | [],_,_=>rfl
 | x::l,0,v=>by simp [Q8,LU]
 | x::l,j+1,v=>by simp [Q8,C3 (cs:=l)]
theorem E2 {H:List AM.Obj} {n:Nat} {x x':V} (hx:DU H n x x'): ∀ {cs:List V} {j:Nat},(∀v∈cs,refB n v=true)->OD H n (cs.set j x) (cs.set j x')
 | [],_,_=>by simp [OD]
 | y::l,0,h=>⟨hx,GI l fun j c hc=>h c (Ye _ (Xw hc))⟩
 | y::l,j+1,h=>⟨.inr (.inl ⟨rfl,h y Zb⟩),E2 hx fun v hv=>h v (Ye _ hv)⟩
theorem cN (cs:List V) (b:Nat) (l:List Int) (c:Bool) (hb:b+14<=cs.length) (hp: ∀n,∀v∈cs,refB n v=true) (h4:cs[b+4]? =some (.p (.list c (l.map eI)))) (hl:l.length<=1048576):ACalls Tryz.prog 66 [.ptr 0 b,.p (.int .i64 3)] [.cells cs] fun y H'=>y= .tup []/\H'= [.cells (cs.set (b+4) (.p (.list false ((List.replicate l.length (1000:Int)).map eI))))]:=by
 refine Ze [] Tryz.func66 rfl vJ ?_;have h5:=mU h4
 have h6:b+4+1<=cs.length:=Za
 simp (disch:=omega) only [Tryz.f66,h5,h6,go_sem,seval];refine ACalls.useF (S:=1) (n:=l.length) (xs:=l.map eI) (GV l c hl) ?_;simp (disch:=omega) only [h6,C3,DP,Vs,go_sem,seval];refine Zl [0,20] (fun q:Nat×List Int=> [(21,.p (.int .i64 q.1))]) (fun q=> [.cells (cs.set (b+4) (.sl 1 0 l.length l.length)),.elems 1 (q.2.map eI)]) (fun q=>q.1<=l.length/\q.2=List.replicate q.1 (1000:Int)++l.drop q.1) (fun q=>l.length-q.1) (0,l) Zb (Weak.mk ?_) ?_
 ·simp (disch:=omega) only [h6,C3,DP,Vs,go_sem,seval];exact E2 (by simp (disch:=omega) only [go_sem,seval]) (hp 2)
 ·rintro ⟨k,m⟩ ⟨hk,hm⟩;simp only at hk hm
  have hml:m.length=l.length:=by rw [hm];simp;omega
  rw [<- hml] at hk ⊢
  have hme:(m.map eI).length=m.length:=Zb
  simp (disch:=omega) only [go_sem,seval];refine cD ?_ ?_<;>intro h<;>simp (disch:=omega) only [Sh.out h,go_sem,seval]
  ·have hk2:k<m.length:=Za
   simp (disch:=omega) only [h6,C3,DP,Vs,go_sem,seval];refine ⟨(k+1,m.set k 1000),⟨by simp only;omega,?_⟩,by simp only;omega,Weak.mk ?_⟩
   ·rw [hm]
    have hkl:k<l.length:=Za
    simp only;rw [EF _ _ Zb,VP hkl,EJ,Vr];simp only [EE,AB,ZC,ZM,ZE]
   ·simp (disch:=omega) only [jS,ZC,List.headD_cons,go_sem,seval];refine ⟨E2 ?_ (hp 2),?_⟩
    ·simp (disch:=omega) only [go_sem,seval]
    ·exact AQ (f:=eI)
  ·have hkl:k=m.length:=Za
   subst hkl
   have hm2:m=List.replicate m.length (1000:Int):=by rw [hml,Ux,Yw] at hm;rw [hml];exact hm
   rw [<- hm2];refine ⟨_,_,?_,rfl,rfl⟩;refine Weak.mk ?_;simp (disch:=omega) only [go_sem,seval];refine E2 ?_ (hp 1);simp (disch:=omega) only [go_sem,seval]
theorem GE (cs:List V) (b:Nat) (k:Int) (j:Nat) (v:Int) (hk:(k=7/\j=8/\v=4096)\/(k=8/\j=9/\v=4096)\/(k=9/\j=1/\v=10)) (hb:b+14<=cs.length) (hp: ∀n,∀v∈cs,refB n v=true):ACalls Tryz.prog 66 [.ptr 0 b,.p (.int .i64 k)] [.cells cs] fun y H'=>y= .tup []/\H'= [.cells (cs.set (b+j) (.p (.int .i64 v)))]:=by
 refine Ze [] Tryz.func66 rfl vJ ?_
 have h6:b+j+1<=cs.length:=Za
 rcases hk with ⟨rfl,rfl,rfl⟩ | ⟨rfl,rfl,rfl⟩ | ⟨rfl,rfl,rfl⟩ <;>
 ·simp (disch:=omega) only [Tryz.f66,h6,C3,go_sem,seval];exact ⟨_,_,Weak.refl _ _ _,rfl,rfl⟩
def DQ (t:Typ) (kind:Int):Typ :=
 if kind=3 then { t with cap_c:=false,cap:=List.replicate t.cap.length 1000 }
 else if kind=7 then { t with cls:=4096 }
 else if kind=8 then { t with drive:=4096 }
 else if kind=9 then { t with count:=10 }
 else t
theorem Hw {S:Nat} {x' v:PV} {j:Nat} : ∀ {xs:List PV} {i:Nat} (h:i<xs.length),(∀x∈xs,x.cells.length=S)->j<S->x'.cells=(xs[i]).cells.set j v->VH (xs.set i x')=(VH xs).set (i*S+j) v
 | [],_,h,_,_,_=>absurd h Zb
 | x::xs,0,_,hS,hj,he=>by
  have hx:=hS x Zb
  simp only [VH,ZC,Uv,Nat.zero_mul,Xi,List.getElem_cons_zero] at *
  rw [he,List.set_append_left _ _ Za]
 | x::xs,i+1,h,hS,hj,he=>by
  have hx:=hS x Zb;have:=Hw (xs:=xs) (i:=i) (by simpa using h) (fun y hy=>hS y (by simp [hy])) hj (by simpa using he)
  simp only [VH,ZL,Uv] at *
  rw [this,EF _ _ (by rw [hx,XB];omega),hx]
  congr 2
  rw [XB];omega
theorem QL (ts:List Typ) (i:Nat) (k:Int) (hk:k=3\/k=7\/k=8\/k=9) (hi:i<ts.length) (hc:(nth ts i).cap.length<=1048576) {H:List AM.Obj} {o:Nat} (hH:H[o]? =some (.elems 14 (ts.map X0))):ACalls Tryz.prog 66 [.ep o i 0 ts.length,.p (.int .i64 k)] H fun y H'=>y= .tup []/\H'=H.set o (.elems 14 ((ts.set i (DQ (nth ts i) k)).map X0)):=by
 have hS: ∀(us:List Typ),∀x∈us.map X0,x.cells.length=14:=fun us x hx=>by
  obtain ⟨t,_,rfl⟩:=XT.1 hx
  rfl
 have hlen:(ts.map X0).length=ts.length:=Zb
 have hg:=Zj hi
 have main: ∀(j:Nat) (v:PV),j<14->(X0 (DQ (nth ts i) k)).cells=(X0 (nth ts i)).cells.set j v->(∀cs:List V,i*14+14<=cs.length->(∀n,∀v∈cs,refB n v=true)->cs[i*14+4]? =some (.p (.list (nth ts i).cap_c ((nth ts i).cap.map eI)))->ACalls Tryz.prog 66 [.ptr 0 (i*14),.p (.int .i64 k)] [.cells cs] fun y H'=>y= .tup []/\H'= [.cells (cs.set (i*14+j) (.p v))]) ->
   ACalls Tryz.prog 66 [.ep o i 0 ts.length,.p (.int .i64 k)] H fun y H'=>y= .tup []/\H'=H.set o (.elems 14 ((ts.set i (DQ (nth ts i) k)).map X0)):=fun j v hj he h=>by
  rw [<- hlen];refine ACalls.atF (S:=14) (ps:= [.int .i64 k]) hH (hS _) (hS _) (fun sp=> ?_) Zb;have hfl:=Aj (hS ts);have h4:(VH (ts.map X0))[i*14+4]? =some (.list (nth ts i).cap_c ((nth ts i).cap.map eI)):=Dm (S:=14) (hS ts) i (X0 (nth ts i)) 4 _ (by rw [Xh,QZ hi,hg];rfl) rfl;have h4l:=(ZS.1 h4).1;refine (h _ (by simp [hfl];omega) (fun n v hv=> ?_) ?_).mono ?_
  ·rcases Xe.1 hv with hv | hv
   ·obtain ⟨y,_,rfl⟩:=XT.1 hv
    rfl
   ·rw [List.eq_of_mem_replicate hv];rfl
  ·rw [YX (by simpa using h4l),Xh,h4];rfl
  ·rintro y H' ⟨h1,rfl⟩;refine ⟨h1,List.replicate sp .junk,Zb,?_⟩;have hf:=Hw (S:=14) (x':=X0 (DQ (nth ts i) k)) (v:=v) (j:=j) (xs:=ts.map X0) (i:=i) (by simpa using hi) (hS ts) hj (by rw [Cv,<- hg];exact he);rw [AQ] at hf;rw [hf,UD,List.set_append_left _ _ (by simp [hfl];omega)]
 rcases hk with rfl | rfl | rfl | rfl
 ·exact main 4 _ Za rfl fun cs h1 h2 h3=>cN cs _ _ _ h1 h2 h3 hc
 ·exact main 8 _ Za rfl fun cs h1 h2 _=>GE cs _ 7 8 4096 Zb h1 h2
 ·exact main 9 _ Za rfl fun cs h1 h2 _=>GE cs _ 8 9 4096 Zb h1 h2
 ·exact main 1 _ Za rfl fun cs h1 h2 _=>GE cs _ 9 1 10 Zb h1 h2
structure ISz (x:Inst):Prop where
 plc:Plc x
 ord:x.orders.length<=1000
 typ0:0<x.types.length
 typ:x.types.length<=1000
 ap:x.apart.length<=1000
 be:x.before.length<=1000
theorem Ui {x:Inst} (h:ISz x):(YS x 10).length<=1048576:=by
 have e:(YS x 10).Perm (G5 x):=by
  refine (List.perm_ext_iff_of_nodup ?_ (F8 h.plc)).2 fun v=>by rw [Qf,No h.plc]
  exact (KZ x 10).imp fun {a b} hh e=>by subst e;rw [UN] at hh;omega
 rw [e.length_eq];have h1:=Ce x x.orders.length;have h2:=Eu (k:=x.types.length);have h3:=Lc x x.apart.length;have h4:=Le x x.before.length;have:=h.ord;have:=h.typ;have:=h.ap;have:=h.be;simp only [G5,Zz];omega
theorem Lf (x:Inst) (h:ISz x):PC 31 [.p (Zq x)] (.list false ((YS x 10).map Xg)):=qS x h.plc h.ord ⟨h.typ0,h.typ⟩ h.ap h.be
theorem R3 (x:Inst) (h:ISz x) (v:Itm):PC 29 [.p (Zq x),.p (Xg v)] (.bool (Yj x v)):=by
 refine Zc Tryz.func29 rfl Zid ?_;simp (disch:=omega) only [Tryz.f29,go_sem,seval];refine Xd ?_;simp (disch:=omega) only [go_sem,seval];refine Zn (Lf x h) ?_;simp (disch:=omega) only [go_sem,seval];refine Zn (UO (YS x 10) false v (Ui h)) ?_;simp (disch:=omega) only [go_sem,seval];simp [Qf]
theorem Kg (o:Ord) (k:Int) (hk:k=1\/k=2\/k=4\/k=10):PC 57 [.p (eOrd o),.p (.int .i64 k)] (.bool (DA o k)):=by
 refine Zc Tryz.func57 rfl ZiC ?_;rcases hk with rfl | rfl | rfl | rfl
 ·simp (disch:=omega) only [Tryz.f57,DA,go_sem,seval]
 ·simp (disch:=omega) only [Tryz.f57,DA,go_sem,seval]
 ·simp (disch:=omega) only [Tryz.f57,DA,go_sem,seval]
 ·simp (disch:=omega) only [Tryz.f57,DA,go_sem,seval]
theorem Qj (x:Inst) (i:Int) (hl:x.orders.length<=1048576):PC 56 [.p (Zq x),.p (.int .i64 i)] (.bool (UL x i)):=by
 refine Zc Tryz.func56 rfl ZiB ?_;simp (disch:=omega) only [Tryz.f56,go_sem,seval];refine gT ?_ ?_<;>intro h<;>simp (disch:=omega) only [Sh.out h,go_sem,seval]
 ·refine gT ?_ ?_<;>intro h2<;>simp (disch:=omega) only [Sh.out h2,go_sem,seval]
  ·simp [UL,h,h2]
  ·simp [UL,h2]
 ·simp [UL,h]
theorem Gh (x:Inst) (h:ISz x) (v:Itm):PC 28 [.p (Zq x),.p (Xg v)] (.bool (Yj x v)):=by
 have s1:=h.ord;have s2:=h.typ;have s3:=h.ap;have s4:=h.be;refine Zc Tryz.func28 rfl Zic ?_;obtain ⟨k,a⟩:=v
 have gO: ∀k:Int,(k=1\/k=2\/k=4\/k=10)->Yj x ⟨k,a⟩=(UL x a&&DA (nth x.orders a.toNat) k):=fun k h=>by simp only [Yj];rw [if_pos h]
 by_cases h1:k=1\/k=2\/k=4\/k=10
 ·rw [gO k h1];rcases h1 with rfl | rfl | rfl | rfl
  ·simp (disch:=omega) only [Tryz.f28,go_sem,seval];refine Xd ?_;simp (disch:=omega) only [go_sem,seval];refine Zn (Qj x a Za) ?_;simp (disch:=omega) only [go_sem,seval];refine gT ?_ ?_<;>intro h<;>simp (disch:=omega) only [Sh.out h,go_sem,seval]
   ·have h2:0<=a/\a<(x.orders.length:Int):=by simp only [UL,Zv,Zr] at h;omega
    simp (disch:=omega) only [go_sem,seval];refine Zn (Kg (nth x.orders a.toNat) 1 Za) ?_;simp (disch:=omega) only [go_sem,seval];simp [h]
  ·simp (disch:=omega) only [Tryz.f28,go_sem,seval];refine Xd ?_;simp (disch:=omega) only [go_sem,seval];refine Zn (Qj x a Za) ?_;simp (disch:=omega) only [go_sem,seval];refine gT ?_ ?_<;>intro h<;>simp (disch:=omega) only [Sh.out h,go_sem,seval]
   ·have h2:0<=a/\a<(x.orders.length:Int):=by simp only [UL,Zv,Zr] at h;omega
    simp (disch:=omega) only [go_sem,seval];refine Zn (Kg (nth x.orders a.toNat) 2 Za) ?_;simp (disch:=omega) only [go_sem,seval];simp [h]
  ·simp (disch:=omega) only [Tryz.f28,go_sem,seval];refine Xd ?_;simp (disch:=omega) only [go_sem,seval];refine Zn (Qj x a Za) ?_;simp (disch:=omega) only [go_sem,seval];refine gT ?_ ?_<;>intro h<;>simp (disch:=omega) only [Sh.out h,go_sem,seval]
   ·have h2:0<=a/\a<(x.orders.length:Int):=by simp only [UL,Zv,Zr] at h;omega
    simp (disch:=omega) only [go_sem,seval];refine Zn (Kg (nth x.orders a.toNat) 4 Za) ?_;simp (disch:=omega) only [go_sem,seval];simp [h]
  ·simp (disch:=omega) only [Tryz.f28,go_sem,seval];refine Xd ?_;simp (disch:=omega) only [go_sem,seval];refine Zn (Qj x a Za) ?_;simp (disch:=omega) only [go_sem,seval];refine gT ?_ ?_<;>intro h<;>simp (disch:=omega) only [Sh.out h,go_sem,seval]
   ·have h2:0<=a/\a<(x.orders.length:Int):=by simp only [UL,Zv,Zr] at h;omega
    simp (disch:=omega) only [go_sem,seval];refine Zn (Kg (nth x.orders a.toNat) 10 Za) ?_;simp (disch:=omega) only [go_sem,seval];simp [h]
 ·by_cases h2:k=3\/k=7\/k=8\/k=9
  ·rcases h2 with rfl | rfl | rfl | rfl
   ·simp (disch:=omega) only [Tryz.f28,go_sem,seval];refine gT ?_ ?_<;>intro hq<;>simp (disch:=omega) only [Sh.out hq,go_sem,seval]
    ·simp [Yj,hq]
    ·simp [Yj,hq]
   ·simp (disch:=omega) only [Tryz.f28,go_sem,seval];refine gT ?_ ?_<;>intro hq<;>simp (disch:=omega) only [Sh.out hq,go_sem,seval]
    ·simp [Yj,hq]
    ·simp [Yj,hq]
   ·simp (disch:=omega) only [Tryz.f28,go_sem,seval];refine gT ?_ ?_<;>intro hq<;>simp (disch:=omega) only [Sh.out hq,go_sem,seval]
    ·simp [Yj,hq]
    ·simp [Yj,hq]
   ·simp (disch:=omega) only [Tryz.f28,go_sem,seval];refine gT ?_ ?_<;>intro hq<;>simp (disch:=omega) only [Sh.out hq,go_sem,seval]
    ·simp [Yj,hq]
    ·simp [Yj,hq]
  ·by_cases h3:k=5
   ·subst h3;simp (disch:=omega) only [Tryz.f28,go_sem,seval];refine Xd ?_;simp (disch:=omega) only [go_sem,seval];refine gT ?_ ?_<;>intro hq<;>simp (disch:=omega) only [Sh.out hq,go_sem,seval]
    ·refine gT ?_ ?_<;>intro hq2<;>simp (disch:=omega) only [Sh.out hq2,go_sem,seval]
     ·refine Zn (Qj x (nth x.apart a.toNat).1 Za) ?_;simp (disch:=omega) only [go_sem,seval];refine gT ?_ ?_<;>intro hq3<;>simp (disch:=omega) only [Sh.out hq3,go_sem,seval]
      ·refine Zn (Qj x (nth x.apart a.toNat).2 Za) ?_;simp (disch:=omega) only [go_sem,seval];simp [Yj,hq,hq2,hq3]
      ·simp [Yj,hq3]
     ·simp [Yj,hq2]
    ·simp [Yj,hq]
   ·by_cases h4:k=6
    ·subst h4;simp (disch:=omega) only [Tryz.f28,go_sem,seval];refine Xd ?_;simp (disch:=omega) only [go_sem,seval];refine gT ?_ ?_<;>intro hq<;>simp (disch:=omega) only [Sh.out hq,go_sem,seval]
     ·refine gT ?_ ?_<;>intro hq2<;>simp (disch:=omega) only [Sh.out hq2,go_sem,seval]
      ·refine Zn (Qj x (nth x.before a.toNat).2 Za) ?_;simp (disch:=omega) only [go_sem,seval];simp [Yj,hq,hq2]
      ·simp [Yj,hq2]
     ·simp [Yj,hq]
    ·have e1: ¬k=1:=Za
     have e2: ¬k=2:=Za
     have e3: ¬k=3:=Za
     have e4: ¬k=4:=Za
     have e7: ¬k=7:=Za
     have e8: ¬k=8:=Za
     have e9: ¬k=9:=Za
     have e10: ¬k=10:=Za
     simp (disch:=omega) only [Tryz.f28,Yj,e1,e2,e3,e4,h3,h4,e7,e8,e9,e10,go_sem,seval]
theorem XN (l:List Itm) (c:Bool) (v:Itm) (hl:l.length<=1048576):PC 79 [.p (.list c (l.map Xg)),.p (Xg v)] (.int .i64 (LV l v)):=by
 refine Zc Tryz.func79 rfl ZiV ?_;simp (disch:=omega) only [Tryz.f79,go_sem,seval];refine Zl [0,3] (fun k:Nat=> [(5,.p (.int .i64 k))]) (fun _=> [.cells [.p (.int .i64 v.kind),.p (.int .i64 v.a)]]) (fun k=>k<=l.length/\ ∀j,j<k-> ¬v=nth l j) (fun k=>l.length-k) 0 Zb (Weak.mk ?_) ?_
 ·simp (disch:=omega) only [go_sem,seval]
 ·rintro k ⟨hk,hno⟩;simp (disch:=omega) only [go_sem,seval];refine cD ?_ ?_<;>intro h<;>simp (disch:=omega) only [Sh.out h,go_sem,seval]
  ·have hk2:k<l.length:=Za
   refine Xd ?_;simp (disch:=omega) only [go_sem,seval];refine cD ?_ ?_<;>intro h2<;>simp (disch:=omega) only [Sh.out h2,go_sem,seval]
   ·have:v=nth l k:=by rw [XE];first | omega | (simp at h2;omega)
    rw [Rb hk2 this hno]
   ·have: ¬v=nth l k:=by rw [XE];first | omega | (simp at h2;omega)
    exact ⟨k+1,⟨Za,Zp.2 ⟨hno,this⟩⟩,Za,wk⟩
  ·have hkl:k=l.length:=Za
   subst hkl;rw [mT hno]
theorem SU {l:List Itm} {v:Itm} :LV l v<0↔ ¬v∈l:=by rw [<- V0];omega
theorem Gj (l:List (Int×Int)) (w:List Itm) (kind:Int) (c d:Bool) (hl:l.length<=1048576) (hw:w.length<=1048576):PC 80 [.p (.list c (l.map eP)),.p (.list d (w.map Xg)),.p (.int .i64 kind)] (.list false ((YT l w kind l.length).map eP)):=by
 refine ACalls.frozen (S:=2) (n:=(YT l w kind l.length).length) Zb ?_
 suffices hh:ACalls Tryz.prog 80 [.p (.list c (l.map eP)),.p (.list d (w.map Xg)),.p (.int .i64 kind)] [] fun y H'=> ∃m:List (Int×Int),m=YT l w kind l.length/\y= .sl 0 0 m.length m.length/\H'= [.elems 2 (m.map eP)] by
  refine hh.mono ?_;rintro x H' ⟨m,rfl,h1,h2⟩;exact ⟨h1,h2⟩
 refine ZG [2] Tryz.func80 rfl ZiW ?_;simp (disch:=omega) only [Tryz.f80,go_sem,seval];refine Zo (Weak.ofNil 7 2 (by simp (disch:=omega) only [go_sem,seval]) Zb (Weak.refl _ _ _)) ?_;refine Zh [] _ _ _ _ ?_;simp (disch:=omega) only [go_sem,seval];refine Zl [0,1,2] (fun q:Nat×List (Int×Int)=> [(7,.sl 0 0 q.2.length q.2.length),(8,.p (.int .i64 q.1))]) (fun q=> [.elems 2 (q.2.map eP)]) (fun q=>q.1<=l.length/\q.2=YT l w kind q.1) (fun q=>l.length-q.1) (0,[]) ⟨Zb,by simp [YT]⟩ (Weak.mk ?_) ?_
 ·simp (disch:=omega) only [go_sem,seval]
 ·rintro ⟨k,m⟩ ⟨hk,hm⟩;simp only at hk hm;have hml:=Ds l w kind k;rw [<- hm] at hml;have hs:=JR l w kind k;simp (disch:=omega) only [go_sem,seval];refine cD ?_ ?_<;>intro h<;>simp (disch:=omega) only [Sh.out h,go_sem,seval]
  ·have hk2:k<l.length:=Za
   refine (XN w d ⟨kind,k⟩ hw).use ?_;simp (disch:=omega) only [go_sem,seval];refine cD ?_ ?_<;>intro h2<;>simp (disch:=omega) only [Sh.out h2,go_sem,seval]
   ·have h3: ¬(⟨kind,k⟩:Itm)∈w:=SU.1 h2;exact ⟨(k+1,m++ [nth l k]),⟨by simp only;omega,by simp only [hs,h3,Yo,hm]⟩,by simp only;omega,wk⟩
   ·have h3:(⟨kind,k⟩:Itm)∈w:=by rw [SU,Z2] at h2;exact h2
    exact ⟨(k+1,m),⟨by simp only;omega,by simp only [hs,h3,if_true,hm,Yw]⟩,by simp only;omega,wk⟩
  ·have hkl:k=l.length:=Za
   subst hkl;exact ⟨m,hm,0,by simp (disch:=omega) only [go_sem,seval]⟩
theorem Ge (x k): ∀n,(DH x k n).length<=n
 | 0=>by simp [DH]
 | n+1=>by
  have h1:=Ge x k n
  have h2:(LF x k n).length<=1:=by unfold LF;split<;>simp
  rw [H8,Zz];omega
theorem H6 (x): ∀n,(YS x n).length<=n*KP x
 | 0=>by simp [YS]
 | n+1=>by
  have h1:=H6 x n;have h2:=Ge x n (KP x);rw [H7,Zz,XB];omega
theorem NM (x:Inst) (h:ISz x):PC 10 [.p (Zq x)] (.list false ((YS x 10).map Xg)):=by
 have s1:=h.ord;have s2:=h.typ;have s3:=h.ap;have s4:=h.be;have hrl:=Ui h;refine ACalls.frozen (S:=2) (n:=(YS x 10).length) Zb ?_
 suffices hh:ACalls Tryz.prog 10 [.p (Zq x)] [] fun y H'=> ∃m:List Itm,m=YS x 10/\y= .sl 0 0 m.length m.length/\H'= [.elems 2 (m.map Xg)] by
  refine hh.mono ?_;rintro x H' ⟨m,rfl,h1,h2⟩;exact ⟨h1,h2⟩
 have hm1:KP x<=1000:=by unfold KP;omega
 have hmost:max (max (max (x.orders.length:Int) x.types.length) x.apart.length) x.before.length=(KP x:Int):=by unfold KP;omega
 refine ZG [1] Tryz.func10 rfl ZhY ?_;simp (disch:=omega) only [Tryz.f10,go_sem,seval];refine YU (pC 12 (by rfl) (by rfl) ?_);simp (disch:=omega) only [go_sem,seval];refine ⟨_,bE rfl rfl rfl rfl rfl,?_⟩;rw [hmost];have hrn:=H6 x;have hsK:=H8 x;have hsI:=H7 x;have hlK:=Ge x;generalize KP x=M at hm1 hrn hsI;refine Zh [3] _ _ _ _ ?_;simp (disch:=omega) only [go_sem,seval];refine Zo (Weak.ofNil 4 2 (by simp (disch:=omega) only [go_sem,seval]) Zb (Weak.refl _ _ _)) ?_;refine Zh [] _ _ _ _ ?_
 simp (disch:=omega) only [go_sem,seval];refine Zl [1,3] (fun q:Nat×List Itm=> [(4,.sl 1 0 q.2.length q.2.length),(5,.p (.int .i64 (q.1+1)))]) (fun q=> [Zf x,.elems 2 (q.2.map Xg)]) (fun q=>q.1<=10/\q.2=YS x q.1) (fun q=>10-q.1) (0,[]) ⟨Zb,by simp [YS]⟩ (Weak.mk ?_) ?_
 ·simp (disch:=omega) only [Zf,go_sem,seval]
 ·rintro ⟨k,m⟩ ⟨hk,hm⟩;simp only at hk hm;have hml:=hrn k;rw [<- hm] at hml;have hml2:k*M<=10*1000:=Av hk hm1;simp (disch:=omega) only [Zf,go_sem,seval];refine cD ?_ ?_<;>intro hq<;>simp (disch:=omega) only [Sh.out hq,go_sem,seval]
  ·have hk2:k<10:=Za
   refine Zl [1,3,5] (fun q:Nat×List Itm=> [(4,.sl 1 0 q.2.length q.2.length),(6,.p (.int .i64 q.1))]) (fun q=> [Zf x,.elems 2 (q.2.map Xg)]) (fun q=>q.1<=M/\q.2=m++DH x k q.1) (fun q=>M-q.1) (0,m) ⟨Zb,by simp [DH]⟩ (Weak.mk ?_) ?_
   ·simp (disch:=omega) only [Zf,go_sem,seval]
   ·rintro ⟨a,m2⟩ ⟨ha,hm2⟩;simp only at ha hm2;have hm2l:=hlK k a
    have hm2l2:m2.length=m.length+(DH x k a).length:=by rw [hm2,Zz]
    have hs:=hsK k a;simp (disch:=omega) only [Zf,go_sem,seval];refine cD ?_ ?_<;>intro h2<;>simp (disch:=omega) only [Sh.out h2,go_sem,seval]
    ·have ha2:a<M:=Za
     refine (Gh x h ⟨(k:Int)+1,a⟩).use ?_;simp (disch:=omega) only [go_sem,seval];refine cD ?_ ?_<;>intro h3<;>simp (disch:=omega) only [Sh.out h3,go_sem,seval]
     ·exact ⟨(a+1,m2++ [⟨(k:Int)+1,a⟩]),⟨by simp only;omega,by simp only [hs,LF,h3,if_true,hm2,Vr]⟩,by simp only;omega,Weak.mk (by simp (disch:=omega) only [Zf,go_sem,seval])⟩
     ·exact ⟨(a+1,m2),⟨by simp only;omega,by simp [hs,LF,h3,hm2]⟩,by simp only;omega,Weak.mk (by simp (disch:=omega) only [Zf,go_sem,seval])⟩
    ·have haM:a=M:=Za
     subst haM;exact ⟨(k+1,m2),⟨by simp only;omega,by simp only [hsI,hm2,hm]⟩,by simp only;omega,Weak.mk (by simp (disch:=omega) only [Zf,go_sem,seval])⟩
  ·have hk10:k=10:=Za
   subst hk10;exact ⟨m,hm,1,by simp (disch:=omega) only [Zf,go_sem,seval]⟩
def Q3 (o:Ord) (at':Int) (l:List Itm):Ord:= { o with
 pick:= { o.pick with cls:=if (⟨1,at'⟩:Itm)∈l then 4096 else o.pick.cls }
 drp:= { o.drp with cls:=if (⟨2,at'⟩:Itm)∈l then 4096 else o.drp.cls }
 skills:=if (⟨4,at'⟩:Itm)∈l then 0 else o.skills
 penalty:=if (⟨10,at'⟩:Itm)∈l then 0 else o.penalty }
def Un (t:Typ) (at':Int) (l:List Itm):Typ:= { t with
 cap_c:=if (⟨3,at'⟩:Itm)∈l then false else t.cap_c
 cap:=if (⟨3,at'⟩:Itm)∈l then List.replicate t.cap.length 1000 else t.cap
 cls:=if (⟨7,at'⟩:Itm)∈l then 4096 else t.cls
 drive:=if (⟨8,at'⟩:Itm)∈l then 4096 else t.drive
 count:=if (⟨9,at'⟩:Itm)∈l then 10 else t.count }
theorem kN (o a):Q3 o a []=o:=by simp [Q3]
theorem mW (o a):Un o a []=o:=by simp [Un]
theorem HT (o a l) (v:Itm):Q3 o a (l++ [v])=if v.a=a then CK (Q3 o a l) v.kind else Q3 o a l:=by
 obtain ⟨k,b⟩:=v
 by_cases h:b=a
 ·subst h
  by_cases h1:k=1
  ·subst h1;simp [Q3,CK,XE]
  ·by_cases h2:k=2
   ·subst h2;simp [Q3,CK,XE]
   ·by_cases h4:k=4
    ·subst h4;simp [Q3,CK,XE]
    ·by_cases h10:k=10
     ·subst h10;simp [Q3,CK,XE]
     ·have e1: ¬ 1=k:=fun h=>h1 h.symm;have e2: ¬ 2=k:=fun h=>h2 h.symm;have e4: ¬ 4=k:=fun h=>h4 h.symm;have e10: ¬ 10=k:=fun h=>h10 h.symm;simp [Q3,CK,XE,h1,h2,h4,h10,e1,e2,e4,e10]
 ·have e: ¬a=b:=fun h2=>h h2.symm;simp [Q3,XE,h,e]
theorem Ik (o a l) (v:Itm):Un o a (l++ [v])=if v.a=a then DQ (Un o a l) v.kind else Un o a l:=by
 obtain ⟨k,b⟩:=v
 by_cases h:b=a
 ·subst h
  by_cases h1:k=3
  ·subst h1;simp [Un,DQ,XE];split<;>simp
  ·by_cases h2:k=7
   ·subst h2;simp [Un,DQ,XE]
   ·by_cases h4:k=8
    ·subst h4;simp [Un,DQ,XE]
    ·by_cases h10:k=9
     ·subst h10;simp [Un,DQ,XE]
     ·have e1: ¬ 3=k:=fun h=>h1 h.symm;have e2: ¬ 7=k:=fun h=>h2 h.symm;have e4: ¬ 8=k:=fun h=>h4 h.symm;have e10: ¬ 9=k:=fun h=>h10 h.symm;simp [Un,DQ,XE,h1,h2,h4,h10,e1,e2,e4,e10]
 ·have e: ¬a=b:=fun h2=>h h2.symm;simp [Un,XE,h,e]
def XM (os:List Ord) (w:List Itm):List Ord:=(List.range os.length).map fun (i:Nat)=>Q3 (nth os i) i w
def Xu (ts:List Typ) (w:List Itm):List Typ:=(List.range ts.length).map fun (i:Nat)=>Un (nth ts i) i w
theorem U3 (os w):(XM os w).length=os.length:=by simp [XM]
theorem VX (os w):(Xu os w).length=os.length:=by simp [Xu]
theorem Ba {α:Type} [Inhabited α] {f:Nat->α} {n i:Nat} (h:i<n):nth ((List.range n).map f) i=f i:=by
 rw [Zj (by simpa using h)];simp
theorem Yg {os w i} (h:i<os.length):nth (XM os w) i=Q3 (nth os i) i w:=Ba h
theorem U5 {os w i} (h:i<os.length):nth (Xu os w) i=Un (nth os i) i w:=Ba h
theorem A8 {α:Type} [Inhabited α] (l:List α):(List.range l.length).map (fun i=>nth l i)=l:=by
 apply Qc
 ·simp
 ·intro i h1 h2;simp [Zj h2]
theorem aV (os):XM os []=os:=by simp only [XM,kN];exact A8 os
theorem cL (os):Xu os []=os:=by simp only [Xu,mW];exact A8 os
theorem PE {o:Ord} {k:Int} (h:k=3\/k=7\/k=8\/k=9\/k=5\/k=6):CK o k=o:=by
 unfold CK;rw [if_neg Za,if_neg Za,if_neg Za,if_neg Za]
theorem Re {o:Typ} {k:Int} (h:k=1\/k=2\/k=4\/k=10\/k=5\/k=6):DQ o k=o:=by
 unfold DQ;rw [if_neg Za,if_neg Za,if_neg Za,if_neg Za]
theorem AJ {os:List Ord} {w:List Itm} {v:Itm} {i:Nat} (hi:i<os.length) (hv:v.a=(i:Int)):(XM os w).set i (CK (nth (XM os w) i) v.kind)=XM os (w++ [v]):=by
 rw [Yg hi];apply Qc
 ·simp [XM]
 ·intro j h1 h2
  have hj:j<os.length:=by simpa [XM] using h2
  rw [List.getElem_set];simp only [XM,Cv,List.getElem_range,HT,hv]
  by_cases e:i=j
  ·subst e;simp
  ·have: ¬(i:Int)=j:=Za
   simp [e,this]
theorem AT {os:List Typ} {w:List Itm} {v:Itm} {i:Nat} (hi:i<os.length) (hv:v.a=(i:Int)):(Xu os w).set i (DQ (nth (Xu os w) i) v.kind)=Xu os (w++ [v]):=by
 rw [U5 hi];apply Qc
 ·simp [Xu]
 ·intro j h1 h2
  have hj:j<os.length:=by simpa [Xu] using h2
  rw [List.getElem_set];simp only [Xu,Cv,List.getElem_range,Ik,hv]
  by_cases e:i=j
  ·subst e;simp
  ·have: ¬(i:Int)=j:=Za
   simp [e,this]
theorem Uf {os:List Ord} {w:List Itm} {v:Itm} (h:v.kind=3\/v.kind=7\/v.kind=8\/v.kind=9\/v.kind=5\/v.kind=6):XM os (w++ [v])=XM os w:=by
 simp only [XM,HT,PE h,ite_self]
theorem Uo {os:List Typ} {w:List Itm} {v:Itm} (h:v.kind=1\/v.kind=2\/v.kind=4\/v.kind=10\/v.kind=5\/v.kind=6):Xu os (w++ [v])=Xu os w:=by
 simp only [Xu,Ik,Re h,ite_self]
def WE (x:Inst) (l:List Itm):Inst:=⟨x.net,false,Xu x.types l,false,XM x.orders l,false,YT x.apart l 5 x.apart.length,false,YT x.before l 6 x.before.length⟩
def Yf (x:Inst) (l:List Itm) (i:Nat):Int:=if Yj x (nth l i)=true then (if nth l i∈l.take i then 6 else 0) else 7
def WV (x:Inst) (l:List Itm):Int:=(((List.range l.length).map (Yf x l)).find? fun e=>decide (e≠0)).getD 0
theorem UP {x:Inst} {l:List Itm} {k:Nat} (hk:k<l.length) (h0: ∀j,j<k->Yf x l j=0) (h:Yf x l k≠0):WV x l=Yf x l k:=by
 have:((List.range l.length).map (Yf x l)).find? (fun e=>decide (e≠0))=some (Yf x l k):=by
  rw [Ey];refine ⟨by simpa using h,k,by simpa using hk,Zb,fun j hj=> ?_⟩;have:=h0 j hj;simp [this]
 rw [WV,this];rfl
theorem B2 {x:Inst} {l:List Itm} (h: ∀j,j<l.length->Yf x l j=0):WV x l=0:=by
 have:((List.range l.length).map (Yf x l)).find? (fun e=>decide (e≠0))=none:=by
  rw [JT];intro e he;obtain ⟨j,hj,rfl⟩:=XT.1 he;have:=h j (by simpa using hj);simp [this]
 rw [WV,this];rfl
theorem Wq {x l i} :Yf x l i=0↔Yj x (nth l i)=true/\nth l i ∉ l.take i:=by
 unfold Yf
 split
 ·split<;>simp_all
 ·simp_all
theorem TP {x:Inst} {l:List Itm} :WV x l=0↔ ∀j,j<l.length->Yf x l j=0:=by
 refine ⟨fun h j hj=> ?_,B2⟩
 induction j using Nat.strongRecOn with
 | ind j ih =>
  by_cases h2:Yf x l j=0
  ·exact h2
  ·rw [UP hj (fun i hi=>ih i hi Za) h2] at h;exact h
theorem MJ {x:Inst} {l:List Itm} :WV x l=0↔(∀v∈l,Yj x v=true)/\l.Nodup:=by
 rw [TP]
 constructor
 ·intro h;refine ⟨fun v hv=> ?_,?_⟩
  ·obtain ⟨j,hj,rfl⟩:=ZO.1 hv;have:=(Wq.1 (h j hj)).1;rwa [Zj hj] at this
  ·rw [List.Nodup,KK];intro i j hi hj hij e;have:=(Wq.1 (h j hj)).2;rw [Zj hj,<- e] at this;exact this (ZO.2 ⟨i,by simp;omega,Zb⟩)
 ·rintro ⟨h1,h2⟩ j hj;refine Wq.2 ⟨h1 _ (Zt hj),fun hm=> ?_⟩;obtain ⟨i,hi,e⟩:=ZO.1 hm
  have hi2:i<j:=by simp at hi;omega
  rw [List.Nodup,KK] at h2;refine h2 i j Za hj hi2 ?_;rw [Zj hj] at e;rw [<- e];simp
def A1 (x:Inst) (l:List Itm):Inst:=if WV x l=0 then WE x l else zeroI
theorem qO {n word sm l i} :RZ n word sm l i= []↔aM n (nth l i)=true/\(l.take i).any (sm (nth l i))=false:=by
 unfold RZ;split<;>(try split)<;>simp_all
theorem MU {n word sm l} :Jj n word sm l l.length= []↔l.length<=16/\(∀p∈l,aM n p=true)/\l.Pairwise (fun p q=>sm q p=false):=by
 rw [Jj,VQ,List.flatMap_eq_nil_iff];refine and_congr (by unfold M3;split<;>simp<;>omega) ?_;simp only [ZP,qO]
 constructor
 ·intro h;refine ⟨fun p hp=> ?_,?_⟩
  ·obtain ⟨i,hi,rfl⟩:=ZO.1 hp;have:=(h i hi).1;rwa [Zj hi] at this
  ·rw [KK];intro i j hi hj hij;have:=(h j hj).2;rw [WS,Zj hj] at this;have h2:=this l[i] (ZO.2 ⟨i,by simp;omega,Zb⟩);simpa using h2
 ·rintro ⟨h1,h2⟩ i hi;refine ⟨h1 _ (Zt hi),?_⟩;rw [WS];intro p hp;obtain ⟨j,hj,rfl⟩:=ZO.1 hp;rw [KK] at h2
  have hji:j<i:=by simp at hj;omega
  have:=h2 j i Za hi hji;rw [Zj hi,List.getElem_take,this];simp
theorem IW {n:Int} {ap be:List (Int×Int)} :chk n ap be= []↔(ap.length<=16/\(∀p∈ap,aM n p=true)/\ap.Pairwise (fun p q=>decide (q=p\/(q.1=p.2/\q.2=p.1))=false))/\(be.length<=16/\(∀p∈be,aM n p=true)/\be.Pairwise (fun p q=>decide (q=p)=false)):=by
 rw [chk,VQ,MU,MU]
theorem HE (l w kind): ∀k,k<=l.length->(YT l w kind k).Sublist (l.take k)
 | 0,_=>by simp [YT]
 | k+1,h=>by
  rw [JR,XZ Za];refine (HE l w kind k Za).append ?_
  split
  ·simp
  ·rw [Zj Za];exact List.Sublist.refl _
theorem FM (l w kind):(YT l w kind l.length).Sublist l:=by
 have:=HE l w kind l.length (ZF _);rwa [XX] at this
theorem Kf {n lo hi:Int} :rng n lo hi=true↔lo<=n/\n<=hi:=by simp [rng]
theorem Hk {l:List Int} {d:Int} :Vl l d=true↔(1<=l.length/\l.length<=3)/\(l.length:Int)=d/\ ∀n∈l,0<=n/\n<=1000:=by
 simp only [Vl,Zv,Zr,ZD,Kf]
 constructor
 ·rintro ⟨⟨h1,h2⟩,h3⟩;exact ⟨Za,h2,h3⟩
 ·rintro ⟨h1,h2,h3⟩;exact ⟨⟨Za,h2⟩,h3⟩
theorem C8 (t a l):(Un t a l).cap.length=t.cap.length:=by simp only [Un];split<;>simp
theorem Rc {t a l d} (h:Vl t.cap d=true):Vl (Un t a l).cap d=true:=by
 rw [Hk] at h ⊢;rw [C8];refine ⟨h.1,h.2.1,fun n hn=> ?_⟩;simp only [Un] at hn
 split at hn
 ·rw [List.eq_of_mem_replicate hn];omega
 ·exact h.2.2 n hn
theorem BZ (ts l):dimsOf (Xu ts l)=dimsOf ts:=by
 unfold dimsOf;rw [VX]
 split
 ·rfl
 ·rw [U5 Za,C8]
theorem tV {n:Net} {ts:List Typ} {l:List Itm} {i:Nat} (hi:i<ts.length) (h:Jz n ts i):Jz n (Xu ts l) i:=by
 unfold Jz at h ⊢;rw [U5 hi,BZ];obtain ⟨⟨⟨⟨⟨⟨⟨⟨h1,h2⟩,h3⟩,h4⟩,h5⟩,h6⟩,h7⟩,h8⟩,h9⟩:=h;refine ⟨⟨⟨⟨⟨⟨⟨⟨h1,fun j hj=> ?_⟩,?_⟩,h4⟩,Rc h5⟩,h6⟩,?_⟩,?_⟩,h9⟩
 ·rw [U5 Za];exact h2 j hj
 ·simp only [Un];split
  ·rfl
  ·exact h3
 ·simp only [Kf,Un] at h7 ⊢
  split<;>omega
 ·simp only [Kf,Un] at h8 ⊢
  split<;>omega
theorem Ih {s:Stp} (h:stpOk s=true) (hp:0<=s.place):stpOk { s with cls:=4096 } =true:=by
 rw [cI] at h ⊢;simp only;omega
theorem M1 {x:Inst} {k a:Int} (hk:k=1\/k=2\/k=4\/k=10):Yj x ⟨k,a⟩=true↔UL x a=true/\DA (nth x.orders a.toNat) k=true:=by
 simp only [Yj];rw [if_pos hk,Zv]
theorem nS {np:Nat} {d ty:Int} {os:List Ord} {l:List Itm} {i:Nat} (hi:i<os.length) (h:OrdOk np d ty os i) (h1:(⟨1,i⟩:Itm)∈l->0<=(nth os i).pick.place) (h2:(⟨2,i⟩:Itm)∈l->0<=(nth os i).drp.place):OrdOk np d ty (XM os l) i:=by
 constructor
 ·rw [Yg hi];exact h.name
 ·intro j hj;rw [Yg hi,Yg Za];exact h.twin j hj
 ·rw [Yg hi];exact h.load
 ·rw [Yg hi];exact h.pick
 ·rw [Yg hi];exact h.drp
 ·rw [Yg hi];exact h.one
 ·rw [Yg hi];simp only [Q3];split
  ·rename_i hm;exact Ih h.pstp (h1 hm)
  ·exact h.pstp
 ·rw [Yg hi];simp only [Q3];split
  ·rename_i hm;exact Ih h.dstp (h2 hm)
  ·exact h.dstp
 ·rw [Yg hi];have:=h.skills;simp only [Q3];split<;>omega
 ·rw [Yg hi];have:=h.arg;simp only [argOk,Zv,Zr,Kf] at this ⊢;refine ⟨⟨?_,this.1.2⟩,this.2⟩;have:=this.1.1;simp only [Q3]
  split<;>omega
theorem Rj {x:Inst} {l:List Itm} (h:InstOk x) (hI: ∀v∈l,Yj x v=true):InstOk (WE x l):=by
 have ht:=h.types;have ho:=h.orders;obtain ⟨⟨a1,a2,a3⟩,b1,b2,b3⟩:=IW.1 h.rules;refine ⟨h.net,⟨?_,fun i hi=> ?_⟩,⟨?_,fun i hi=> ?_⟩,?_⟩
 ·show rng (Xu x.types l).length 1 6=true
  rw [VX];exact ht.1
 ·have hi2:i<x.types.length:=by simpa [WE,VX] using hi
  exact tV hi2 (ht.2 i hi2)
 ·show (XM x.orders l).length<=10
  rw [U3];exact ho.1
 ·have hi2:i<x.orders.length:=by simpa [WE,U3] using hi
  show OrdOk x.net.places.length (dimsOf (Xu x.types l)) (Xu x.types l).length (XM x.orders l) i
  rw [BZ,VX];refine nS hi2 (ho.2 i hi2) (fun hm=> ?_) (fun hm=> ?_)
  ·have:=((M1 Za).1 (hI _ hm)).2;simpa [DA] using this
  ·have:=((M1 Za).1 (hI _ hm)).2;simpa [DA] using this
 ·show chk ((XM x.orders l).length:Int) (YT x.apart l 5 x.apart.length) (YT x.before l 6 x.before.length)= []
  rw [U3,IW];have sa:=FM x.apart l 5;have sb:=FM x.before l 6;have la:=sa.length_le;have lb:=sb.length_le;exact ⟨⟨Za,fun p hp=>a2 p (sa.subset hp),a3.sublist sa⟩,⟨Za,fun p hp=>b2 p (sb.subset hp),b3.sublist sb⟩⟩
theorem UQ {x:Inst} (h:InstOk x):ISz x:=by
 have hf:=XC h;have ht:=Kf.1 h.types.1;obtain ⟨⟨a1,_,_⟩,b1,_,_⟩:=IW.1 h.rules;have:=h.orders.1;exact ⟨hf.plc,Za,Za,Za,Za,Za⟩
theorem M8 {x:Inst} (h:InstOk x): ∀t∈x.types,t.cap.length<=1048576:=fun t hm=>by
 obtain ⟨i,hi,rfl⟩:=ZO.1 hm;have:=h.types.2 i hi;have h5:=(Hk.1 this.1.1.1.1.2).1;rw [Zj hi] at h5;omega
theorem sP (x:Inst) (hs:ISz x) (hcap: ∀t∈x.types,t.cap.length<=1048576) (l:List Itm) (c:Bool) (hl:l.length<=1048576):PT 32 [.p (Zq x),.p (.list c (l.map Xg))] [.p (Zq (A1 x l)),.p (.int .i64 (WV x l))]:=by
 have s1:=hs.ord;have s2:=hs.typ;have s3:=hs.ap;have s4:=hs.be;have hrl:=Ui hs;refine Ze [27] Tryz.func32 rfl Zig ?_;simp (disch:=omega) only [Tryz.f32,go_sem,seval];refine (Lf x hs).use ?_;simp (disch:=omega) only [go_sem,seval];have zI:Zq zeroI= .agg [.list true [],.list true [],.list true [],.list true [],.list true [],.list true []]:=rfl;refine ZY [10] [1,2,4,6,13,14] (fun k:Nat=> [(15,.p (.int .i64 k))]) (fun _=> [Zf x,Zf zeroI]) (fun k=>k<=l.length/\ ∀j,j<k->Yf x l j=0) (fun k=>l.length-k) 0 Zb (Weak.mk ?_) ?_
 ·simp (disch:=omega) only [Zf,zeroI,Zk,go_sem,seval]
 ·rintro k ⟨hk,hno⟩;simp (disch:=omega) only [Zf,zeroI,Zk,go_sem,seval];refine cD ?_ ?_<;>intro h<;>simp (disch:=omega) only [Sh.out h,go_sem,seval]
  ·have hk2:k<l.length:=Za
   refine (UO (YS x 10) false (nth l k) hrl).use ?_;simp (disch:=omega) only [go_sem,seval];refine cD ?_ ?_<;>intro h2<;>simp (disch:=omega) only [Sh.out h2,zI,go_sem,seval]
   ·have h3:Yj x (nth l k)=false:=by rw [Qf] at h2;simpa using h2
    have e0:Yf x l k=7:=by rw [Yf,h3];rfl
    have e:WV x l=7:=by rw [UP hk2 hno (by rw [e0];decide),e0]
    have r:A1 x l=zeroI:=by rw [A1,e];rfl
    simp only [e,r,zeroI,Zk];exact we
   ·have h3:Yj x (nth l k)=true:=by rw [Z2,Qf] at h2;exact h2
    refine Xd ?_;simp (disch:=omega) only [go_sem,seval];refine Zn (UO (l.take k) _ (nth l k) (by simp;omega)) ?_;simp (disch:=omega) only [go_sem,seval];refine cD ?_ ?_<;>intro h4<;>simp (disch:=omega) only [Sh.out h4,go_sem,seval]
    ·have e0:Yf x l k=6:=by rw [Yf,if_pos h3,if_pos h4]
     have e:WV x l=6:=by rw [UP hk2 hno (by rw [e0];decide),e0]
     have r:A1 x l=zeroI:=by rw [A1,e];rfl
     simp only [e,r,zeroI,Zk];exact we
    ·exact ⟨k+1,⟨Za,Zp.2 ⟨hno,Wq.2 ⟨h3,h4⟩⟩⟩,Za,Weak.mk (by simp (disch:=omega) only [Zf,zeroI,Zk,go_sem,seval])⟩
  ·have hkl:k=l.length:=Za
   subst hkl;have e:WV x l=0:=B2 hno
   have r:A1 x l=WE x l:=by rw [A1,if_pos e]
   rw [e,r];clear hk h;refine Tu [1,2,4] (fun _:Unit=> []) (fun _=> [.cells [.p (.list x.net.places_c (x.net.places.map eS)),.p (.list x.net.arcs_c (x.net.arcs.map VE)),.sl 2 0 x.types.length x.types.length,.sl 3 0 x.orders.length x.orders.length,.p (.list x.apart_c (x.apart.map eP)),.p (.list x.before_c (x.before.map eP))],Zf zeroI,.elems 14 (x.types.map X0),.elems 16 (x.orders.map eOrd)]) (fun _=>True) ?_ ?_
   ·refine Fi (.cons 0 (.cons 1 (.cons 2 (.cons 3 (.cons 4 (.cons 5 (.cons 6 (.cons 7 (.cons 8 (.cons 9 .nil .nil) .nil) .nil) .nil) (.cons 6 (.cons 5 (.cons 7 (.cons 8 (.cons 9 .nil .nil) .nil) .nil) .nil) .nil)) .nil) .nil) (.cons 3 (.cons 2 (.cons 4 (.cons 5 (.cons 6 (.cons 7 (.cons 8 (.cons 9 .nil .nil) .nil) .nil) .nil) (.cons 6 (.cons 5 (.cons 7 (.cons 8 (.cons 9 .nil .nil) .nil) .nil) .nil) .nil)) .nil) (.cons 4 (.cons 2 (.cons 5 (.cons 6 (.cons 7 (.cons 8 (.cons 9 .nil .nil) .nil) .nil) .nil) (.cons 6 (.cons 5 (.cons 7 (.cons 8 (.cons 9 .nil .nil) .nil) .nil) .nil) .nil)) .nil) .nil)) .nil)) (.cons 3 (.cons 1 (.cons 2 (.cons 4 (.cons 5 (.cons 6 (.cons 7 (.cons 8 (.cons 9 .nil .nil) .nil) .nil) .nil) (.cons 6 (.cons 5 (.cons 7 (.cons 8 (.cons 9 .nil .nil) .nil) .nil) .nil) .nil)) .nil) (.cons 4 (.cons 2 (.cons 5 (.cons 6 (.cons 7 (.cons 8 (.cons 9 .nil .nil) .nil) .nil) .nil) (.cons 6 (.cons 5 (.cons 7 (.cons 8 (.cons 9 .nil .nil) .nil) .nil) .nil) .nil)) .nil) .nil)) (.cons 4 (.cons 1 (.cons 2 (.cons 5 (.cons 6 (.cons 7 (.cons 8 (.cons 9 .nil .nil) .nil) .nil) .nil) (.cons 6 (.cons 5 (.cons 7 (.cons 8 (.cons 9 .nil .nil) .nil) .nil) .nil) .nil)) .nil) .nil) .nil)) .nil)) (.cons 3 (.cons 0 (.cons 1 (.cons 2 (.cons 4 (.cons 5 (.cons 6 (.cons 7 (.cons 8 (.cons 9 .nil .nil) .nil) .nil) .nil) (.cons 6 (.cons 5 (.cons 7 (.cons 8 (.cons 9 .nil .nil) .nil) .nil) .nil) .nil)) .nil) (.cons 4 (.cons 2 (.cons 5 (.cons 6 (.cons 7 (.cons 8 (.cons 9 .nil .nil) .nil) .nil) .nil) (.cons 6 (.cons 5 (.cons 7 (.cons 8 (.cons 9 .nil .nil) .nil) .nil) .nil) .nil)) .nil) .nil)) (.cons 4 (.cons 1 (.cons 2 (.cons 5 (.cons 6 (.cons 7 (.cons 8 (.cons 9 .nil .nil) .nil) .nil) .nil) (.cons 6 (.cons 5 (.cons 7 (.cons 8 (.cons 9 .nil .nil) .nil) .nil) .nil) .nil)) .nil) .nil) .nil)) (.cons 4 (.cons 0 (.cons 1 (.cons 2 (.cons 5 (.cons 6 (.cons 7 (.cons 8 (.cons 9 .nil .nil) .nil) .nil) .nil) (.cons 6 (.cons 5 (.cons 7 (.cons 8 (.cons 9 .nil .nil) .nil) .nil) .nil) .nil)) .nil) .nil) .nil) .nil)) .nil)) mixed Zg ?_
    have cT:ACalls Tryz.prog 63 [.p (.list x.types_c (x.types.map X0))] [] fun y H'=>y= .sl 0 0 x.types.length x.types.length/\H'= [.elems 14 (x.types.map X0)]:=GW x.types x.types_c Za;have cO:ACalls Tryz.prog 64 [.p (.list x.orders_c (x.orders.map eOrd))] [] fun y H'=>y= .sl 0 0 x.orders.length x.orders.length/\H'= [.elems 16 (x.orders.map eOrd)]:=A4 x.orders x.orders_c Za
    repeat' first
     | refine Df ?_ ?_
     | (refine cT.useF ?_;simp (disch:=omega) only [go_sem,seval])
     | (refine cO.useF ?_;simp (disch:=omega) only [go_sem,seval])
     | exact ⟨(),Weak.mk (by simp (disch:=omega) only [Zf,zeroI,Zk,go_sem,seval])⟩
     | simp (disch:=omega) only [go_sem,seval]
   ·rintro _ _;simp (disch:=omega) only [Zf,zeroI,Zk,go_sem,seval];have lT:=VX x.types;have lO:=U3 x.orders
    have hcap2: ∀k i,i<x.types.length->(nth (Xu x.types (l.take k)) i).cap.length<=1048576:=fun k i hi=>by
     rw [U5 hi];have:=hcap _ (Zt hi);simp only [Un]
     split<;>simp [this]
    refine ZY [26,27] [1,2,4,42,43] (fun k:Nat=> [(44,.p (.int .i64 k))]) (fun k=> [.cells [.p (.list x.net.places_c (x.net.places.map eS)),.p (.list x.net.arcs_c (x.net.arcs.map VE)),.sl 2 0 x.types.length x.types.length,.sl 3 0 x.orders.length x.orders.length,.p (.list x.apart_c (x.apart.map eP)),.p (.list x.before_c (x.before.map eP))],Zf zeroI,.elems 14 ((Xu x.types (l.take k)).map X0),.elems 16 ((XM x.orders (l.take k)).map eOrd)]) (fun k=>k<=l.length) (fun k=>l.length-k) 0 Zb (Weak.mk ?_) ?_
    ·simp (disch:=omega) only [Zf,zeroI,Zk,Q2,cL,aV,go_sem,seval]
    ·rintro k hk;simp (disch:=omega) only [Zf,zeroI,Zk,go_sem,seval];have hhas:k<l.length->Yj x (nth l k)=true:=fun h=>(Wq.1 (hno k h)).1
     have hsn:k<l.length->l.take (k+1)=l.take k++ [nth l k]:=fun h=>by rw [XZ h,Zj h]
     refine cD ?_ ?_<;>intro h<;>simp (disch:=omega) only [Sh.out h,go_sem,seval]
     ·have hk2:k<l.length:=Za
      have hhas:=hhas hk2;have hsn:=hsn hk2
      have hgo: ∀kd a,nth l k=⟨kd,a⟩->(kd=1\/kd=2\/kd=4\/kd=10)/\(0<=a/\a<(x.orders.length:Int))\/(kd=3\/kd=7\/kd=8\/kd=9)/\(0<=a/\a<(x.types.length:Int))\/kd=5\/kd=6:=fun kd a e=>by
       rw [e] at hhas;unfold Yj at hhas;simp only at hhas
       split at hhas
       ·rename_i hq;simp only [UL,Zv,Zr] at hhas;exact .inl ⟨hq,Za⟩
       ·split at hhas
        ·rename_i hq;simp only [Zv,Zr] at hhas;exact .inr (.inl ⟨hq,Za⟩)
        ·split at hhas
         ·rename_i hq;exact .inr (.inr (.inl hq))
         ·split at hhas
          ·rename_i hq;exact .inr (.inr (.inr hq))
          ·simp at hhas
      generalize hv:nth l k=v at hgo hsn ⊢;obtain ⟨kd,a⟩:=v;rcases hgo kd a rfl with ⟨hkd,ha⟩ | ⟨hkd,ha⟩ | hkd
      ·rcases hkd with rfl | rfl | rfl | rfl
       ·have hmO:((XM x.orders (l.take k)).map eOrd).length=x.orders.length:=by rw [Zx,lO]
        have c9:=AI (XM x.orders (l.take k)) a.toNat 1 (by rw [lO];omega);rw [AJ Za (v:=⟨1,a⟩) (by simp only;omega),<- hsn,lO,<- hmO] at c9
        have eT:Xu x.types (l.take (k+1))=Xu x.types (l.take k):=by rw [hsn];exact Uo Zb
        simp (disch:=omega) only [Zf,zeroI,Zk,go_sem,seval];refine ZB 7 mixed Zg Zg ?_;simp (disch:=omega) only [go_sem,seval];rw [<- hmO];refine (ACalls.atE (ps:= [.int .i64 1]) (o:=3) rfl c9 (by simp [lO])).useH ?_;simp (disch:=omega) only [ZL,ZC,go_sem,seval];refine ⟨k+1,Za,Za,Weak.mk ?_⟩
        try simp only [Zx,lO]
        simp (disch:=omega) only [Zf,zeroI,Zk,eT,go_sem,seval]
       ·have hmO:((XM x.orders (l.take k)).map eOrd).length=x.orders.length:=by rw [Zx,lO]
        have c9:=AI (XM x.orders (l.take k)) a.toNat 2 (by rw [lO];omega);rw [AJ Za (v:=⟨2,a⟩) (by simp only;omega),<- hsn,lO,<- hmO] at c9
        have eT:Xu x.types (l.take (k+1))=Xu x.types (l.take k):=by rw [hsn];exact Uo Zb
        simp (disch:=omega) only [Zf,zeroI,Zk,go_sem,seval];refine ZB 7 mixed Zg Zg ?_;simp (disch:=omega) only [go_sem,seval];rw [<- hmO];refine (ACalls.atE (ps:= [.int .i64 2]) (o:=3) rfl c9 (by simp [lO])).useH ?_;simp (disch:=omega) only [ZL,ZC,go_sem,seval];refine ⟨k+1,Za,Za,Weak.mk ?_⟩
        try simp only [Zx,lO]
        simp (disch:=omega) only [Zf,zeroI,Zk,eT,go_sem,seval]
       ·have hmO:((XM x.orders (l.take k)).map eOrd).length=x.orders.length:=by rw [Zx,lO]
        have c9:=AI (XM x.orders (l.take k)) a.toNat 4 (by rw [lO];omega);rw [AJ Za (v:=⟨4,a⟩) (by simp only;omega),<- hsn,lO,<- hmO] at c9
        have eT:Xu x.types (l.take (k+1))=Xu x.types (l.take k):=by rw [hsn];exact Uo Zb
        simp (disch:=omega) only [Zf,zeroI,Zk,go_sem,seval];refine ZB 7 mixed Zg Zg ?_;simp (disch:=omega) only [go_sem,seval];rw [<- hmO];refine (ACalls.atE (ps:= [.int .i64 4]) (o:=3) rfl c9 (by simp [lO])).useH ?_;simp (disch:=omega) only [ZL,ZC,go_sem,seval];refine ⟨k+1,Za,Za,Weak.mk ?_⟩
        try simp only [Zx,lO]
        simp (disch:=omega) only [Zf,zeroI,Zk,eT,go_sem,seval]
       ·have hmO:((XM x.orders (l.take k)).map eOrd).length=x.orders.length:=by rw [Zx,lO]
        have c9:=AI (XM x.orders (l.take k)) a.toNat 10 (by rw [lO];omega);rw [AJ Za (v:=⟨10,a⟩) (by simp only;omega),<- hsn,lO,<- hmO] at c9
        have eT:Xu x.types (l.take (k+1))=Xu x.types (l.take k):=by rw [hsn];exact Uo Zb
        simp (disch:=omega) only [Zf,zeroI,Zk,go_sem,seval];refine ZB 7 mixed Zg Zg ?_;simp (disch:=omega) only [go_sem,seval];rw [<- hmO];refine (ACalls.atE (ps:= [.int .i64 10]) (o:=3) rfl c9 (by simp [lO])).useH ?_;simp (disch:=omega) only [ZL,ZC,go_sem,seval];refine ⟨k+1,Za,Za,Weak.mk ?_⟩
        try simp only [Zx,lO]
        simp (disch:=omega) only [Zf,zeroI,Zk,eT,go_sem,seval]
      ·rcases hkd with rfl | rfl | rfl | rfl
       ·have hmT:((Xu x.types (l.take k)).map X0).length=x.types.length:=by rw [Zx,lT]
        have c9:=fun (H:List AM.Obj) (hH:H[2]? =some (.elems 14 ((Xu x.types (l.take k)).map X0)))=>QL (Xu x.types (l.take k)) a.toNat 3 Zb (by rw [lT];omega) (hcap2 k a.toNat Za) hH;rw [AT Za (v:=⟨3,a⟩) (by simp only;omega),<- hsn,lT,<- hmT] at c9
        have eO:XM x.orders (l.take (k+1))=XM x.orders (l.take k):=by rw [hsn];exact Uf Zb
        simp (disch:=omega) only [Zf,zeroI,Zk,go_sem,seval];refine ZB 7 mixed Zg Zg ?_;simp (disch:=omega) only [go_sem,seval];rw [<- hmT];refine (c9 _ rfl).useH ?_;simp (disch:=omega) only [ZL,ZC,go_sem,seval];refine ⟨k+1,Za,Za,Weak.mk ?_⟩
        try simp only [Zx,lT]
        simp (disch:=omega) only [Zf,zeroI,Zk,eO,go_sem,seval]
       ·have hmT:((Xu x.types (l.take k)).map X0).length=x.types.length:=by rw [Zx,lT]
        have c9:=fun (H:List AM.Obj) (hH:H[2]? =some (.elems 14 ((Xu x.types (l.take k)).map X0)))=>QL (Xu x.types (l.take k)) a.toNat 7 Zb (by rw [lT];omega) (hcap2 k a.toNat Za) hH;rw [AT Za (v:=⟨7,a⟩) (by simp only;omega),<- hsn,lT,<- hmT] at c9
        have eO:XM x.orders (l.take (k+1))=XM x.orders (l.take k):=by rw [hsn];exact Uf Zb
        simp (disch:=omega) only [Zf,zeroI,Zk,go_sem,seval];refine ZB 7 mixed Zg Zg ?_;simp (disch:=omega) only [go_sem,seval];rw [<- hmT];refine (c9 _ rfl).useH ?_;simp (disch:=omega) only [ZL,ZC,go_sem,seval];refine ⟨k+1,Za,Za,Weak.mk ?_⟩
        try simp only [Zx,lT]
        simp (disch:=omega) only [Zf,zeroI,Zk,eO,go_sem,seval]
       ·have hmT:((Xu x.types (l.take k)).map X0).length=x.types.length:=by rw [Zx,lT]
        have c9:=fun (H:List AM.Obj) (hH:H[2]? =some (.elems 14 ((Xu x.types (l.take k)).map X0)))=>QL (Xu x.types (l.take k)) a.toNat 8 Zb (by rw [lT];omega) (hcap2 k a.toNat Za) hH;rw [AT Za (v:=⟨8,a⟩) (by simp only;omega),<- hsn,lT,<- hmT] at c9
        have eO:XM x.orders (l.take (k+1))=XM x.orders (l.take k):=by rw [hsn];exact Uf Zb
        simp (disch:=omega) only [Zf,zeroI,Zk,go_sem,seval];refine ZB 7 mixed Zg Zg ?_;simp (disch:=omega) only [go_sem,seval];rw [<- hmT];refine (c9 _ rfl).useH ?_;simp (disch:=omega) only [ZL,ZC,go_sem,seval];refine ⟨k+1,Za,Za,Weak.mk ?_⟩
        try simp only [Zx,lT]
        simp (disch:=omega) only [Zf,zeroI,Zk,eO,go_sem,seval]
       ·have hmT:((Xu x.types (l.take k)).map X0).length=x.types.length:=by rw [Zx,lT]
        have c9:=fun (H:List AM.Obj) (hH:H[2]? =some (.elems 14 ((Xu x.types (l.take k)).map X0)))=>QL (Xu x.types (l.take k)) a.toNat 9 Zb (by rw [lT];omega) (hcap2 k a.toNat Za) hH;rw [AT Za (v:=⟨9,a⟩) (by simp only;omega),<- hsn,lT,<- hmT] at c9
        have eO:XM x.orders (l.take (k+1))=XM x.orders (l.take k):=by rw [hsn];exact Uf Zb
        simp (disch:=omega) only [Zf,zeroI,Zk,go_sem,seval];refine ZB 7 mixed Zg Zg ?_;simp (disch:=omega) only [go_sem,seval];rw [<- hmT];refine (c9 _ rfl).useH ?_;simp (disch:=omega) only [ZL,ZC,go_sem,seval];refine ⟨k+1,Za,Za,Weak.mk ?_⟩
        try simp only [Zx,lT]
        simp (disch:=omega) only [Zf,zeroI,Zk,eO,go_sem,seval]
      ·have eT:Xu x.types (l.take (k+1))=Xu x.types (l.take k):=by rw [hsn];exact Uo (by simp only;omega)
       have eO:XM x.orders (l.take (k+1))=XM x.orders (l.take k):=by rw [hsn];exact Uf (by simp only;omega)
       rcases hkd with rfl | rfl
       ·simp (disch:=omega) only [Zf,zeroI,Zk,go_sem,seval];exact ⟨k+1,Za,Za,Weak.mk (by simp (disch:=omega) only [Zf,zeroI,Zk,eT,eO,go_sem,seval])⟩
       ·simp (disch:=omega) only [Zf,zeroI,Zk,go_sem,seval];exact ⟨k+1,Za,Za,Weak.mk (by simp (disch:=omega) only [Zf,zeroI,Zk,eT,eO,go_sem,seval])⟩
     ·have hkl:k=l.length:=Za
      subst hkl;rw [XX];have cA:=HW x.apart l 5 x.apart_c c Za hl;have cB:=HW x.before l 6 x.before_c c Za hl;refine ZB 9 mixed Zg Zg ?_;simp (disch:=omega) only [go_sem,seval];refine Zn (cA) ?_;simp (disch:=omega) only [go_sem,seval];refine Zn (cB) ?_;simp (disch:=omega) only [go_sem,seval];rw [<- lT l,<- lO l];refine Zo (Weak.fz (o:=2) (by rfl)) ?_;refine Zo (Weak.fz (o:=3) (by rfl)) ?_;refine Zh [] _ _ _ _ ?_;simp (disch:=omega) only [Zs,Zk,ZL,ZC,go_sem,seval]
      exact we (by simp (disch:=omega) only [WE,go_sem,seval])
theorem LG (o:Ord) (a:Int) (w:List Itm) (d:Bool) (hw:w.length<=1048576):PC 81 [.p (eOrd o),.p (.int .i64 a),.p (.list d (w.map Xg))] (eOrd (Q3 o a w)):=by
 refine Zc Tryz.func81 rfl ZiX ?_;have n1:(0<=LV w ⟨1,a⟩)=((⟨1,a⟩:Itm)∈w):=propext V0;have n2:(0<=LV w ⟨2,a⟩)=((⟨2,a⟩:Itm)∈w):=propext V0;have n4:(0<=LV w ⟨4,a⟩)=((⟨4,a⟩:Itm)∈w):=propext V0;have n10:(0<=LV w ⟨10,a⟩)=((⟨10,a⟩:Itm)∈w):=propext V0
 by_cases h1:(⟨1,a⟩:Itm)∈w<;>by_cases h2:(⟨2,a⟩:Itm)∈w<;>by_cases h4:(⟨4,a⟩:Itm)∈w<;>by_cases h10:(⟨10,a⟩:Itm)∈w
 all_goals
  simp (disch:=omega) only [Tryz.f81,go_sem,seval];refine (XN w d ⟨1,a⟩ hw).use ?_;simp (disch:=omega) only [n1,h1,go_sem,seval];refine (XN w d ⟨2,a⟩ hw).use ?_;simp (disch:=omega) only [n2,h2,go_sem,seval];refine (XN w d ⟨4,a⟩ hw).use ?_;simp (disch:=omega) only [n4,h4,go_sem,seval];refine (XN w d ⟨10,a⟩ hw).use ?_;simp (disch:=omega) only [n10,h10,Q3,h1,h2,h4,go_sem,seval]
def S5 : Typ:=⟨[],0,0,0,true,[],0,0,0,0,0,0,0,0,0⟩
theorem NP (t:Typ) (a:Int) (w:List Itm) (d:Bool) (hw:w.length<=1048576) (hc:t.cap.length<=1048576):PC 82 [.p (X0 t),.p (.int .i64 a),.p (.list d (w.map Xg))] (X0 (Un t a w)):=by
 refine Vh [3,8] Tryz.func82 rfl ZiY ?_;have n3:(0<=LV w ⟨3,a⟩)=((⟨3,a⟩:Itm)∈w):=propext V0;have n7:(0<=LV w ⟨7,a⟩)=((⟨7,a⟩:Itm)∈w):=propext V0;have n8:(0<=LV w ⟨8,a⟩)=((⟨8,a⟩:Itm)∈w):=propext V0;have n9:(0<=LV w ⟨9,a⟩)=((⟨9,a⟩:Itm)∈w):=propext V0
 by_cases h3:(⟨3,a⟩:Itm)∈w
 ·simp (disch:=omega) only [Tryz.f82,go_sem,seval];refine (XN w d ⟨3,a⟩ hw).use ?_;simp (disch:=omega) only [n3,h3,go_sem,seval];refine Zo (Weak.ofNil 7 1 (by simp (disch:=omega) only [go_sem,seval]) Zb (Weak.refl _ _ _)) ?_;refine Zh [] _ _ _ _ ?_;simp (disch:=omega) only [go_sem,seval];refine ZY [] [1,2,3,6] (fun k:Nat=> [(7,.sl 2 0 (List.replicate k (1000:Int)).length (List.replicate k (1000:Int)).length),(8,.p (.int .i64 k))]) (fun k=> [X9 t,X9 S5,.elems 1 ((List.replicate k (1000:Int)).map eI)]) (fun k=>k<=t.cap.length) (fun k=>t.cap.length-k) 0 Zb (Weak.mk ?_) ?_
  ·simp (disch:=omega) only [X9,S5,go_sem,seval]
  ·intro k hk
   have hlr:(List.replicate k (1000:Int)).length=k:=Zb
   have hsn:List.replicate (k+1) (1000:Int)=List.replicate k (1000:Int)++ [1000]:=by rw [EJ]
   generalize hm:List.replicate k (1000:Int)=m at hlr hsn ⊢;simp (disch:=omega) only [X9,S5,go_sem,seval];refine cD ?_ ?_<;>intro h<;>simp (disch:=omega) only [Sh.out h,go_sem,seval]
   ·exact ⟨k+1,Za,Za,Weak.mk (by rw [hsn];simp (disch:=omega) only [X9,S5,go_sem,seval])⟩
   ·have hk2:k=t.cap.length:=Za
    subst hk2;subst hm;refine Zo (Weak.fz (o:=2) (by rfl)) ?_;refine Zh [] _ _ _ _ ?_;simp (disch:=omega) only [Zs,Zk,ZL,ZC,go_sem,seval]
    by_cases h7:(⟨7,a⟩:Itm)∈w<;>by_cases h8:(⟨8,a⟩:Itm)∈w<;>by_cases h9:(⟨9,a⟩:Itm)∈w
    all_goals
     refine (XN w d ⟨7,a⟩ hw).use ?_;simp (disch:=omega) only [n7,h7,go_sem,seval];refine (XN w d ⟨8,a⟩ hw).use ?_;simp (disch:=omega) only [n8,h8,go_sem,seval];refine (XN w d ⟨9,a⟩ hw).use ?_;simp (disch:=omega) only [n9,h9,Un,h3,h7,h8,go_sem,seval]
 ·simp (disch:=omega) only [Tryz.f82,go_sem,seval];refine (XN w d ⟨3,a⟩ hw).use ?_;simp (disch:=omega) only [n3,h3,go_sem,seval];refine Zh [] _ _ _ _ ?_;simp (disch:=omega) only [go_sem,seval]
  by_cases h7:(⟨7,a⟩:Itm)∈w<;>by_cases h8:(⟨8,a⟩:Itm)∈w<;>by_cases h9:(⟨9,a⟩:Itm)∈w
  all_goals
   refine (XN w d ⟨7,a⟩ hw).use ?_;simp (disch:=omega) only [n7,h7,go_sem,seval];refine (XN w d ⟨8,a⟩ hw).use ?_;simp (disch:=omega) only [n8,h8,go_sem,seval];refine (XN w d ⟨9,a⟩ hw).use ?_;simp (disch:=omega) only [n9,h9,Un,h3,h7,h8,go_sem,seval]
theorem Od {l:List Itm} {k:Nat} (hk:k<l.length):LV l (nth l k)=(k:Int)↔nth l k ∉ l.take k:=by
 constructor
 ·intro h hm;obtain ⟨j,hj,e⟩:=ZO.1 hm
  have hj2:j<k:=by simp at hj;omega
  have hjl:j<l.length:=Za
  rw [List.getElem_take] at e;unfold LV at h
  cases hf:l.findIdx? (fun w=>decide (nth l k=w)) with
  | none=>rw [hf] at h;simp only at h;omega
  | some i =>
   rw [hf] at h
   have hik:i=k:=by simp only at h;omega
   subst hik;rw [VO] at hf;obtain ⟨_,_,h3⟩:=hf;exact h3 j hj2 (by simp [e])
 ·intro h;refine Rb hk rfl fun j hj e=>h ?_;rw [e,Zj (show j<l.length by omega)];exact ZO.2 ⟨j,by simp;omega,Zb⟩
theorem LN (x:Inst) (hs:ISz x) (hcap: ∀t∈x.types,t.cap.length<=1048576) (l:List Itm) (c:Bool) (hl:l.length<=1048576):PT 45 [.p (Zq x),.p (.list c (l.map Xg))] [.p (Zq (A1 x l)),.p (.int .i64 (WV x l))]:=by
 have s1:=hs.ord;have s2:=hs.typ;have s3:=hs.ap;have s4:=hs.be;refine Ze [9,13,17] Tryz.func45 rfl Ziq ?_;simp (disch:=omega) only [Tryz.f45,go_sem,seval];have zI:Zq zeroI= .agg [.list true [],.list true [],.list true [],.list true [],.list true [],.list true []]:=rfl;refine Zl [1,2,4] (fun k:Nat=> [(6,.p (.int .i64 k))]) (fun _=> [Zf x,Zf zeroI]) (fun k=>k<=l.length/\ ∀j,j<k->Yf x l j=0) (fun k=>l.length-k) 0 Zb (Weak.mk ?_) ?_
 ·simp (disch:=omega) only [Zf,zeroI,Zk,go_sem,seval]
 ·rintro k ⟨hk,hno⟩;simp (disch:=omega) only [Zf,zeroI,Zk,go_sem,seval];refine cD ?_ ?_<;>intro h<;>simp (disch:=omega) only [Sh.out h,go_sem,seval]
  ·have hk2:k<l.length:=Za
   refine Xd ?_;simp (disch:=omega) only [go_sem,seval];refine Zn (Gh x hs (nth l k)) ?_;simp (disch:=omega) only [go_sem,seval];refine cD ?_ ?_<;>intro h2<;>simp (disch:=omega) only [Sh.out h2,go_sem,seval]
   ·have h3:Yj x (nth l k)=false:=by simpa using h2
    have e0:Yf x l k=7:=by rw [Yf,h3];rfl
    have e:WV x l=7:=by rw [UP hk2 hno (by rw [e0];decide),e0]
    have r:A1 x l=zeroI:=by rw [A1,e];rfl
    simp only [e,r,zeroI,Zk];exact we
   ·have h3:Yj x (nth l k)=true:=by simpa using h2
    refine (XN l c (nth l k) hl).use ?_;simp (disch:=omega) only [go_sem,seval];refine cD ?_ ?_<;>intro h4<;>simp (disch:=omega) only [Sh.out h4,go_sem,seval]
    ·have h5:nth l k∈l.take k:=J3 fun h=>h4 ((Od hk2).2 h)
     have e0:Yf x l k=6:=by rw [Yf,if_pos h3,if_pos h5]
     have e:WV x l=6:=by rw [UP hk2 hno (by rw [e0];decide),e0]
     have r:A1 x l=zeroI:=by rw [A1,e];rfl
     simp only [e,r,zeroI,Zk];exact we
    ·have h5:nth l k ∉ l.take k:=(Od hk2).1 (Z2.1 h4);exact ⟨k+1,⟨Za,Zp.2 ⟨hno,Wq.2 ⟨h3,h5⟩⟩⟩,Za,Weak.mk (by simp (disch:=omega) only [Zf,zeroI,Zk,go_sem,seval])⟩
  ·have hkl:k=l.length:=Za
   subst hkl;have e:WV x l=0:=B2 hno
   have r:A1 x l=WE x l:=by rw [A1,if_pos e]
   rw [e,r];clear hk h;refine OQ 11 12 _ [.cells [.p (.list true []),.p (.list true []),.p (.list true []),.p (.list true []),.p (.list true []),.p (.list true [])]] (.ptr 2 0) mixed Zg Zg (by decide) rfl rfl Zb (fun fr'=>by simp (disch:=omega) only [go_sem,seval]) ?_;simp (disch:=omega) only [go_sem,seval];refine Zn (Gj x.apart l 5 x.apart_c c Za hl) ?_;simp (disch:=omega) only [go_sem,seval];refine Zn (Gj x.before l 6 x.before_c c Za hl) ?_;simp (disch:=omega) only [go_sem,seval];refine Zo (Weak.nilC (o:=2) (j:=3) 16 rfl rfl Zb) ?_
   refine Zh [13,17] _ _ _ _ ?_;simp (disch:=omega) only [ZL,ZC,ZM,ZE,go_sem,seval];obtain ⟨os,hos⟩: ∃os,os=XM x.orders l:=⟨_,rfl⟩
   have hol:os.length=x.orders.length:=by rw [hos,U3]
   refine ZY [] [1,2,4,7] (fun q:Nat×List Ord=> [(8,.p (.int .i64 q.1))]) (fun q=> [Zf x,Zf zeroI,.cells [.p (.list x.net.places_c (x.net.places.map eS)),.p (.list x.net.arcs_c (x.net.arcs.map VE)),.p (.list true []),.sl 3 0 q.2.length q.2.length,.p (.list false ((YT x.apart l 5 x.apart.length).map eP)),.p (.list false ((YT x.before l 6 x.before.length).map eP))],.elems 16 (q.2.map eOrd)]) (fun q=>q.1<=x.orders.length/\q.2=os.take q.1) (fun q=>x.orders.length-q.1) (0,[]) ⟨Zb,Zb⟩ (Weak.mk ?_) ?_
   ·simp (disch:=omega) only [Zf,zeroI,Zk,go_sem,seval]
   ·rintro ⟨k,m⟩ ⟨hk,hm⟩;simp only at hk hm
    have hml:m.length=k:=by rw [hm,Z7];omega
    simp (disch:=omega) only [Zf,zeroI,Zk,go_sem,seval];refine cD ?_ ?_<;>intro h<;>simp (disch:=omega) only [Sh.out h,go_sem,seval]
    ·have hk2:k<x.orders.length:=Za
     have htk:os.take (k+1)=os.take k++ [Q3 (nth x.orders k) k l]:=by
      rw [XZ Za]
      congr 2
      rw [<- Zj Za,hos,Yg hk2]
     refine ZB 11 mixed Zg Zg ?_;simp (disch:=omega) only [go_sem,seval];refine Zn (LG (nth x.orders k) k l c hl) ?_;simp (disch:=omega) only [go_sem,seval];exact ⟨(k+1,m++ [Q3 (nth x.orders k) k l]),⟨by simp only;omega,by simp only;rw [htk,hm]⟩,by simp only;omega,Weak.mk (by simp (disch:=omega) only [Zf,zeroI,Zk,go_sem,seval])⟩
    ·have hkl:k=x.orders.length:=Za
     have hmo:m=os:=by rw [hm,hkl,<- hol,XX]
     subst hmo;clear hm hk h;refine Zo (Weak.nilC (o:=2) (j:=2) 14 rfl rfl Zb) ?_;refine Zh [17] _ _ _ _ ?_;simp (disch:=omega) only [ZL,ZC,ZM,ZE,go_sem,seval];obtain ⟨ts,hts⟩: ∃ts,ts=Xu x.types l:=⟨_,rfl⟩
     have htl:ts.length=x.types.length:=by rw [hts,VX]
     refine ZY [] [1,2,4,7] (fun q:Nat×List Typ=> [(9,.p (.int .i64 q.1))]) (fun q=> [Zf x,Zf zeroI,.cells [.p (.list x.net.places_c (x.net.places.map eS)),.p (.list x.net.arcs_c (x.net.arcs.map VE)),.sl 4 0 q.2.length q.2.length,.sl 3 0 m.length m.length,.p (.list false ((YT x.apart l 5 x.apart.length).map eP)),.p (.list false ((YT x.before l 6 x.before.length).map eP))],.elems 16 (m.map eOrd),.elems 14 (q.2.map X0)]) (fun q=>q.1<=x.types.length/\q.2=ts.take q.1) (fun q=>x.types.length-q.1) (0,[]) ⟨Zb,Zb⟩ (Weak.mk ?_) ?_
     ·simp (disch:=omega) only [Zf,zeroI,Zk,go_sem,seval]
     ·rintro ⟨i,n⟩ ⟨hi,hn⟩;simp only at hi hn
      have hnl:n.length=i:=by rw [hn,Z7];omega
      simp (disch:=omega) only [Zf,zeroI,Zk,go_sem,seval];refine cD ?_ ?_<;>intro h<;>simp (disch:=omega) only [Sh.out h,go_sem,seval]
      ·have hi2:i<x.types.length:=Za
       have htk:ts.take (i+1)=ts.take i++ [Un (nth x.types i) i l]:=by
        rw [XZ Za]
        congr 2
        rw [<- Zj Za,hts,U5 hi2]
       refine ZB 11 mixed Zg Zg ?_;simp (disch:=omega) only [go_sem,seval];refine Zn (NP (nth x.types i) i l c hl (hcap _ (Zt hi2))) ?_;simp (disch:=omega) only [go_sem,seval];exact ⟨(i+1,n++ [Un (nth x.types i) i l]),⟨by simp only;omega,by simp only;rw [htk,hn]⟩,by simp only;omega,Weak.mk (by simp (disch:=omega) only [Zf,zeroI,Zk,go_sem,seval])⟩
      ·have hin:i=x.types.length:=Za
       have hnt:n=ts:=by rw [hn,hin,<- htl,XX]
       subst hnt;clear hn hi h;refine Zo (Weak.fz (o:=3) (by rfl)) ?_;refine Zo (Weak.fz (o:=4) (by rfl)) ?_;refine Zh [] _ _ _ _ ?_;simp (disch:=omega) only [Zs,Zk,ZL,ZC,go_sem,seval];exact we (by simp (disch:=omega) only [WE,hos,hts,go_sem,seval])
set_option maxRecDepth 60000
theorem Lt {α:Type} [Inhabited α] {l:List α} {i j:Nat} {a:α} (h:i<l.length):nth (l.set i a) j=if i=j then a else nth l j:=by
 grind [nth]
theorem rF {α:Type} [Inhabited α] {l:List α} {j:Nat} {a:α} (h:j<l.length):nth (l++ [a]) j=nth l j:=by
 grind [nth]
theorem Ls {α:Type} [Inhabited α] {l:List α} {a:α} :nth (l++ [a]) l.length=a:=by
 grind [nth]
def cfK (a b:Col):Int:=rQ [WH a.typ b.typ,WH a.set b.set]
theorem fT {a b:Int} :WH a b<0↔a<b:=by grind [WH]
theorem fU {a b:Int} :WH a b=0↔a=b:=by grind [WH]
theorem Fp {a b:Col} :cfK a b<0↔a.typ<b.typ\/(a.typ=b.typ/\a.set<b.set):=by
 grind [cfK,ER,fU,fT]
theorem pM : Go.Sort.SWO (ltOf cfK) where
 irrefl x:=by grind [ltOf,Fp]
 trans x y z h1 h2:=by simp only [ltOf,Zr,Fp] at *;omega
 ntrans x y z h1 h2:=by grind [ltOf,Fp]
theorem Mz (a b:Col):PC 175 [.p (Xk a),.p (Xk b)] (.int .i64 (cfK a b)):=by
 refine Zc Tryz.func175 rfl ZaG ?_;simp (disch:=omega) only [Tryz.f175,go_sem,seval];refine Xd (Zd ?_);refine Zn (DZ a.typ b.typ) (Zd ?_);refine Zn (DZ a.set b.set) (Zd ?_);refine Zn (rR [WH a.typ b.typ,WH a.set b.set] false Zb) (Zd ?_)
 rfl
theorem tG (xs:List Col) (hl:xs.length<=1048576) {H:List AM.Obj} {o:Nat} (hH:H[o]? =some (.elems 7 (xs.map Xk))) :
  ACalls Tryz.prog 109 [.sl o 0 xs.length xs.length,.fn (.func 175) [] []] H fun y H'=>y= .tup []/\ ∃ys:List Col,ys.Perm xs/\ys.Pairwise (fun a b=> ¬cfK b a<0)/\H'=H.set o (.elems 7 (ys.map Xk)) :=
 ACalls.sortFunc N7 iS 7 Tryz.isAgg121 Tryz.sizeOf121 Xk (fun x=>⟨_,rfl,rfl,rfl⟩) cfK pM 175 Mz xs Za hH
def kd (c:Col):Kd:=⟨c.typ,c.set⟩
def Bst (l:List Col) (k:Nat) (d:Col):Prop:= ∃j,j<k/\nth l j=d/\ ∀i,i<k->kd (nth l i)=kd d->d.price<(nth l i).price\/(d.price=(nth l i).price/\j<=i)
structure Chp (l:List Col) (k:Nat) (m:List (Kd×Int)) (out:List Col):Prop where
 len:out.length<=k
 at1: ∀i,i<out.length->mq m (kd (nth out i))=some (i:Int)
 at2: ∀q v,mq m q=some v-> ∃i,i<out.length/\v=i/\kd (nth out i)=q
 bst: ∀i,i<out.length->Bst l k (nth out i)
 all: ∀j,j<k-> ∃i,i<out.length/\kd (nth out i)=kd (nth l j)
theorem fN (l:List Col):Chp l 0 [] []:=⟨Zb,fun i h=>by simp at h,fun q v h=>by simp [mq] at h,fun i h=>by simp at h,fun j h=>by simp at h⟩
theorem pR {l:List Col} {k:Nat} {m m':List (Kd×Int)} {out:List Col} (h:Chp l k m out) (hn:mq m (kd (nth l k))=none) (hm: ∀q,mq m' q=if q=kd (nth l k) then some (out.length:Int) else mq m q):Chp l (k+1) m' (out++ [nth l k]):=by
 have hno: ∀i,i<out.length->kd (nth out i)≠kd (nth l k):=fun i hi e=>by
  have:=h.at1 i hi
  grind
 have split: ∀i,i<(out++ [nth l k]).length->(i<out.length/\nth (out++ [nth l k]) i=nth out i)\/(i=out.length/\nth (out++ [nth l k]) i=nth l k):=fun i hi=>by
  simp only [Zz,ZA,ZH] at hi;rcases Wy i out.length with h1 | h1
  ·grind [rF]
  ·obtain rfl:i=out.length:=Za
   exact .inr ⟨rfl,Ls⟩
 refine ⟨by have:=h.len;simp;omega,fun i hi=> ?_,fun q v hq=> ?_,fun i hi=> ?_,fun j hj=> ?_⟩
 ·rcases split i hi with ⟨h1,e⟩ | ⟨rfl,e⟩
  ·rw [e,hm,if_neg (hno i h1)];exact h.at1 i h1
  grind
 ·rw [hm] at hq
  split at hq
  ·grind [Ls]
  ·obtain ⟨i,h1,h2,h3⟩:=h.at2 q v hq
   grind
 ·rcases split i hi with ⟨h1,e⟩ | ⟨rfl,e⟩
  ·rw [e];obtain ⟨j,h2,h3,h4⟩:=h.bst i h1;refine ⟨j,Za,h3,fun p hp he=> ?_⟩
   grind
  ·rw [e];refine ⟨k,Za,rfl,fun p hp he=> ?_⟩;rcases Ck.1 hp with h5 | rfl
   ·obtain ⟨i,h6,h7⟩:=h.all p h5
    grind
   omega
 ·rcases Ck.1 hj with h5 | rfl
  ·obtain ⟨i,h6,h7⟩:=h.all j h5
   grind
  ·exact ⟨out.length,Zb,by rw [Ls]⟩
theorem pS {l:List Col} {k:Nat} {m:List (Kd×Int)} {out:List Col} {i:Nat} (h:Chp l k m out) (hi:i<out.length) (hk:kd (nth out i)=kd (nth l k)):Chp l (k+1) m (if (nth l k).price<(nth out i).price then out.set i (nth l k) else out):=by
 have hun: ∀j,j<out.length->kd (nth out j)=kd (nth l k)->j=i:=fun j hj e=>by
  have h1:=h.at1 j hj;have h2:=h.at1 i hi
  grind
 split
 ·rename_i hp
  have key: ∀j,kd (nth (out.set i (nth l k)) j)=kd (nth out j):=fun j=>by
   grind [Lt]
  refine ⟨by have:=h.len;simp;omega,fun j hj=> ?_,fun q v hq=> ?_,fun j hj=> ?_,fun j hj=> ?_⟩
  ·rw [key];exact h.at1 j (by grind)
  ·obtain ⟨j,h1,h2,h3⟩:=h.at2 q v hq
   grind
  ·simp only [Vs] at hj;rw [Lt hi]
   split
   ·rename_i e;subst e;refine ⟨k,Za,rfl,fun p hp2 he=> ?_⟩;rcases Ck.1 hp2 with h5 | rfl
    ·obtain ⟨j,h6,h7,h8⟩:=h.bst i hi
     grind
    omega
   ·rename_i e;obtain ⟨p,h2,h3,h4⟩:=h.bst j hj;refine ⟨p,Za,h3,fun p' hp' he=> ?_⟩
    grind
  ·rcases Ck.1 hj with h5 | rfl
   ·obtain ⟨p,h6,h7⟩:=h.all j h5
    grind
   grind
 ·rename_i hp;refine ⟨by have:=h.len;omega,h.at1,h.at2,fun j hj=> ?_,fun j hj=> ?_⟩
  ·obtain ⟨p,h2,h3,h4⟩:=h.bst j hj;refine ⟨p,Za,h3,fun p' hp' he=> ?_⟩
   grind
  ·rcases Ck.1 hj with h5 | rfl
   ·exact h.all j h5
   grind
structure Cheap (l ys:List Col):Prop where
 asc:ys.Pairwise fun a b=>cfK a b<0
 bst: ∀d∈ys,Bst l l.length d
 all: ∀c∈l,∃d∈ys,kd d=kd c
theorem pQ {l:List Col} {m:List (Kd×Int)} {out ys:List Col} (h:Chp l l.length m out) (hp:ys.Perm out) (ha:ys.Pairwise fun a b=> ¬cfK b a<0):Cheap l ys:=by
 have hnd:out.Pairwise fun a b=>kd a≠kd b:=by
  rw [KK];intro i j hi hj hij e;have h1:=h.at1 i hi;have h2:=h.at1 j hj
  grind [Zj]
 have hnd2:ys.Pairwise fun a b=>kd a≠kd b:=(hp.pairwise_iff fun h e=>h e.symm).2 hnd;refine ⟨(hnd2.and ha).imp fun {a b} hh=> ?_,fun d hd=> ?_,fun c hc=> ?_⟩
 ·rw [Fp] at hh ⊢
  grind [kd]
 ·obtain ⟨i,hi,rfl⟩:=ZO.1 (hp.mem_iff.1 hd);rw [<- Zj hi];exact h.bst i hi
 ·obtain ⟨j,hj,rfl⟩:=ZO.1 hc;obtain ⟨i,hi,e⟩:=h.all j hj
  grind [Zj]
theorem O2 (l:List Col) (c:Bool) (hl:l.length<=8192):ACalls Tryz.prog 137 [.p (.list c (l.map Xk))] [] fun y H'=> ∃ys:List Col,(Cheap l ys/\ys.length<=l.length)/\y= .p (.list false (ys.map Xk))/\H'= []:=by
 refine Ze [15] Tryz.func137 rfl Zac ?_;simp (disch:=omega) only [Tryz.f137,go_sem,seval];refine Zl [3,11,12] (fun q:Nat×List (Kd×Int)×List Col=> [(4,.sl 1 0 q.2.2.length q.2.2.length),(13,.p (.int .i64 q.1))]) (fun q=> [.map (q.2.1.map (MH cV)),.elems 7 (q.2.2.map Xk)]) (fun q=>q.1<=l.length/\Chp l q.1 q.2.1 q.2.2) (fun q=>l.length-q.1) (0,[],[]) ⟨Zb,fN l⟩ (Weak.ofNil 4 7 (by simp (disch:=omega) only [go_sem,seval]) Zb (Weak.mk ?_)) ?_
 ·simp (disch:=omega) only [Zk,ZH,go_sem,seval]
 ·rintro ⟨k,m,out⟩ ⟨hk,hC⟩;simp only at hk hC;have hol:=hC.len;refine Zd ?_;refine cD ?_ ?_<;>intro h1<;>simp (disch:=omega) only [Sh.out h1,go_sem,seval,↓reduceIte]
  ·have hk2:k<l.length:=Za
   refine jN (l:=m) (k:=kd (nth l k)) jH (fun _ _=>trivial) trivial (by rfl) (Zd ?_)
   cases hq:mq m (kd (nth l k)) with
   | none =>
    simp (disch:=omega) only [Aq,Option.getD_none,go_sem,seval];refine LD (l:=m) (k:=kd (nth l k)) jH (fun _ _=>trivial) trivial (by rfl) fun m' hm' _=> ?_;simp (disch:=omega) only [ZC,go_sem,seval];exact ⟨(k+1,m',out++ [nth l k]),⟨Za,pR hC hq hm'⟩,Za,Weak.mk (by simp (disch:=omega) only [Xn,Zs,Zk,Zz,ZA,ZH,Xi,go_sem,seval])⟩
   | some v =>
    obtain ⟨i,hi,rfl,hkd⟩:=hC.at2 _ _ hq;have hold:=pS hC hi hkd;simp (disch:=omega) only [J7,JX,go_sem,seval];refine Xd ?_;simp (disch:=first | omega | (simp only [ZA,ZH,Zz,Zx,Z7,Xx]<;>omega)) only [Vm hi,hi,go_sem,seval,↓reduceIte];refine ZX ?_ ?_<;>intro h2
    ·rw [if_pos h2] at hold;simp (disch:=first | omega | (simp only [ZA,ZH,Zz,Zx,Z7,Xx]<;>omega)) only [go_sem,seval];exact ⟨(k+1,m,out.set i (nth l k)),⟨Za,hold⟩,Za,Weak.mk (by simp (disch:=omega) only [UD,Vs,go_sem,seval])⟩
    ·rw [if_neg h2] at hold;exact ⟨(k+1,m,out),⟨Za,hold⟩,Za,wk⟩
  ·have hkl:k=l.length:=Za
   subst hkl;refine (tG out Za (H:=_) (o:=1) rfl).mono ?_;rintro y H' ⟨rfl,ys,g1,g2,rfl⟩;have hyl:ys.length=out.length:=g1.length_eq;simp (disch:=omega) only [ZL,ZC,go_sem,seval];rw [<- hyl];refine Zo (Weak.fz (o:=1) (by rfl)) (Zh [] _ _ _ _ (Jx ?_));exact ⟨.p (.list false (ys.map Xk)),[],wk,ys,⟨pQ hC g1 g2,Za⟩,rfl,rfl⟩
def Yp (x:Inst):Nat->Nat
 | 0=>0
 | i+1=>if (nth x.orders i).off=true then Yp x i else Yp x i|||pw i
theorem Nl (x:Inst): ∀i,Yp x i<2^i
 | 0=>by simp [Yp]
 | i+1=>by
  have:=Nl x i
  have h:2^(i+1)=2*2^i:=Za
  rw [Yp]
  split
  ·omega
  ·exact Q1 Za (by rw [pw];omega)
theorem U1 (x:Inst): ∀(n i:Nat),(Yp x n).testBit i=(decide (i<n)&& !(nth x.orders i).off)
 | 0,i=>by simp [Yp]
 | n+1,i=>by
  rw [Yp]
  split
  ·rename_i h;rw [U1 x n i]
   by_cases e:i=n
   ·subst e;simp [h]
   ·have:decide (i<n+1)=decide (i<n):=by simp;omega
    rw [this]
  ·rename_i h;rw [Aw,U1 x n i,pw,Nat.testBit_two_pow]
   grind
theorem wU (o:Ord):PC 173 [.p (eOrd o)] (.bool true):=by
 refine Zc Tryz.func173 rfl ZaE ?_;simp (disch:=omega) only [Tryz.f173,go_sem,seval,↓reduceIte]
theorem Zdb (x:Inst) (hn:x.orders.length<=10):PC 172 [.p (Zq x),.fn (.func 173) [] []] (.int .i64 ((Yp x x.orders.length:Nat):Int)):=by
 refine Ze [] Tryz.func172 rfl ZaD ?_;simp (disch:=omega) only [Tryz.f172,go_sem,seval];refine Zl [1,9,10] (fun k:Nat=> [(5,.p (.int .i64 ((Yp x k:Nat):Int))),(11,.p (.int .i64 k))]) (fun _=> [Zf x]) (fun k=>k<=x.orders.length) (fun k=>x.orders.length-k) 0 Zb (Weak.mk ?_) ?_
 ·have h00:((Yp x 0:Nat):Int)=0:=rfl;simp (disch:=omega) only [h00,Zf,go_sem,seval]
 ·intro k hk;refine YH ?_;refine cD ?_ ?_<;>intro h1<;>simp (disch:=omega) only [Sh.out h1,go_sem,seval,↓reduceIte]
  ·have hk2:k<x.orders.length:=Za
   have hm:=Nl x k;have hp:2^k<=2^10:=Ym Za Za;have hpw:pw k<=1024:=hp;refine Je ?_ ?_<;>intro h2
   ·refine (wU (nth x.orders k)).use (Zd ?_)
    have ho:(nth x.orders k).off=false:=by grind
    exact ⟨k+1,Za,Za,Weak.mk (by simp (disch:=omega) only [Yp,ho,YY,go_sem,seval,↓reduceIte])⟩
   ·have ho:(nth x.orders k).off=true:=by grind
    exact ⟨k+1,Za,Za,Weak.mk (by simp (disch:=omega) only [Yp,ho,go_sem,seval,↓reduceIte])⟩
  ·have hkl:k=x.orders.length:=Za
   subst hkl;exact we
theorem ZcI (x:Inst) (hn:x.orders.length<=10):PC 135 [.p (Zq x)] (.int .i64 ((Yp x x.orders.length:Nat):Int)):=by
 refine Zc Tryz.func135 rfl Zaa ?_;simp (disch:=omega) only [Tryz.f135,go_sem,seval];refine (Zdb x hn).use ?_;simp (disch:=omega) only [go_sem,seval]
def Ri (S M:Nat):Bool:=(List.range 63).all fun i=> !S.testBit i||M.testBit i
theorem sY (S M:Nat) (hS:S<9223372036854775808):PC 174 [.p (.int .i64 (S:Int)),.p (.int .i64 (M:Int))] (.bool (Ri S M)):=by
 refine Zc Tryz.func174 rfl ZaF ?_;simp (disch:=omega) only [Tryz.f174,go_sem,seval];have hb:=DX (S:=S) (M:=M) hS
 have hd:decide (IntKind.i64.wrap ((BitVec.ofInt 64 (S:Int)&&& ~~~BitVec.ofInt 64 (M:Int)).toNat:Int)=0)=((List.range 63).all fun i=> !S.testBit i||M.testBit i):=by
  grind
 exact ZW (fun b=>V.p (PV.bool b)) hd
def rightB (x:Inst) (c:Col):Bool:=decide (0<=c.typ)&&(decide (c.typ<x.types.length)&&(decide (0<c.set)&&(Ri c.set.toNat (Yp x x.orders.length)&&(decide (0<=c.price)&&decide (c.price<=18014398509481984)))))
theorem TF (x:Inst) (c:Col) (hs:c.set<9223372036854775808) (ht:x.types.length<=1048576):PC 136 [.p (Zq x),.p (Xk c),.p (.int .i64 ((Yp x x.orders.length:Nat):Int))] (.bool (rightB x c)):=by
 refine Zc Tryz.func136 rfl Zab ?_;simp (disch:=omega) only [Tryz.f136,go_sem,seval];refine gT ?_ ?_<;>intro h1<;>simp (disch:=omega) only [Sh.out h1,go_sem,seval,↓reduceIte]
 ·refine gT ?_ ?_<;>intro h2<;>simp (disch:=omega) only [Sh.out h2,go_sem,seval,↓reduceIte]
  ·refine gT ?_ ?_<;>intro h3<;>simp (disch:=omega) only [Sh.out h3,go_sem,seval,↓reduceIte]
   ·obtain ⟨S,hS⟩: ∃S:Nat,c.set=(S:Int):=⟨c.set.toNat,Za⟩
    have e1:rightB x c=(Ri S (Yp x x.orders.length)&&(decide (0<=c.price)&&decide (c.price<=18014398509481984))):=by
     simp_all [rightB]
    rw [hS];refine (sY S (Yp x x.orders.length) Za).use (Zd ?_);refine gT ?_ ?_<;>intro h4<;>simp (disch:=omega) only [Sh.out h4,go_sem,seval,↓reduceIte]
    ·refine gT ?_ ?_<;>intro h5<;>simp (disch:=omega) only [Sh.out h5,go_sem,seval,↓reduceIte]
     ·grind
     grind
    grind
   grind [rightB]
  grind [rightB]
 ·simp [rightB,h1]
theorem ZoZ (n:Nat) (h0:0<n) (h:n<16):PC 145 [.p (.int .u64 n)] (.int .i64 (AU n)):=by
 refine Zc Tryz.func145 rfl Zaj ?_;simp (disch:=omega) only [Tryz.f145,go_sem,seval];refine (Zdg n h0 h).use ?_;simp (disch:=omega) only [go_sem,seval]
theorem NY (n:Nat) (h0:0<n) (h:n<16):PC 111 [.p (.int .i64 n)] (.int .i64 (AU n)):=by
 refine Zc Tryz.func111 rfl zR ?_;simp (disch:=omega) only [Tryz.f111,go_sem,seval];refine cD ?_ ?_<;>intro h1<;>simp (disch:=omega) only [Sh.out h1,go_sem,seval]
 ·omega
 ·refine (ZoZ n h0 h).use ?_;simp (disch:=omega) only [go_sem,seval]
def skpF (x:Inst) (i:Nat):Int:=if (unsF x i).2=0/\(Y1 (unsF x i).1).2=0 then (Y1 (unsF x i).1).1 else-1
def Yh (ys:List Col) (i:Nat):List Col:=ys.filter fun c=>decide (AU c.set.toNat=(i:Int))
def fstF (n:Nat) (ys:List Col):List (List Col):=(List.range n).map (Yh ys)
theorem aY {ys:List Col} {k i:Nat} (h:k<ys.length):Yh (ys.take (k+1)) i=if AU (nth ys k).set.toNat=(i:Int) then Yh (ys.take k) i++ [nth ys k] else Yh (ys.take k) i:=by
 grind [XZ,Yh,nth]
theorem lJ (i:Nat):Yh [] i= []:=rfl
theorem CP (ys:List Col) (k i:Nat):(Yh (ys.take k) i).length<=ys.length:=by
 refine JZ (ED _ _) ?_;simp;omega
theorem JO (ys):fstF 0 ys= []:=rfl
theorem QT (ys):fstF 1 ys= [Yh ys 0]:=rfl
theorem QU (ys):fstF 2 ys= [Yh ys 0,Yh ys 1]:=rfl
theorem QV (ys):fstF 3 ys= [Yh ys 0,Yh ys 1,Yh ys 2]:=rfl
theorem QW (ys):fstF 4 ys= [Yh ys 0,Yh ys 1,Yh ys 2,Yh ys 3]:=rfl
def CV : List (List Col)->Nat->List V
 | [],_=> []
 | p::P,o=> .sl o 0 p.length p.length::CV P (o+1)
def Ib (P:List (List Col)):List AM.Obj:=P.map fun p=> .elems 7 (p.map Xk)
theorem aK {n0:Nat} {fr:List V} {a b c:AM.Obj} (h0:n0<=4) (n:Nat):Weak n0 fr [a,b,c,.cells (List.replicate n (.p (.list true [])))] fr (a::b::c:: .cells (CV (List.replicate n []) 4)::Ib (List.replicate n [])):=by
 have hr: ∀(k o:Nat),CV (List.replicate k []) o=(List.range k).map fun j=>V.sl (o+j) 0 0 0:=fun k=>by
  induction k with
  | zero=>intro o;rfl
  | succ k ih =>
   intro o;rw [JS,CV,ih,List.range_succ_eq_map,Zs,List.map_map];simp only [ZH,VY,List.cons.injEq,true_and];apply Wu
   grind
 have key: ∀k,k<=n->Weak n0 fr [a,b,c,.cells (List.replicate n (.p (.list true [])))] fr (a::b::c:: .cells (((List.range k).map fun j=>V.sl (4+j) 0 0 0)++List.replicate (n-k) (.p (.list true [])))::List.replicate k (.elems 7 [])):=fun k=>by
  induction k with
  | zero=>grind [Weak.refl]
  | succ k ih =>
   intro hk
   have h1:=(ih Za).trans (Weak.nilC (n0:=n0) (fr:=fr) (o:=3) (j:=k) 7 (by rfl) (by
    grind) (by simp;omega))
   have e1:List.length (a::b::c::AM.Obj.cells (((List.range k).map fun j=>V.sl (4+j) 0 0 0)++List.replicate (n-k) (.p (.list true [])))::List.replicate k (AM.Obj.elems 7 []))=4+k:=by simp;omega
   have e2:(((List.range k).map fun j=>V.sl (4+j) 0 0 0)++List.replicate (n-k) (V.p (.list true []))).set k (.sl (4+k) 0 0 0)=((List.range (k+1)).map fun j=>V.sl (4+j) 0 0 0)++List.replicate (n-(k+1)) (V.p (.list true [])):=by
    rw [EF _ _ Zb,show n-k=(n-(k+1))+1 by omega,JS,X8,Xn];simp
   grind [EJ]
 have:=key n (ZF _)
 simp_all [Ib]
def skF (x:Inst) (n:Nat):List Int:=(List.range n).map (skpF x)
def pH (x:Inst) (m:Int) (f g:V):AM.Obj:= .cells [.p (.list x.net.places_c (x.net.places.map eS)),.p (.list x.net.arcs_c (x.net.arcs.map VE)),.p (.list x.types_c (x.types.map X0)),.p (.list x.orders_c (x.orders.map eOrd)),.p (.list x.apart_c (x.apart.map eP)),.p (.list x.before_c (x.before.map eP)),f,g,.mp 1,.p (.int .i64 m)]
theorem Ql {x:Inst} {c:Col} (h:rightB x c=true) (hs:c.set<9223372036854775808): ∃S:Nat,c.set=S/\0<S/\S<2^x.orders.length/\ ∀i,S.testBit i=true->i<x.orders.length/\(nth x.orders i).off=false:=by
 simp only [rightB,Zv,Zr] at h;obtain ⟨_,_,h3,h4,_⟩:=h
 have key: ∀i,c.set.toNat.testBit i=true->i<x.orders.length/\(nth x.orders i).off=false:=fun i hi=>by
  have h63:i<63:=by
   rcases Wy i 63 with h | h
   ·exact h
   ·have:2^63<=2^i:=Ym Za h
    grind [An]
  have:=ZD.1 h4 i (ZP.2 h63)
  grind [U1]
 refine ⟨c.set.toNat,Za,Za,?_,key⟩;refine Nat.lt_pow_two_of_testBit _ fun i hi=> ?_
 grind
theorem Zdh {S n:Nat} (h0:0<S) (h:S<2^n) (hn:n<=4):AU S<n/\0<=AU S:=by
 have:n=0\/n=1\/n=2\/n=3\/n=4:=Za
 unfold AU
 grind
theorem Gv (x:Inst) (k:Nat):skF x (k+1)=skF x k++ [skpF x k]:=by simp [skF,X8]
theorem Kh (x:Inst) (k:Nat):(skF x k).length=k:=by simp [skF]
theorem ZjT (x:Inst):skF x 0= []:=rfl
theorem Nc {P:Program} {ko:List Nat} {l:List Oper} {n:Nat} {rem:List Nat} {fr:List V} {H:List AM.Obj} {K:List V->List AM.Obj->Prop} (m:Nat) (Y:V) (Z:List AM.Obj) (hr:Qk l rem= [m]) (h:Zw P (Z8 l m) fr H fun y H'=>y=Y/\H'=Z)
  (k:(∀k∈ko,oat Z k=oat H k)/\Cg P ko l n (rem.erase m) (Up fr (Z8 l m).dst Y) Z K):Cg P ko l (n+1) rem fr H K :=
 HI m _ hr h fun y H' hq=>by grind
theorem TE (x:Inst) (l:List Col) (lc:Bool) (hn:x.orders.length<=4) (ht:x.types.length<=1048576) (hu: ∀i:Nat,scoR 1152921504606846976 (unsF x i).1) (hs: ∀c∈l,c.set<9223372036854775808) (hl:l.length<=1048576) :
  ACalls Tryz.prog 105 [.p (Zq x),.p (.list lc (l.map Xk))] [] fun y H'=>(8192<l.length/\y= .tup [.p .nilp,.p (.int .i64 4)]/\H'= [])\/(l.length<=8192/\(∃c∈l,rightB x c=false)/\y= .tup [.p .nilp,.p (.int .i64 2)]/\H'= []) \/
   (l.length<=8192/\(∀c∈l,rightB x c=true)/\ ∃ys,(Cheap l ys/\ys.length<=l.length)/\y= .tup [.ptr 2 0,.p (.int .i64 0)]/\H'= .cells (List.replicate 6 .junk)::(YR x (.list false ((fstF x.orders.length ys).map We)) (.list false ((skF x x.orders.length).map eI)) (Yp x x.orders.length) []).map (shO 1)):=by
 refine Ze [10] Tryz.func105 rfl zM ?_;simp (disch:=omega) only [Tryz.f105,go_sem,seval];refine cD ?_ ?_<;>intro h0<;>simp (disch:=omega) only [Sh.out h0,go_sem,seval]
 ·exact ⟨_,[],wk,.inl ⟨Za,rfl,rfl⟩⟩
 ·refine XW [1] 4 mixed Zg Zg Zg Zb (Zd ?_);refine Zn (ZcI x Za) (Zd ?_);refine Xm 1 _ _ Zg (by refine Zd ?_;exact ⟨rfl,rfl⟩) (Wi ?_);simp (disch:=omega) only [show ∀(l:List V),QO (V.mp 1::l)=none from fun _=>rfl,Option.map_none,go_sem,seval];refine Zl [1,2,6,27,28] (fun k:Nat=> [(29,.p (.int .i64 k))]) (fun _=> [Zf x,.map [],pH x ((Yp x x.orders.length:Nat):Int) (.p (.list true [])) (.p (.list true []))]) (fun k=>k<=l.length/\ ∀j,j<k->rightB x (nth l j)=true) (fun k=>l.length-k) 0 ⟨Za,fun j hj=>Za⟩ (Weak.mk ?_) ?_
  ·simp (disch:=omega) only [Zf,pH,go_sem,seval]
  ·rintro k ⟨hk,hr⟩;simp (disch:=omega) only [Zf,pH,go_sem,seval];refine cD ?_ ?_<;>intro h1<;>simp (disch:=omega) only [Sh.out h1,go_sem,seval,↓reduceIte]
   ·have hk2:k<l.length:=Za
    refine Xd (Zd ?_);refine Zn (TF x (nth l k) (hs _ (ZZ hk2)) ht) (Zd ?_)
    cases hq:rightB x (nth l k) with
    | false =>
     refine GA ?_;exact ⟨_,[],wk,.inr (.inl ⟨Za,⟨_,ZZ hk2,hq⟩,rfl,rfl⟩)⟩
    | true =>
     refine GB ?_
     exact ⟨k+1,⟨Za,fun j hj=>by
      grind⟩,Za,wk⟩
   ·have hkl:k=l.length:=Za
    subst hkl
    have hall: ∀c∈l,rightB x c=true:=fun c hc=>by
     obtain ⟨j,hj,rfl⟩:=ZO.1 hc
     grind [Zj]
    clear hr hk h1;generalize ((Yp x x.orders.length:Nat):Int)=m;have hun: ∀i:Nat,PT 138 [.p (Zq x),.p (.int .i64 i)] [.p (Ei (unsF x i).1),.p (.int .i64 (unsF x i).2)]:=fun i=>NH x i Za;refine YU (Es 4 rfl rfl (Zd ?_));refine ⟨_,_,aQ 190 84 _ _ x.orders.length 24 (.list true []) rfl Zg Zg Zg Zg (by rfl) Za Za (by simp (disch:=omega) only [go_sem,seval]) (by simp (disch:=omega) only [go_sem,seval]),?_⟩
    refine Zd ?_
    have h5:x.orders.length=0\/x.orders.length=1\/x.orders.length=2\/x.orders.length=3\/x.orders.length=4:=Za
    refine Zo (aK Zb x.orders.length) ?_;refine Zh [17] _ _ _ _ (Zd ?_);refine (O2 l lc Za).useV fun ys hC=>Zd ?_;obtain ⟨hC,hyl⟩:=hC;rcases h5 with h5 | h5 | h5 | h5 | h5
    all_goals
     simp (disch:=omega) only [h5,List.replicate,CV,Ib,Zs,Zk,go_sem,seval];refine Zl [2,6,50,51] (fun k:Nat=> [(52,.p (.int .i64 k))]) (fun k=> [Zf x,.map [],pH x m (.sl 3 0 x.orders.length x.orders.length) (.p (.list true [])),.cells (CV (fstF x.orders.length (ys.take k)) 4)]++Ib (fstF x.orders.length (ys.take k))) (fun k=>k<=ys.length) (fun k=>ys.length-k) 0 Za (Weak.mk ?_) ?_
     ·simp (disch:=omega) only [h5,Q2,lJ,ZH,JO,QT,QU,QV,QW,CV,Ib,Zs,Zk,ZM,ZE,Zf,pH,go_sem,seval]
     ·intro k hk;simp (disch:=omega) only [h5,JO,QT,QU,QV,QW,CV,Ib,Zs,Zk,ZM,ZE,Zf,pH,go_sem,seval];refine cD ?_ ?_<;>intro h1<;>simp (disch:=omega) only [Sh.out h1,go_sem,seval,↓reduceIte]
      ·have hk2:k<ys.length:=Za
       obtain ⟨j,hj,hjl,_⟩:=hC.bst _ (ZZ hk2)
       have hmem:nth ys k∈l:=by rw [<- hjl];exact ZZ hj
       obtain ⟨S,hS,hS0,hS1,hS2⟩:=Ql (hall _ hmem) (hs _ hmem);have hlt:=Zdh hS0 hS1 hn;have h16:S<16:=Uu hS1 (by rw [h5];decide)
       have cl:PC 111 [.p (.int .i64 (nth ys k).set)] (.int .i64 (AU (nth ys k).set.toNat)):=by
        rw [hS];exact NY S hS0 h16
       refine (cl).use ?_;simp (disch:=omega) only [go_sem,seval]
       have htz:AU (nth ys k).set.toNat=AU S:=by rw [hS];rfl
       have hi:AU (nth ys k).set.toNat=0\/AU (nth ys k).set.toNat=1\/AU (nth ys k).set.toNat=2\/AU (nth ys k).set.toNat=3:=Za
       rcases hi with hi | hi | hi | hi
       all_goals try omega
       all_goals
        simp (disch:=omega) only [hi,go_sem,seval];refine Bi [14] [1,2,3] [2] 15 mixed Zg Zg Zg Zg Zb ?_;simp (disch:=omega) only [go_sem,seval,↓reduceIte];refine ⟨fun q hq p' hp=> ?_,?_⟩
        ·simp only [Z3,Wv,WT] at hq;rcases hq with rfl | rfl | rfl
         ·obtain rfl:59=p':=VR hp;exact VN (by decide)
         ·obtain rfl:60=p':=VR hp;exact VN (by decide)
         ·obtain rfl:61=p':=VR hp;exact VN (by decide)
        ·have q0:=CP ys k 0;have q1:=CP ys k 1;have q2:=CP ys k 2;have q3:=CP ys k 3;refine Nc 14 _ _ Zg (by simp (disch:=omega) only [go_sem,seval,↓reduceIte];exact ⟨rfl,rfl⟩) ?_;refine ⟨fun k hk=>by simp at hk;subst hk;rfl,Lk ?_⟩;simp (disch:=omega) only [go_sem,seval];exact ⟨k+1,Za,Za,Weak.mk (by simp (disch:=omega) only [h5,aY hk2,hi,Xn,Zz,ZA,ZH,Xi,QT,QU,QV,QW,CV,Zs,Zk,go_sem,seval,↓reduceIte])⟩
      ·have hkl:k=ys.length:=Za
       subst hkl;clear hk h1
       try refine Zo (Weak.fz (o:=4) (by rfl)) ?_
       try refine Zo (Weak.fz (o:=5) (by rfl)) ?_
       try refine Zo (Weak.fz (o:=6) (by rfl)) ?_
       try refine Zo (Weak.fz (o:=7) (by rfl)) ?_
       refine Zh [17] _ _ _ _ ?_;simp (disch:=omega) only [XX,Zs,Zk,ZL,ZC,eq_self,go_sem,seval,↓reduceIte];refine Zo (Weak.fzC (o:=3) (ys:=(fstF x.orders.length ys).map We) (by rw [h5];rfl) (fun y hy=>by obtain ⟨p,_,rfl⟩:=XT.1 hy;rfl)) ?_;refine Zh [17] _ _ _ _ ?_;simp (disch:=omega) only [h5,JO,QT,QU,QV,QW,Zs,Zk,ZL,ZC,ZA,ZH,Xi,Nat.reduceAdd,eq_self,go_sem,seval,↓reduceIte]
       refine Zh [28] _ _ _ _ ?_;simp (disch:=omega) only [go_sem,seval,↓reduceIte];refine Zl [2,6,78] (fun k:Nat=> [(79,.p (.int .i64 k))]) (fun k=> [Zf x,.map [],pH x m (.p (.list false ((fstF x.orders.length ys).map We))) (.sl (4+x.orders.length) 0 k k),.dead]++List.replicate x.orders.length .dead++ [.elems 1 ((skF x k).map eI)]) (fun k=>k<=x.orders.length) (fun k=>x.orders.length-k) 0 Za ((Weak.nilC (o:=2) (j:=7) 1 (by rfl) (by rfl) Zb).trans (Weak.mk ?_)) ?_
       ·simp (disch:=omega) only [h5,ZjT,List.replicate,ZL,ZC,ZA,ZH,Xi,Nat.reduceAdd,JO,QT,QU,QV,QW,Zs,Zk,ZM,ZE,Zf,pH,go_sem,seval]
       ·intro k hk;simp (disch:=omega) only [h5,List.replicate,Nat.reduceAdd,JO,QT,QU,QV,QW,Zs,Zk,ZM,ZE,Zf,pH,go_sem,seval];refine cD ?_ ?_<;>intro h1<;>simp (disch:=omega) only [Sh.out h1,go_sem,seval,↓reduceIte]
        ·have hk2:k<x.orders.length:=Za
         refine YJ (hun k) ?_;simp (disch:=omega) only [go_sem,seval,↓reduceIte];refine cD ?_ ?_<;>intro h2<;>simp (disch:=omega) only [Sh.out h2,go_sem,seval,↓reduceIte]
         ·refine YJ (HU _ (hu k)) ?_;simp (disch:=omega) only [go_sem,seval];refine cD ?_ ?_<;>intro h3<;>simp (disch:=omega) only [Sh.out h3,go_sem,seval,↓reduceIte]
          ·have hsk:skpF x k=(Y1 (unsF x k).1).1:=by simp [skpF,h2,h3]
           simp (disch:=omega) only [Kh,go_sem,seval];rw [if_pos ⟨Za,Za⟩];simp (disch:=omega) only [Kh,Zx,Zz,ZA,ZH,Xi,eq_self,W2,go_sem,seval];exact ⟨k+1,Za,Za,Weak.mk (by simp (disch:=omega) only [h5,Gv,hsk,Xn,List.replicate,Nat.reduceAdd,JO,QT,QU,QV,QW,Zs,Zk,ZM,ZE,go_sem,seval])⟩
          ·have hsk:skpF x k= -1:=by simp [skpF,h3]
           simp (disch:=omega) only [Kh,go_sem,seval];rw [if_pos ⟨Za,Za⟩];simp (disch:=omega) only [Kh,Zx,Zz,ZA,ZH,Xi,eq_self,W2,go_sem,seval];exact ⟨k+1,Za,Za,Weak.mk (by simp (disch:=omega) only [h5,Gv,hsk,Xn,List.replicate,Nat.reduceAdd,JO,QT,QU,QV,QW,Zs,Zk,ZM,ZE,go_sem,seval])⟩
         ·have hsk:skpF x k= -1:=by simp [skpF,h2]
          simp (disch:=omega) only [Kh,go_sem,seval];rw [if_pos ⟨Za,Za⟩];simp (disch:=omega) only [Kh,Zx,Zz,ZA,ZH,Xi,eq_self,W2,go_sem,seval];exact ⟨k+1,Za,Za,Weak.mk (by simp (disch:=omega) only [h5,Gv,hsk,Xn,List.replicate,Nat.reduceAdd,JO,QT,QU,QV,QW,Zs,Zk,ZM,ZE,go_sem,seval])⟩
        ·have hkl:k=x.orders.length:=Za
         clear hk h1;refine Zo (Weak.fz (o:=4+x.orders.length) (S:=1) (xs:=(skF x k).map eI) (by rw [h5];rfl)) ?_;refine Zh [] _ _ _ _ ?_;simp (disch:=omega) only [h5,Zs,Zk,ZL,ZC,Zx,Kh,Nat.reduceAdd,eq_self,go_sem,seval,↓reduceIte];exact ⟨.tup [.ptr 2 0,.p (.int .i64 0)],_,Weak.mk (by simp (disch:=omega) only [hkl,h5,YR,VD,shO,shVs,shV,JO,QT,QU,QV,QW,Zs,Zk,go_sem,seval]),.inr (.inr ⟨Za,hall,ys,⟨hC,hyl⟩,rfl,rfl⟩)⟩
theorem Zdi : ∀S:Fin 16,0<S.val->sHas (S.val:Int) (AU S.val)=true:=by decide+kernel
theorem N6 {x:Inst} (hx:InstOk x) (i:Nat): -1<=skpF x i/\skpF x i<=18014398509481984:=by
 unfold skpF
 split
 ·rename_i h
  have hm:(unsF x i).1.cost<=1000000/\(unsF x i).1.moved<=1/\0<=(unsF x i).1.moved/\(unsF x i).1.other=0/\(unsF x i).1.work=0:=by
   unfold unsF
   split
   ·simp [zSco]
   ·split
    ·simp [zSco]
    ·split
     ·simp [zSco]
     ·have ha:=(hx.orders.2 (i:Int).toNat Za).arg;simp only [argOk,rng,Zv,Zr] at ha
      grind
  obtain ⟨_,h2⟩:=h;unfold Y1 at h2 ⊢
  grind
 ·omega
theorem RG {x:Inst} {l ys:List Col} (hx:InstOk x) (hn:x.orders.length<=4) (hC:Cheap l ys) (hr: ∀c∈l,rightB x c=true) (hs: ∀c∈l,c.set<9223372036854775808):ChOk x.orders.length x (fstF x.orders.length ys) (skF x x.orders.length):=by
 refine ⟨fun i hi c hc=> ?_,?_,fun i hi=> ?_⟩
 ·have e:nth (fstF x.orders.length ys) i=Yh ys i:=by
   grind [fstF,Zj]
  rw [e,Yh,J8] at hc;obtain ⟨h1,h2⟩:=hc;simp only [Zr] at h2;obtain ⟨j,hj,hjl,_⟩:=hC.bst c h1
  have hm:c∈l:=by grind [ZZ]
  obtain ⟨S,q1,q2,q3,_⟩:=Ql (hr c hm) (hs c hm);have h16:S<16:=Uu q3 (Ym (n:=2) Za hn);have hb:=Zdi ⟨S,h16⟩ q2;have hr1:=hr c hm;simp only [rightB,Zv,Zr] at hr1
  grind
 ·have ht:=hx.types;simp only [typesOk,rng,Zr] at ht;refine ⟨Za,fun t _=> ?_⟩;rcases Wy t x.types.length with h | h
  ·have:=ht.2 t h;unfold Jz at this;have:=this.1.1.1.1.1.1.2;simp only [rng,Zr] at this;omega
  ·rw [show nth x.types t=default from by grind [nth]]
   decide
 simp_all [skF,Zj,N6]
def zSt : St:=⟨0,0,[0,0,0,0,0,0]⟩
def Lm (x:Inst) (ys:List Col):Int:=Y4 x.orders.length ((Yp x x.orders.length:Nat):Int) x (fstF x.orders.length ys) (skF x x.orders.length) 20 (Vg x.orders.length ((Yp x x.orders.length:Nat):Int) zSt)
theorem wF (n:Nat):StV n zSt:=⟨rfl,⟨by decide,by simp [zSt]⟩,⟨0,rfl,Za⟩,fun j hj=>by
 have:nth zSt.used j=0:=by
  have:j=0\/j=1\/j=2\/j=3\/j=4\/j=5:=Za
  rcases this with rfl | rfl | rfl | rfl | rfl | rfl<;>rfl
 omega⟩
theorem Gx {α:Type} {r:α->α->Prop} (irr: ∀a,¬r a a) (asy: ∀a b,r a b-> ¬r b a): ∀ {l l':List α},l.Pairwise r->l'.Pairwise r->(∀a,a∈l↔a∈l')->l=l'
 | [],[],_,_,_=>rfl
 | [],b::_,_,_,h=>by have:=(h b).2 Zb;simp at this
 | a::_,[],_,_,h=>by have:=(h a).1 Zb;simp at this
 | a::l,b::l',h1,h2,h=>by
  rw [List.pairwise_cons] at h1 h2
  have hab:a=b:=by
   rcases Z3.1 ((h a).1 Zb) with e | e
   ·exact e
   ·rcases Z3.1 ((h b).2 Zb) with e' | e'
    ·exact e'.symm
    ·exact absurd (h1.1 b e') (asy _ _ (h2.1 a e))
  subst hab
  rw [Gx irr asy h1.2 h2.2 fun c=>⟨fun hc=>by
   rcases Z3.1 ((h c).1 (Ye _ hc)) with e | e
   ·subst e;exact absurd (h1.1 c hc) (irr c)
   ·exact e,fun hc=>by
   rcases Z3.1 ((h c).2 (Ye _ hc)) with e | e
   ·subst e;exact absurd (h2.1 c hc) (irr c)
   ·exact e⟩]
theorem fI {l ys:List Col} (h:Cheap l ys) {c:Col} (hc:c∈l): ∃d∈ys,kd d=kd c/\d.price<=c.price:=by
 obtain ⟨d,hd,e⟩:=h.all c hc;obtain ⟨j,hj,rfl⟩:=ZO.1 hc;obtain ⟨i,hi,_,h3⟩:=h.bst d hd
 grind [Zj]
theorem fH {l ys:List Col} (h:Cheap l ys) {d:Col} (hd:d∈ys):d∈l:=by
 obtain ⟨j,hj,e,_⟩:=h.bst d hd
 grind [ZZ]
theorem Nr {n i:Nat} {ys:List Col} :nth (fstF n ys) i=if i<n then Yh ys i else []:=by
 split
 ·grind [fstF,Zj]
 ·rename_i h;rw [nth,J2,List.getElem?_eq_none (by simp [fstF];omega)];rfl
def cY (a b:Int):Prop:=b<0\/(0<=a/\a<=b)
theorem R0 {x:Inst} {s:St} {r:Col->Int} (hr: ∀c,-1<=r c): ∀ {l:List Col} {a:Int},(∀c∈l,0<=c.price) ->
  cY (l.foldl (fun o c=>if YC x s c=true then YQ o c.price (r c) else o) a) a/\ ∀c∈l,YC x s c=true->0<=r c->cY (l.foldl (fun o c=>if YC x s c=true then YQ o c.price (r c) else o) a) (c.price+r c)
 | [],a,_=>⟨by grind [cY],fun c hc=>by simp at hc⟩
 | d::l,a,hp=>by
  have hd:=hp d Zb;obtain ⟨g1,g2⟩:=R0 (x:=x) (s:=s) hr (l:=l) (a:=if YC x s d=true then YQ a d.price (r d) else a) fun c hc=>hp c (Ye _ hc);rw [XG];generalize l.foldl (fun o c=>if YC x s c=true then YQ o c.price (r c) else o) (if YC x s d=true then YQ a d.price (r d) else a)=M at g1 g2;refine ⟨?_,fun c hc hy h0=> ?_⟩
  ·grind [cY,YQ]
  ·rcases Z3.1 hc with rfl | hc
   ·rw [if_pos hy] at g1
    grind [cY,YQ]
   grind
theorem Hz {x:Inst} {s:St} {r:Col->Int} : ∀ {l:List Col} {a:Int},l.foldl (fun o c=>if YC x s c=true then YQ o c.price (r c) else o) a=a\/ ∃c∈l,YC x s c=true/\0<=r c/\l.foldl (fun o c=>if YC x s c=true then YQ o c.price (r c) else o) a=c.price+r c
 | [],a=> .inl rfl
 | d::l,a=>by
  rw [XG];rcases Hz (x:=x) (s:=s) (r:=r) (l:=l) (a:=if YC x s d=true then YQ a d.price (r d) else a) with h | ⟨c,h1,h2,h3,h4⟩
  ·rw [h]
   split
   ·rename_i hy;unfold YQ
    split
    ·grind
    omega
   omega
  grind
abbrev Cm := { c:Col // ∃S:Nat,c.set=S/\0<S/\S<16 }
instance : Inhabited Cm := ⟨⟨⟨0, 1, 0, default⟩, 1, rfl, by decide, by decide⟩⟩
def lo (c:Col):Int:=AU c.set.toNat
def pL (a b:Col):Int:=rQ [WH a.typ b.typ,WH (lo a) (lo b)]
theorem JI {a b:Col} :pL a b<0↔a.typ<b.typ\/(a.typ=b.typ/\lo a<lo b):=by
 grind [pL,ER,fU,fT]
def yF (a b:Cm):Int:=pL a.val b.val
theorem pN : Go.Sort.SWO (ltOf yF) where
 irrefl x:=by grind [ltOf,yF,JI]
 trans x y z h1 h2:=by simp only [ltOf,yF,Zr,JI] at *;omega
 ntrans x y z h1 h2:=by grind [ltOf,yF,JI]
theorem Zjk (c:Cm):PC 111 [.p (.int .i64 c.val.set)] (.int .i64 (lo c.val)):=by
 obtain ⟨c,S,h1,h2,h3⟩:=c
 grind [lo,NY]
theorem TH (a b:Cm):PC 110 [.p (Xk a.val),.p (Xk b.val)] (.int .i64 (yF a b)):=by
 refine Zc Tryz.func110 rfl zQ ?_;simp (disch:=omega) only [Tryz.f110,go_sem,seval];refine Xd (Zd ?_);refine Zn (DZ a.val.typ b.val.typ) (Zd ?_);refine Zn (Zjk a) (Zd ?_);refine Zn (Zjk b) (Zd ?_);refine Zn (DZ (lo a.val) (lo b.val)) (Zd ?_);refine Zn (rR [WH a.val.typ b.val.typ,WH (lo a.val) (lo b.val)] false Zb) (Zd ?_)
 rfl
theorem tF (xs:List Cm) (hl:xs.length<=1048576) {H:List AM.Obj} {o:Nat} (hH:H[o]? =some (.elems 7 (xs.map fun c=>Xk c.val))) :
  ACalls Tryz.prog 109 [.sl o 0 xs.length xs.length,.fn (.func 110) [] []] H fun y H'=>y= .tup []/\ ∃ys:List Cm,ys.Perm xs/\ys.Pairwise (fun a b=> ¬yF b a<0)/\H'=H.set o (.elems 7 (ys.map fun c=>Xk c.val)) :=
 ACalls.sortFunc N7 iS 7 Tryz.isAgg121 Tryz.sizeOf121 (fun c:Cm=>Xk c.val) (fun x=>⟨_,rfl,rfl,rfl⟩) yF pN 110 TH xs Za hH
theorem DE {n:Nat} {m:Int} {x:Inst} {fst:List (List Col)} {sk:List Int} : ∀(d:Nat) (s:St),∀c∈(Yr n m x fst sk d s).1,∃i,i<fst.length/\c∈nth fst i
 | 0,s,c,h=>by simp [Yr] at h
 | d+1,s,c,h=>by
  rw [Yr] at h
  split at h
  ·simp at h
  ·split at h
   ·rename_i c' hf;simp only [Z3] at h;rcases h with rfl | h
    ·refine ⟨s.ix.toNat,?_,QY hf⟩;rcases Wy s.ix.toNat fst.length with h | h
     ·exact h
     ·rw [show nth fst s.ix.toNat= [] from by simp [nth,J2,List.getElem?_eq_none h];rfl] at hf;simp at hf
    ·exact DE d _ c h
   ·exact DE d _ c h
def zPlC : Pln:=⟨true,[],true,[]⟩
def nQ (x:Inst) (l:List Col) (p:Pln) (c e:Int):Prop:=(8192<l.length/\p=zPlC/\c=0/\e=4)\/(l.length<=8192/\(∃c∈l,rightB x c=false)/\p=zPlC/\c=0/\e=2) \/
 (l.length<=8192/\(∀c∈l,rightB x c=true)/\ ∃ys,Cheap l ys/\ys.length<=l.length/\((Lm x ys<0/\p=zPlC/\c=0/\e=24)\/(0<=Lm x ys/\c=Lm x ys/\e=0 /\
  ∃zs:List Col,zs.Perm (Yr x.orders.length ((Yp x x.orders.length:Nat):Int) x (fstF x.orders.length ys) (skF x x.orders.length) 20 (Vg x.orders.length ((Yp x x.orders.length:Nat):Int) zSt)).1/\zs.Pairwise (fun a b=> ¬pL b a<0) /\
   p=⟨false,zs.map (·.route),false,(Yr x.orders.length ((Yp x x.orders.length:Nat):Int) x (fstF x.orders.length ys) (skF x x.orders.length) 20 (Vg x.orders.length ((Yp x x.orders.length:Nat):Int) zSt)).2⟩)))
theorem DD {n:Nat} {m:Int} {x:Inst} {fst:List (List Col)} {sk:List Int} : ∀(d:Nat) (s:St),(Yr n m x fst sk d s).1.length<=d/\(Yr n m x fst sk d s).2.length<=d
 | 0,s=>by simp [Yr]
 | d+1,s=>by
  rw [Yr]
  split
  ·simp
  ·split
   ·rename_i c' hf;have:=DD (n:=n) (m:=m) (x:=x) (fst:=fst) (sk:=sk) d (VA n m s c');simp;omega
   ·have:=DD (n:=n) (m:=m) (x:=x) (fst:=fst) (sk:=sk) d (Dz n m s);simp;omega
theorem aX (x:Inst) (l:List Col) (lc:Bool) (hx:InstOk x) (hn:x.orders.length<=4) (ht:x.types.length<=1048576) (hs: ∀c∈l,c.set<9223372036854775808) (hl:l.length<=1048576) :
  ACalls Tryz.prog 78 [.p (Zq x),.p (.list lc (l.map Xk))] [] fun y H'=> ∃p c e,nQ x l p c e/\y= .tup [.p (JL p),.p (.int .i64 c),.p (.int .i64 e)]/\H'= []:=by
 refine Ze [16] Tryz.func78 rfl ZiU ?_;simp (disch:=omega) only [Tryz.f78,go_sem,seval];refine ((TE x l lc hn ht (fun i=>AP Za (Oh hx _)) hs hl).behind (by rfl) _).mono ?_;rintro y H' ⟨y1,H1,hq,rfl,rfl⟩;rcases hq with ⟨h1,rfl,rfl⟩ | ⟨h1,h2,rfl,rfl⟩ | ⟨h1,h2,ys,⟨hC,hyl⟩,rfl,rfl⟩
 ·simp (disch:=omega) only [shV,shVs,Zk,go_sem,seval];exact ⟨.tup [.p (JL zPlC),.p (.int .i64 0),.p (.int .i64 4)],[],Weak.mk (by simp (disch:=omega) only [zPlC,Zk,go_sem,seval]),_,_,_,Or.inl ⟨h1,rfl,rfl,rfl⟩,rfl,rfl⟩
 ·simp (disch:=omega) only [shV,shVs,Zk,go_sem,seval];exact ⟨.tup [.p (JL zPlC),.p (.int .i64 0),.p (.int .i64 2)],[],Weak.mk (by simp (disch:=omega) only [zPlC,Zk,go_sem,seval]),_,_,_,Or.inr (Or.inl ⟨h1,h2,rfl,rfl,rfl⟩),rfl,rfl⟩
 ·have hok:=RG hx hn hC h2 hs
  have hcl: ∀r∈fstF x.orders.length ys,r.length<=1048576:=fun r hr=>by
   obtain ⟨p,_,rfl⟩:=XT.1 hr
   grind [Yh]
  obtain ⟨m,hm⟩: ∃m:Int,m=((Yp x x.orders.length:Nat):Int):=⟨_,rfl⟩;obtain ⟨B,hB⟩: ∃B,B=Lm x ys:=⟨_,rfl⟩;simp (disch:=omega) only [shV,shVs,shO,YR,VD,Zs,Zk,List.replicate,ZM,ZE,go_sem,seval];rw [<- hm];refine ACalls.mono ((Gt x (.list false ((fstF x.orders.length ys).map We)) (.list false ((skF x x.orders.length).map eI)) m [] zSt rfl (by decide) Za (by decide)).back [Zf x,.cells [.p (.list true []),.p (.list true [])],.cells (List.replicate 6 .junk)] (by rfl)) ?_;rintro y H' ⟨y1,H1,⟨rfl,rfl⟩,rfl,rfl⟩;obtain ⟨v1,_⟩:=LR (m:=m) (wF x.orders.length)
  have hrg:=Ub (m:=m) hok 20 _ v1
  have hbb:B=Y4 x.orders.length m x (fstF x.orders.length ys) (skF x x.orders.length) 20 (Vg x.orders.length m zSt):=by rw [hB,Lm,hm]
  rw [<- hbb] at hrg;obtain ⟨R,hR⟩: ∃R,R=Yr x.orders.length m x (fstF x.orders.length ys) (skF x x.orders.length) 20 (Vg x.orders.length m zSt):=⟨_,rfl⟩;obtain ⟨i,w,b0,b1,b2,b3,b4,b5,hw⟩:=YK v1.len;have hRr:=hR;rw [hw] at hbb v1 hR ⊢;simp (disch:=omega) only [shV,shVs,shO,YR,VD,Zs,Zk,List.replicate,ZM,ZE,go_sem,seval];have c3:=((Ev x (fstF x.orders.length ys) (skF x x.orders.length) false false m Za (by simp [fstF]) (by simp [skF]) hok hcl 20 ⟨i,w,[b0,b1,b2,b3,b4,b5]⟩ [] Za v1 (by have:=v1.ix;omega) (fun p hp=>by simp at hp)).mono (fun y H' hq=>(⟨hq,by obtain ⟨l',_,_,rfl⟩:=hq;rfl⟩:_/\H'.length=(YR x (.list false ((fstF x.orders.length ys).map We)) (.list false ((skF x x.orders.length).map eI)) m []).length))).front (by rfl) (by rfl) [BD ⟨i,w,[b0,b1,b2,b3,b4,b5]⟩]
  refine ACalls.mono (c3.back [Zf x,.cells [.p (.list true []),.p (.list true [])],.cells (List.replicate 6 .junk)] (by rfl)) ?_;rintro y H' ⟨y1,H1,⟨H2,⟨l',hl',rfl,rfl⟩,rfl⟩,rfl,rfl⟩;rw [<- hbb];simp (disch:=omega) only [shV,shVs,shO,YR,VD,BD,Zs,Zk,List.replicate,ZM,ZE,go_sem,seval];refine cD ?_ ?_<;>intro h3<;>simp (disch:=omega) only [Sh.out h3,go_sem,seval,↓reduceIte]
  ·exact ⟨.tup [.p (JL zPlC),.p (.int .i64 0),.p (.int .i64 24)],[],Weak.mk (by simp (disch:=omega) only [zPlC,Zk,go_sem,seval]),_,_,_,Or.inr (Or.inr ⟨h1,h2,ys,hC,hyl,Or.inl ⟨Za,rfl,rfl,rfl⟩⟩),rfl,rfl⟩
  ·refine ACalls.mono ((ZcO (BD ⟨i,w,[b0,b1,b2,b3,b4,b5]⟩) (by intro H n;simp (disch:=omega) only [BD,Zs,Zk,go_sem,seval]) (by intro o xs;rfl) x (fstF x.orders.length ys) (skF x x.orders.length) false false m Za (by simp [fstF]) (by simp [skF]) hok hcl ⟨i,w,[b0,b1,b2,b3,b4,b5]⟩ l' v1 hl').back [Zf x,.cells [.p (.list true []),.p (.list true [])],.cells (List.replicate 6 .junk)] (by rfl)) ?_;rintro y H' ⟨y1,H1,⟨l2,A,U,hl2,hAU,rfl,rfl⟩,rfl,rfl⟩;rw [<- hR] at hAU;have hlen:=DD (n:=x.orders.length) (m:=m) (x:=x) (fst:=fstF x.orders.length ys) (sk:=skF x x.orders.length) 20 (Vg x.orders.length m zSt)
   rw [<- hRr,<- hAU] at hlen
   have hA: ∀c∈A,∃S:Nat,c.set=S/\0<S/\S<16:=fun c hc=>by
    have hc':c∈(Yr x.orders.length m x (fstF x.orders.length ys) (skF x x.orders.length) 20 (Vg x.orders.length m zSt)).1:=by grind
    obtain ⟨j,hj,hm2⟩:=DE _ _ _ hc'
    have e:nth (fstF x.orders.length ys) j=Yh ys j:=by
     grind [fstF,Zj]
    rw [e,Yh,J8] at hm2;obtain ⟨q,hq,hql,_⟩:=hC.bst c hm2.1
    have hmem:c∈l:=by grind [ZZ]
    obtain ⟨S,q1,q2,q3,_⟩:=Ql (h2 c hmem) (hs c hmem);exact ⟨S,q1,q2,Uu q3 (Ym (n:=2) Za hn)⟩
   obtain ⟨L,hL⟩: ∃L:List Cm,L.map Subtype.val=A:=⟨A.pmap (fun c h=>⟨c,h⟩) hA,by simp [List.map_pmap]⟩;subst hL
   have hLl:(L.map Subtype.val).length=L.length:=Zb
   have hLe:(L.map Subtype.val).map Xk=L.map fun c=>Xk c.val:=Zb
   simp only at hlen;rw [hLl] at hlen;simp (disch:=omega) only [shV,shVs,shO,YR,VD,BD,Zs,Zk,List.replicate,ZM,ZE,hLl,hLe,go_sem,seval];refine ((tF L Za (H:=_) (o:=7) rfl)).mono ?_;rintro y H' ⟨rfl,zs,hp,hsr,rfl⟩;have hzl:zs.length=L.length:=hp.length_eq;rw [<- hzl] at hlen ⊢;simp (disch:=omega) only [ZL,ZC,go_sem,seval];obtain ⟨Z,hZ⟩: ∃Z,Z=zs.map Subtype.val:=⟨_,rfl⟩
   have hZl:Z.length=zs.length:=by rw [hZ];simp
   have hZe:Z.map Xk=zs.map fun c=>Xk c.val:=by rw [hZ];simp
   rw [<- hZl] at hlen ⊢
   have htl: ∀k,k<=Z.length->(Z.take k).length=k:=fun k hk=>by simp;omega
   refine Zl [4,10,13,45,46] (fun k:Nat=> [(47,.p (.int .i64 k))]) (fun k=> [Zf x,.cells [.p (.list true []),.p (.list true [])],.cells (List.replicate 6 .junk),.map (l2.map (MH A0)),shO 3 (VD x (.list false ((fstF x.orders.length ys).map We)) (.list false ((skF x x.orders.length).map eI)) m),BD ⟨i,w,[b0,b1,b2,b3,b4,b5]⟩,.cells (List.replicate 8 .junk),.elems 7 (Z.map Xk),.cells [.sl 9 0 k k,.p (.list false (U.map eI))],.elems 4 ((Z.take k).map fun c=>Wp c.route)]) (fun k=>k<=Z.length) (fun k=>Z.length-k) 0 Za ((Weak.nilC (o:=8) (j:=0) 4 (by rfl) (by rfl) Zb).trans (Weak.mk ?_)) ?_
   ·simp (disch:=omega) only [hZe,Q2,ZL,ZC,ZA,ZH,Xi,Nat.reduceAdd,shV,shVs,shO,VD,BD,Zs,Zk,List.replicate,ZM,ZE,Zf,go_sem,seval]
   ·intro k hk;simp (disch:=omega) only [shV,shVs,shO,VD,BD,Zs,Zk,List.replicate,Zf,go_sem,seval];refine cD ?_ ?_<;>intro h4<;>simp (disch:=omega) only [Sh.out h4,go_sem,seval,↓reduceIte]
    ·have hk2:k<Z.length:=Za
     simp (disch:=first | omega | (simp only [ZA,ZH,Zz,Zx,Z7,Xx]<;>omega)) only [Vm hk2,hk2,go_sem,seval,↓reduceIte]
     have hsc:Z.take (k+1)=Z.take k++ [nth Z k]:=by rw [XZ hk2,Zj hk2]
     rw [if_pos ⟨htl k hk,Za,Za⟩];simp (disch:=omega) only [htl k hk,Zx,Zz,ZA,ZH,Xi,eq_self,W2,go_sem,seval];exact ⟨k+1,Za,Za,Weak.mk (by simp (disch:=omega) only [hsc,Xn,Zs,Zk,go_sem,seval])⟩
    ·have hkl:k=Z.length:=Za
     subst hkl;refine Zo (Weak.fz (o:=9) (by rfl)) ?_;refine Zh [] _ _ _ _ ?_;simp (disch:=omega) only [Zs,Zk,ZL,ZC,XX,go_sem,seval];exact ⟨.tup [.p (JL ⟨false,Z.map (·.route),false,U⟩),.p (.int .i64 B),.p (.int .i64 0)],[],Weak.mk (by simp (disch:=omega) only [List.map_map,Function.comp_def,go_sem,seval]),_,_,_,Or.inr (Or.inr ⟨h1,h2,ys,hC,hyl,Or.inr ⟨Za,hB,rfl,Z,by grind,by rw [hZ];exact List.pairwise_map.2 hsr,by grind⟩⟩),rfl,rfl⟩
def ZmT (x:Inst) (l:List Col) (a e:Int):Prop:=(8192<l.length/\a=0/\e=4)\/(l.length<=8192/\(∃c∈l,rightB x c=false)/\a=0/\e=2) \/
 (l.length<=8192/\(∀c∈l,rightB x c=true)/\ ∃ys,Cheap l ys/\a=(if Lm x ys<0 then 0 else Lm x ys)/\e=(if Lm x ys<0 then 24 else 0))
def ky (l:List Col) (a:Int):Int×Int×Int:=if a<0 then (1,0,0) else (0,(nth l a.toNat).typ,(nth l a.toNat).set)
def jI (a b:Int×Int×Int):Prop:=a.1<b.1\/(a.1=b.1/\(a.2.1<b.2.1\/(a.2.1=b.2.1/\a.2.2<b.2.2)))
def KE (n:Nat) (l:List Col) (a b:List Int):Prop:= ∀t,t<n->ky l (nth a t)=ky l (nth b t)/\nth a t<=nth b t
def KL (n:Nat) (l:List Col) (a b:List Int):Prop:=(∃i,i<n/\(∀t,t<i->ky l (nth a t)=ky l (nth b t))/\jI (ky l (nth a i)) (ky l (nth b i)))\/KE n l a b
def mI (x:Inst):Int:=((Yp x x.orders.length:Nat):Int)
theorem FO {x:Inst} (hn:x.orders.length<=4) {k:Nat} (hk:k<x.orders.length):sHas (mI x) k= !(nth x.orders k).off:=by
 grind [mI,WB,U1]
theorem BY {n:Nat} {s:St} (h:StV n s) {k:Nat} (hk:k<=62):sHas s.cov k=s.cov.toNat.testBit k:=by
 obtain ⟨C,hC,_⟩:=h.cov
 grind [WB]
structure Ctx (x:Inst) (l ys:List Col):Prop where
 n4:x.orders.length<=4
 t6:x.types.length<=6
 ch:Cheap l ys
 rt: ∀c∈l,rightB x c=true
 st: ∀c∈l,c.set<9223372036854775808
 ok:ChOk x.orders.length x (fstF x.orders.length ys) (skF x x.orders.length)
 sk: ∀k,k<x.orders.length->(nth x.orders k).off=false->(0<=(nth x.orders k).penalty↔0<=skpF x k)/\(0<=skpF x k->skpF x k=skR x k)
theorem Zcw : ∀S:Fin 16,0<S.val-> ∀k:Fin 4,(AU S.val=(k.val:Int)↔(S.val.testBit k.val=true/\ ∀i:Fin 4,i.val<k.val->S.val.testBit i.val=false)):=by decide+kernel
theorem Rf {S n k:Nat} (hS:0<S) (h:S<2^n) (hn:n<=4) (hk:k<n):AU S=(k:Int)↔(S.testBit k=true/\ ∀i,i<n->S.testBit i=true->k<=i):=by
 have h16:S<16:=Uu h (Ym (n:=2) Za hn);rw [show AU S=(k:Int)↔_ from Zcw ⟨S,h16⟩ hS ⟨k,Za⟩];refine and_congr_right fun _=>⟨fun g i hi hb=> ?_,fun g i hi=> ?_⟩
 ·rcases Wy i k with h1 | h1
  ·have:=g ⟨i,Za⟩ h1
   grind
  ·exact h1
 grind
theorem Ctx.set {x:Inst} {l ys:List Col} (h:Ctx x l ys) {c:Col} (hc:c∈l):c.set=(c.set.toNat:Int)/\0<c.set.toNat/\c.set.toNat<2^x.orders.length/\ ∀i,c.set.toNat.testBit i=true->i<x.orders.length/\(nth x.orders i).off=false:=by
 obtain ⟨S,h1,h2,h3,h4⟩:=Ql (h.rt c hc) (h.st c hc)
 grind
theorem Ctx.typ {x:Inst} {l ys:List Col} (h:Ctx x l ys) {c:Col} (hc:c∈l):(0<=c.typ/\c.typ<x.types.length)/\0<=c.price:=by
 have:=h.rt c hc;simp only [rightB,Zv,Zr] at this;omega
structure Nd (x:Inst) (l:List Col) (a:List Int) (s:St) (k:Nat):Prop where
 len:a.length=x.orders.length
 ix:s.ix=k
 v:StV x.orders.length s
 cov: ∀i,i<x.orders.length->s.cov.toNat.testBit i=decide (0<=nth a i)
 rng: ∀i,i<x.orders.length-> -1<=nth a i/\nth a i<l.length
 used: ∀T:Nat,T<6->nth s.used T=usdI l a T x.orders.length
 grp: ∀i,i<x.orders.length->0<=nth a i-> ∀t,t<x.orders.length->(nth l (nth a i).toNat).set.toNat.testBit t=true->nth a t=nth a i
 old: ∀i,i<x.orders.length->k<=i->0<=nth a i-> ∃t,t<k/\(nth l (nth a i).toNat).set.toNat.testBit t=true
 own: ∀i,i<x.orders.length->0<=nth a i->(nth l (nth a i).toNat).set.toNat.testBit i=true
def GM (s:St):St:= { s with ix:=s.ix+1 }
def AE (s:St) (c:Col):St:=⟨s.ix+1,((s.cov.toNat|||c.set.toNat:Nat):Int),s.used.set c.typ.toNat (nth s.used c.typ.toNat+1)⟩
theorem Nd.skip {x:Inst} {l:List Col} {a:List Int} {s:St} {k:Nat} (h:Nd x l a s k) (hk:k<x.orders.length) (ho:0<=nth a k-> ∃t,t<k/\(nth l (nth a k).toNat).set.toNat.testBit t=true):Nd x l a (GM s) (k+1) :=
 ⟨h.len,by simp only [GM,h.ix];omega,⟨h.v.len,by have:=h.ix;simp only [GM];omega,h.v.cov,h.v.used⟩,h.cov,h.rng,h.used,h.grp,fun i hi hki h0=>by
  obtain ⟨t,h1,h2⟩:=h.old i hi Za h0
  grind,h.own⟩
theorem Nd.skip' {x:Inst} {l:List Col} {a:List Int} {s:St} {k:Nat} (h:Nd x l a s k) (hk:k<x.orders.length):Nd x l a (GM s) (k+1):=h.skip hk fun h0=>h.old k hk (ZF _) h0
theorem RF {x:Inst} {l ys:List Col} (hc:Ctx x l ys) {a:List Int} {s:St} {k j:Nat} (h:Nd x l a s k) (hk:k<x.orders.length) (hj:j<l.length):Bk x l a j k=true↔(YC x s (nth l j)=true/\AU (nth l j).set.toNat=(k:Int)):=by
 obtain ⟨hS,hS0,hS1,hS2⟩:=hc.set (ZZ hj);obtain ⟨⟨ht0,ht1⟩,_⟩:=hc.typ (ZZ hj);have ht6:=hc.t6;have hu:=h.used (nth l j).typ.toNat Za;rw [show (((nth l j).typ.toNat:Nat):Int)=(nth l j).typ by omega] at hu;rw [Rf hS0 hS1 hc.n4 hk];simp only [Bk,YC,Ej,Zv,Zr,Ke,h.len,hu]
 constructor
 ·rintro ⟨h1,h2,h3⟩;refine ⟨⟨Cr fun i=> ?_,h2⟩,h1,fun i hi hb=>(h3 i hi hb).2⟩;rw [Nat.testBit_and,Nat.zero_testBit]
  cases hb:(nth l j).set.toNat.testBit i with
  | false=>simp
  | true =>
   have hi:=(hS2 i hb).1;rw [h.cov i hi,QC,X3]
   grind
 ·rintro ⟨⟨h1,h2⟩,h3,h4⟩;refine ⟨h3,h2,fun i hi hb=>⟨?_,h4 i hi hb⟩⟩;have:=ZW (fun z=>z.testBit i) h1;simp only [Nat.testBit_and,Nat.zero_testBit,hb,QC] at this;rw [h.cov i hi,X3] at this;omega
theorem Iq {x:Inst} {l:List Col} {a:List Int} {k:Nat} {S:Nat} {j:Nat} (hl:a.length=x.orders.length) (hk:k<x.orders.length) (hb:S.testBit k=true) (hneg: ∀i,i<x.orders.length->S.testBit i=true->nth a i<0/\k<=i) (hfr: ∀i,i<x.orders.length->S.testBit i=false->nth a i≠(j:Int)) (T:Int) :
  ∀m,m<=x.orders.length->usdI l (Vz S a j) T m=usdI l a T m+(if k<m/\(nth l j).typ=T then 1 else 0)
 | 0,_=>by simp [usdI]
 | i+1,hm=>by
  have hi:i<a.length:=Za
  rw [usdI,usdI,Iq hl hk hb hneg hfr T i Za];have ZK: ∀t,t<i->nth (Vz S a j) t=if S.testBit t=true then (j:Int) else nth a t:=fun t ht=>Xt Za
  cases hs:S.testBit i with
  | false =>
   have e:K9 l (Vz S a j) T i=K9 l a T i:=by
    rw [K9,K9,Xt hi,hs,if_neg Zb]
    by_cases h0:0<=nth a i
    ·have ef:TV (Vz S a j) i=TV a i:=by
      rw [Ww,B8,B8,Xt hi,hs,if_neg Zb]
      grind
     rw [ef]
    ·simp [h0]
   grind
  | true =>
   obtain ⟨hn,hki⟩:=hneg i Za hs
   have e2:K9 l a T i=false:=by
    simp_all [K9,Qd]
   have e1:K9 l (Vz S a j) T i=(decide ((nth l j).typ=T)&&decide (k=i)):=by
    rw [K9,Xt hi,hs,if_pos rfl,UB Za,Vt,XS]
    congr 1
    rw [Ww,B8,Xt hi,hs,if_pos rfl,Zr]
    grind
   grind
theorem Nd.child {x:Inst} {l ys:List Col} (hc:Ctx x l ys) {a:List Int} {s:St} {k j:Nat} (h:Nd x l a s k) (hk:k<x.orders.length) (hj:j<l.length) (hcan:Bk x l a j k=true):Nd x l (Vz (nth l j).set.toNat a j) (AE s (nth l j)) (k+1):=by
 obtain ⟨hS,hS0,hS1,hS2⟩:=hc.set (ZZ hj);obtain ⟨⟨ht0,ht1⟩,_⟩:=hc.typ (ZZ hj);have ht6:=hc.t6;have hl6:s.used.length=6:=h.v.len;have hu:=h.used (nth l j).typ.toNat Za;rw [show (((nth l j).typ.toNat:Nat):Int)=(nth l j).typ by omega] at hu;have hcan':=hcan;simp only [Bk,Zv,Zr,Ke,h.len] at hcan';obtain ⟨hb,hcnt,hneg⟩:=hcan';rw [<- hu] at hcnt;have hcount:=hc.ok.typ.2 (nth l j).typ.toNat Za;have hak:=(hneg k hk hb).1
 have hfr: ∀i,i<x.orders.length->(nth l j).set.toNat.testBit i=false->nth a i≠(j:Int):=fun i hi _ e=>by
  have:=h.grp i hi Za k hk (by grind [XS]);omega
 obtain ⟨C,hC,hC2⟩:=h.v.cov;have hS10:(nth l j).set.toNat<1024:=Uu hS1 (Ym (n:=2) Za (show x.orders.length<=10 by have:=hc.n4;omega));refine ⟨by rw [Uk];exact h.len,by simp only [AE,h.ix];omega,⟨by simp only [StR,AE,Vs];exact hl6,by have:=h.ix;simp only [AE];omega,⟨_,rfl,?_⟩,fun t ht=> ?_⟩,fun i hi=> ?_,fun i hi=> ?_,fun T hT=> ?_,fun i hi h0 t ht hbt=> ?_,fun i hi hki h0=> ?_,fun i hi h0=> ?_⟩
 ·rw [hC,XS];exact Q1 (n:=10) hC2 hS10
 ·simp only [AE];rw [CF Za]
  split
  ·omega
  ·exact h.v.used t ht
 ·simp only [AE,XS];rw [Aw,h.cov i hi,Xt (by rw [h.len];exact hi)]
  grind
 ·rw [Xt (by rw [h.len];exact hi)]
  split
  ·omega
  ·exact h.rng i hi
 ·simp only [AE];rw [CF Za,Iq h.len hk hb hneg hfr T _ (ZF _),h.used T hT]
  grind
 ·rw [Xt (i:=i) (by rw [h.len];exact hi)] at h0 hbt ⊢;rw [Xt (i:=t) (by rw [h.len];exact ht)]
  cases hbi:(nth l j).set.toNat.testBit i with
  | true =>
   rw [hbi,if_pos rfl,XS] at hbt
   grind
  | false =>
   rw [hbi,if_neg Zb] at h0 hbt;have e:=h.grp i hi h0 t ht hbt
   grind
 ·rw [Xt (by rw [h.len];exact hi)] at h0 ⊢
  cases hbi:(nth l j).set.toNat.testBit i with
  | true =>
   rw [if_pos rfl,XS]
   grind
  | false =>
   rw [hbi,if_neg Zb] at h0;rw [if_neg Zb];obtain ⟨t,h1,h2⟩:=h.old i hi Za h0
   grind
 ·rw [Xt (by rw [h.len];exact hi)] at h0 ⊢
  cases hbi:(nth l j).set.toNat.testBit i with
  | true=>rw [if_pos rfl,XS];exact hbi
  | false =>
   rw [hbi,if_neg Zb] at h0;rw [if_neg Zb];exact h.own i hi h0
def Lx (x:Inst) (ys:List Col) (D:Nat) (s:St):Int:=Y4 x.orders.length (mI x) x (fstF x.orders.length ys) (skF x x.orders.length) D (Vg x.orders.length (mI x) s)
theorem dE {x:Inst} {ys:List Col} {D:Nat} {s:St} (h:s.ix=x.orders.length):Lx x ys D s=0:=by
 unfold Lx
 cases D with
 | zero=>rfl
 | succ D =>
  simp_all [Y4,Vg,C1]
theorem DK {n:Nat} {m:Int} {s:St} {k:Nat} (hk:s.ix=k) (hkn:k<n) (hc:sHas m k=false\/sHas s.cov k=true):Vg n m s=Vg n m (GM s):=by
 simp_all [Vg,GM,EV]
theorem DL {n:Nat} {m:Int} {s:St} {k:Nat} (hk:s.ix=k) (h1:sHas m k=true) (h2:sHas s.cov k=false):Vg n m s=s:=by
 obtain ⟨i,v,u⟩:=s
 simp_all [Vg,DM]
theorem GH {n:Nat} {m:Int} {s:St} {c:Col} {k:Nat} (hk:s.ix=k) (hkn:k<n) (hn:n<=4) (hb:c.set.toNat.testBit k=true):VA n m s c=Vg n m (AE s c):=by
 have e:=DK (n:=n) (m:=m) (s:=⟨s.ix,((s.cov.toNat|||c.set.toNat:Nat):Int),s.used.set c.typ.toNat (nth s.used c.typ.toNat+1)⟩) (k:=k) hk hkn (.inr (by
  simp only
  rw [WB _ _ Za,Aw,hb,Bool.or_true]))
 exact e
theorem KX {x:Inst} {l ys:List Col} (hc:Ctx x l ys) {k:Nat} (hk:k<x.orders.length) {c:Col} (hm:c∈Yh ys k):c∈ys/\c∈l/\AU c.set.toNat=(k:Int)/\c.set.toNat.testBit k=true:=by
 rw [Yh,J8,Zr] at hm;have hl:=fH hc.ch hm.1;obtain ⟨_,h0,h1,_⟩:=hc.set hl;exact ⟨hm.1,hl,hm.2,((Rf h0 h1 hc.n4 hk).1 hm.2).1⟩
theorem OE {x:Inst} {l ys:List Col} (hc:Ctx x l ys) {D:Nat} (hD:10<D) {s:St} {k:Nat} (hv:StV x.orders.length s) (hk:s.ix=k) (hkn:k<x.orders.length) (ho:(nth x.orders k).off=false) (hcv:s.cov.toNat.testBit k=false) :
  Lx x ys D s=if 0<=skpF x k then YQ ((Yh ys k).foldl (fun o c=>if YC x s c=true then YQ o c.price (Lx x ys D (AE s c)) else o) (-1)) (skpF x k) (Lx x ys D (GM s)) else (Yh ys k).foldl (fun o c=>if YC x s c=true then YQ o c.price (Lx x ys D (AE s c)) else o) (-1):=by
 have hn:=hc.n4
 have e1:Lx x ys D s=Y4 x.orders.length (mI x) x (fstF x.orders.length ys) (skF x x.orders.length) (D+1) s:=by
  rw [Lx,DL hk (by grind [FO]) (by grind [BY])];exact Jn hc.ok _ _ s hv Za Za
 rw [e1,Y4,if_neg Za]
 have e2:nth (fstF x.orders.length ys) s.ix.toNat=Yh ys k:=by simp_all [Nr]
 have e3:nth (skF x x.orders.length) s.ix.toNat=skpF x k:=by grind [skF,Zj]
 have e4:(Yh ys k).foldl (fun o c=>if YC x s c=true then YQ o c.price (Y4 x.orders.length (mI x) x (fstF x.orders.length ys) (skF x x.orders.length) D (VA x.orders.length (mI x) s c)) else o) (-1)=(Yh ys k).foldl (fun o c=>if YC x s c=true then YQ o c.price (Lx x ys D (AE s c)) else o) (-1) :=
  JN fun c hm o=>by rw [GH hk hkn hn (KX hc hkn hm).2.2.2];rfl
 simp only [e2,e3,e4]
 rfl
def K0 (x:Inst) (ys:List Col) (D:Nat) (s:St) (c:Col):Bool:=YC x s c&&(decide (0<=Lx x ys D (AE s c))&&decide (c.price+Lx x ys D (AE s c)=Lx x ys D s))
noncomputable def Bu (l:List Col) (d:Col):Nat:=open Classical in if h:Bst l l.length d then h.choose else 0
theorem SC {l:List Col} {d:Col} (h:Bst l l.length d):Bu l d<l.length/\nth l (Bu l d)=d/\ ∀i,i<l.length->kd (nth l i)=kd d->d.price<(nth l i).price\/(d.price=(nth l i).price/\Bu l d<=i):=by
 have e:Bu l d=h.choose:=by rw [Bu,dif_pos h]
 grind
noncomputable def gr (x:Inst) (l ys:List Col) (D:Nat):Nat->Nat->St->List Int->List Int
 | 0,_,_,a=>a
 | d+1,k,s,a=>if (nth x.orders k).off=true\/0<=nth a k then gr x l ys D d (k+1) (GM s) a else
  match (Yh ys k).find? (K0 x ys D s) with
  | some c=>gr x l ys D d (k+1) (AE s c) (Vz c.set.toNat a (Bu l c))
  | none=>gr x l ys D d (k+1) (GM s) a
theorem J9 {x:Inst} {l ys:List Col} (hc:Ctx x l ys) {a:List Int} {s:St} {k:Nat} (h:Nd x l a s k) (hk:k<x.orders.length) {c:Col} (hm:c∈Yh ys k) (hy:YC x s c=true):Bu l c<l.length/\nth l (Bu l c)=c/\Bk x l a (Bu l c) k=true:=by
 obtain ⟨h1,h2,h3,h4⟩:=KX hc hk hm;obtain ⟨p1,p2,_⟩:=SC (hc.ch.bst c h1)
 grind [RF]
theorem BV {x:Inst} {l:List Col} {a:List Int} {k j:Nat} (hl:a.length=x.orders.length) (hcan:Bk x l a j k=true):(nth l j).set.toNat.testBit k=true/\ ∀t,t<x.orders.length->(t<k\/0<=nth a t)->nth (Vz (nth l j).set.toNat a j) t=nth a t:=by
 simp only [Bk,Zv,Ke,hl] at hcan
 grind [Xt]
theorem Do {x:Inst} {l ys:List Col} (hc:Ctx x l ys) {D:Nat} : ∀(d k:Nat) (s:St) (a:List Int),k+d=x.orders.length->Nd x l a s k->(gr x l ys D d k s a).length=x.orders.length/\ ∀t,t<x.orders.length->(t<k\/0<=nth a t)->nth (gr x l ys D d k s a) t=nth a t
 | 0,k,s,a,_,h=>⟨h.len,fun _ _ _=>rfl⟩
 | d+1,k,s,a,hd,h=>by
  have hk:k<x.orders.length:=Za
  rw [gr];have skip:=Do hc (D:=D) d (k+1) (GM s) a Za (h.skip' hk)
  split
  ·grind
  ·split
   ·rename_i c hf;have hsel:=JY hf;simp only [K0,Zv] at hsel;obtain ⟨p1,p2,p3⟩:=J9 hc h hk (QY hf) hsel.1;have hch:=h.child hc hk p1 p3;rw [p2] at hch;have ho:=(BV h.len p3).2;rw [p2] at ho;obtain ⟨g1,g2⟩:=Do hc (D:=D) d (k+1) (AE s c) _ Za hch;refine ⟨g1,fun t ht hh=> ?_⟩
    rw [g2 t ht (by
     rcases hh with h1 | h1
     ·left;omega
     ·right;rw [ho t ht (.inr h1)];exact h1),ho t ht hh]
   grind
theorem Cx {x:Inst} {l:List Col} : ∀(d:Nat) (a:List Int) (p:Int),d<=x.orders.length->a.length=x.orders.length-> ∀q∈Jo x l d a p,q.1.length=x.orders.length/\ ∀t,t<x.orders.length->(t<x.orders.length-d\/0<=nth a t)->nth q.1 t=nth a t
 | 0,a,p,_,h,q,hq=>by
  simp only [Jo,Z3,Wv,WT] at hq
  grind
 | d+1,a,p,hd,h,q,hq=>by
  rw [Jo] at hq
  split at hq
  ·obtain ⟨g1,g2⟩:=Cx d a p Za h q hq;exact ⟨g1,fun t ht hh=>g2 t ht (hh.imp Za id)⟩
  ·rw [Xe,XK] at hq;rcases hq with ⟨j,hj,hq⟩ | hq
   ·split at hq
    ·rename_i hcan;have ho:=(BV h hcan).2;obtain ⟨g1,g2⟩:=Cx d _ _ Za (by rw [Uk];exact h) q hq;refine ⟨g1,fun t ht hh=> ?_⟩
     rw [g2 t ht (by
      rcases hh with h1 | h1
      ·left;omega
      ·right;rw [ho t ht (.inr h1)];exact h1),ho t ht hh]
    ·simp at hq
   ·split at hq
    ·obtain ⟨g1,g2⟩:=Cx d a _ Za h q hq;exact ⟨g1,fun t ht hh=>g2 t ht (hh.imp Za id)⟩
    ·simp at hq
theorem KE.refl {n:Nat} {l:List Col} {a:List Int} :KE n l a a:=fun _ _=>⟨rfl,Vq _⟩
theorem Zct {l:List Col} {a:Int} (h:a<0):ky l a=(1,0,0):=if_pos h
theorem Li {l:List Col} {a:Int} (h:0<=a):ky l a=(0,(nth l a.toNat).typ,(nth l a.toNat).set):=if_neg Za
theorem Zjd {l:List Col} {i j:Nat} :ky l (i:Int)=ky l (j:Int)↔kd (nth l i)=kd (nth l j):=by
 grind [Li,kd]
theorem iE {x:Inst} {s:St} {r:Col->Int} {ls:List Col} (hp: ∀c∈ls,0<=c.price) (hr: ∀c∈ls,YC x s c=true-> -1<=r c) {c:Col} (hc:c∈ls) (hy:YC x s c=true) (h0:0<=r c) :
  cY (ls.foldl (fun o c=>if YC x s c=true then YQ o c.price (r c) else o) (-1)) (c.price+r c):=by
 have e:=JN (f:=fun o c=>if YC x s c=true then YQ o c.price (r c) else o) (g:=fun o c=>if YC x s c=true then YQ o c.price (max (-1) (r c)) else o) (l:=ls) (b:=(-1:Int)) fun c hc o=>by
  grind
 rw [e];have:=(R0 (x:=x) (s:=s) (r:=fun c=>max (-1) (r c)) (fun c=>Za) (l:=ls) (a:= -1) hp).2 c hc hy Za
 grind
theorem OF {x:Inst} {l ys:List Col} (hc:Ctx x l ys) {D:Nat} {s:St} (hv:StV x.orders.length s): -1<=Lx x ys D s:=(Ub (m:=mI x) hc.ok D _ (LR hv).1).1
theorem RD {o p r:Int} (hr: -1<=r) (hp:0<=p):cY (YQ o p r) o/\(0<=r->cY (YQ o p r) (p+r)):=by
 grind [cY,YQ]
theorem wH {x:Inst} {l ys:List Col} (hc:Ctx x l ys) {D:Nat} (hD:10<D) {a:List Int} {s:St} {k:Nat} (h:Nd x l a s k) (hk:k<x.orders.length) (ho:(nth x.orders k).off=false) (hak:nth a k<0) {c:Col} (hm:c∈Yh ys k) (hy:YC x s c=true) (h0:0<=Lx x ys D (AE s c)) :
  cY (Lx x ys D s) (c.price+Lx x ys D (AE s c)):=by
 have hcv:s.cov.toNat.testBit k=false:=by rw [h.cov k hk];grind
 rw [OE hc hD h.v h.ix hk ho hcv]
 have nd: ∀e∈Yh ys k,YC x s e=true->StV x.orders.length (AE s e):=fun e he hye=>by
  obtain ⟨p1,p2,p3⟩:=J9 hc h hk he hye;have:=(h.child hc hk p1 p3).v
  grind
 have low:=iE (x:=x) (s:=s) (r:=fun c=>Lx x ys D (AE s c)) (ls:=Yh ys k) (fun e he=>(hc.typ (KX hc hk he).2.1).2) (fun e he hye=>OF hc (nd e he hye)) hm hy h0
 split
 ·rename_i hs;have b:=(RD (o:=(Yh ys k).foldl (fun o c=>if YC x s c=true then YQ o c.price (Lx x ys D (AE s c)) else o) (-1)) (OF hc (D:=D) (h.skip' hk).v) hs).1
  grind [cY]
 ·exact low
theorem nR {x:Inst} {l ys:List Col} (hc:Ctx x l ys) {D:Nat} (hD:10<D) {a:List Int} {s:St} {k:Nat} (h:Nd x l a s k) (hk:k<x.orders.length) (ho:(nth x.orders k).off=false) (hak:nth a k<0) (hs:0<=skpF x k) (h0:0<=Lx x ys D (GM s)) :
  cY (Lx x ys D s) (skpF x k+Lx x ys D (GM s)):=by
 have hcv:s.cov.toNat.testBit k=false:=by rw [h.cov k hk];grind
 rw [OE hc hD h.v h.ix hk ho hcv,if_pos hs]
 grind [RD]
theorem Rl {x:Inst} {l ys:List Col} (hc:Ctx x l ys) {D:Nat} {a:List Int} {s:St} {k:Nat} (h:Nd x l a s k) (hk:k<x.orders.length) (ho:(nth x.orders k).off=true\/0<=nth a k):Lx x ys D s=Lx x ys D (GM s):=by
 unfold Lx;rw [DK h.ix hk (ho.imp (fun e=>by rw [FO hc.n4 hk,e];rfl) fun e=>by rw [BY h.v (by have:=hc.n4;omega),h.cov k hk];grind)]
theorem B9 {x:Inst} {l ys:List Col} (hc:Ctx x l ys) {D:Nat} (hD:10<D): ∀(d k:Nat) (s:St) (a b:List Int) (p:Int),k+d=x.orders.length->Nd x l a s k->Nd x l b s k->KE x.orders.length l a b-> ∀q∈Jo x l d b p,
  0<=Lx x ys D s/\p+Lx x ys D s<=q.2/\(q.2=p+Lx x ys D s->KL x.orders.length l (gr x l ys D d k s a) q.1)
 | 0,k,s,a,b,p,hd,ha,hb,he,q,hq=>by
  simp only [Jo,Z3,Wv,WT] at hq;subst hq;rw [dE (by rw [ha.ix];omega)];exact ⟨Za,Zb,fun _=> .inr he⟩
 | d+1,k,s,a,b,p,hd,ha,hb,he,q,hq=>by
  have hk:k<x.orders.length:=Za
  have hkd:x.orders.length-(d+1)=k:=Za
  have hneg: ∀t,t<x.orders.length->(0<=nth a t↔0<=nth b t):=fun t ht=>by
   have h1:=ha.cov t ht;rw [hb.cov t ht,decide_eq_decide] at h1;exact h1.symm
  rw [Jo,hkd] at hq;rw [gr]
  split at hq
  ·rename_i ho;have ho':(nth x.orders k).off=true\/0<=nth a k:=ho.imp id (hneg k hk).2;rw [if_pos ho',Rl hc ha hk ho'];exact B9 hc hD d (k+1) (GM s) a b p Za (ha.skip' hk) (hb.skip' hk) he q hq
  ·rename_i ho;have ho': ¬((nth x.orders k).off=true\/0<=nth a k):=fun g=>ho (g.imp id (hneg k hk).1);rw [if_neg ho']
   have hoff:(nth x.orders k).off=false:=by
    grind
   have hbk:nth b k<0:=Int.not_le.1 fun g=>ho (.inr g);have hak:nth a k<0:=Int.not_le.1 fun g=>ho' (.inr g)
   -- what was picked stands at k
   have hpick: ∀c,(Yh ys k).find? (K0 x ys D s)=some c->YC x s c=true/\c∈ys/\(∀t,t<k->nth (gr x l ys D d (k+1) (AE s c) (Vz c.set.toNat a (Bu l c))) t=nth a t)/\nth (gr x l ys D d (k+1) (AE s c) (Vz c.set.toNat a (Bu l c))) k=Bu l c/\nth l (Bu l c)=c:=fun c hf=>by
    have hsel:=JY hf;simp only [K0,Zv] at hsel;obtain ⟨p1,p2,p3⟩:=J9 hc ha hk (QY hf) hsel.1;have hch:=ha.child hc hk p1 p3;obtain ⟨c1,c2⟩:=BV ha.len p3;rw [p2] at hch c1 c2;have g2:=(Do hc (D:=D) d (k+1) (AE s c) _ Za hch).2;refine ⟨hsel.1,(KX hc hk (QY hf)).1,fun t ht=> ?_,?_,p2⟩
    ·grind
    ·rw [g2 k hk (.inl Za),Xt (by rw [ha.len];exact hk),if_pos c1]
   rw [Xe,XK] at hq;rcases hq with ⟨j,hj,hq⟩ | hq
   ·have hj:=ZP.1 hj
    split at hq
    ·rename_i hcan;obtain ⟨hy,htz⟩:=(RF hc hb hk hj).1 hcan;have hjl:=ZZ hj;obtain ⟨d',hd',hkd',hpr⟩:=fI hc.ch hjl
     have hst:d'.set=(nth l j).set/\d'.typ=(nth l j).typ:=by
      grind [kd]
     have hm:d'∈Yh ys k:=by
      simp_all [Yh]
     have hy':YC x s d'=true:=by grind [YC]
     have hnx:AE s d'=AE s (nth l j):=by grind [AE]
     have hcb:=hb.child hc hk hj hcan;obtain ⟨cb1,cb2⟩:=BV hb.len hcan;have hqo:=(Cx d _ _ Za (by rw [Uk];exact hb.len) q hq).2
     have hqt: ∀t,t<k->nth q.1 t=nth b t:=fun t ht=>by rw [hqo t Za (.inl Za),cb2 t Za (.inl ht)]
     have hqk:nth q.1 k=j:=by rw [hqo k hk (.inl Za),Xt (by rw [hb.len];exact hk),if_pos cb1]
     obtain ⟨i1,i2,_⟩:=B9 hc hD d (k+1) _ _ _ _ Za hcb hcb KE.refl q hq;rw [<- hnx] at i1 i2;have hle:=wH hc hD ha hk hoff hak hm hy' i1;have hp0:=(hc.typ (KX hc hk hm).2.1).2
     have hL0:0<=Lx x ys D s/\Lx x ys D s<=d'.price+Lx x ys D (AE s d'):=by
      rcases hle with h | h
      ·-- the least price would be lacking: not so, azs the column leads on
       omega
      ·exact h
     refine ⟨hL0.1,Za,fun hqc=> ?_⟩
     have hpe:d'.price=(nth l j).price:=Za
     have hLe:d'.price+Lx x ys D (AE s d')=Lx x ys D s:=Za
     have hsel:K0 x ys D s d'=true:=by simp_all [K0]
     have hpos:=SC (hc.ch.bst d' hd')
     have hpj:Bu l d'<=j:=by
      rcases hpos.2.2 j hj hkd'.symm with h | h
      ·omega
      ·exact h.2
     cases hf:(Yh ys k).find? (K0 x ys D s) with
     | none=>rw [JT] at hf;simp_all
     | some c =>
      obtain ⟨k1,k2,k3,k4,k5⟩:=hpick c hf;simp only
      by_cases hcd:c=d'
      ·subst hcd;obtain ⟨p1,p2,p3⟩:=J9 hc ha hk hm hy';have hca:=ha.child hc hk p1 p3;rw [p2] at hca;rw [<- hnx] at hcb;refine (B9 hc hD d (k+1) _ _ _ _ Za hca hcb (fun t ht=> ?_) q hq).2.2 Za;rw [hst.1,Xt (by rw [ha.len];exact ht),Xt (by rw [hb.len];exact ht)]
       cases hbt:(nth l j).set.toNat.testBit t with
       | true =>
        rw [if_pos rfl,if_pos rfl,Zjd,p2]
        grind
       | false =>
        rw [if_neg Zb,if_neg Zb];exact he t ht
      ·-- an earlier kind
       have hlt:cfK c d'<0:=by
        have hpw:(Yh ys k).Pairwise fun a b=>cfK a b<0:=hc.ch.asc.filter _;obtain ⟨_,u,w,hab,hno⟩:=List.find?_eq_some_iff_append.1 hf;rw [hab] at hpw hm;rw [EI,List.pairwise_cons] at hpw;rcases Xe.1 hm with h | h
        ·have:=hno d' h
         grind
        ·rcases Z3.1 h with h | h
         ·grind
         ·exact hpw.2.1.1 d' h
       rw [Fp] at hlt;refine .inl ⟨k,hk,fun t ht=> ?_,?_⟩
       ·rw [k3 t ht,hqt t ht];exact (he t Za).1
       ·rw [k4,hqk,Li Za,Li Za,XS,XS,k5]
        right
        grind
    ·simp at hq
   ·split at hq
    ·rename_i hpen;obtain ⟨s1,s2⟩:=hc.sk k hk hoff;have hs0:=s1.1 hpen;have hse:=s2 hs0;rw [<- hse] at hq;have hqo:=(Cx d _ _ Za hb.len q hq).2;obtain ⟨i1,i2,i3⟩:=B9 hc hD d (k+1) (GM s) a b _ Za (ha.skip' hk) (hb.skip' hk) he q hq;have hle:=nR hc hD ha hk hoff hak hs0 i1;have hrg:=OF hc (D:=D) ha.v
     have hL0:0<=Lx x ys D s/\Lx x ys D s<=skpF x k+Lx x ys D (GM s):=by
      rcases hle with h | h
      ·omega
      ·exact h
     refine ⟨hL0.1,Za,fun hqc=> ?_⟩
     cases hf:(Yh ys k).find? (K0 x ys D s) with
     | none=>grind
     | some c =>
      obtain ⟨k1,k2,k3,k4,k5⟩:=hpick c hf;simp only;refine .inl ⟨k,hk,fun t ht=> ?_,?_⟩
      ·rw [k3 t ht,hqo t Za (.inl Za)];exact (he t Za).1
      ·rw [k4,hqo k hk (.inl Za),Li Za,Zct hbk]
       left;omega
    ·simp at hq
theorem Ot {x:Inst} {S:Nat} (hn:x.orders.length<=4) (hS:S<9223372036854775808):Ri S (Yp x x.orders.length)=(decide (S<2^x.orders.length)&&(List.range x.orders.length).all fun i=> !(S.testBit i&&(nth x.orders i).off)):=by
 rw [Ww,Zv,Zr,Ri,ZD,ZD]
 constructor
 ·intro h
  have key: ∀i,S.testBit i=true->i<x.orders.length/\(nth x.orders i).off=false:=fun i hi=>by
   have h63:i<63:=by
    rcases Wy i 63 with h | h
    ·exact h
    ·have:2^63<=2^i:=Ym Za h
     grind [An]
   grind [U1]
  refine ⟨Nat.lt_pow_two_of_testBit _ fun i hi=> ?_,fun i _=> ?_⟩
  ·grind
  grind
 ·rintro ⟨h1,h2⟩ i _
  cases hb:S.testBit i with
  | false=>rfl
  | true =>
   have hi:i<x.orders.length:=by
    rcases Wy i x.orders.length with h | h
    ·exact h
    ·have:2^x.orders.length<=2^i:=Ym Za h
     grind [An]
   have:=h2 i (ZP.2 hi)
   simp_all [U1]
theorem bK (x:Inst) (c:Col) (hn:x.orders.length<=4) (ht:x.types.length<=1048576) (hs:c.set<9223372036854775808):PC 115 [.p (Zq x),.p (Xk c)] (.bool (rightB x c)):=by
 obtain ⟨B,hB⟩: ∃B,B=rightB x c:=⟨_,rfl⟩;rw [<- hB]
 have h54:((pw 54:Nat):Int)=18014398509481984:=by decide
 refine Zc Tryz.func115 rfl zT ?_;simp (disch:=omega) only [Tryz.f115,go_sem,seval];refine Xd (Zd ?_);refine gF ?_ ?_<;>intro h1<;>simp (disch:=omega) only [Sh.out h1,go_sem,seval,↓reduceIte]
 ·grind [rightB]
 ·refine gF ?_ ?_<;>intro h2<;>simp (disch:=omega) only [Sh.out h2,go_sem,seval,↓reduceIte]
  ·grind [rightB]
  ·refine gF ?_ ?_<;>intro h3<;>simp (disch:=omega) only [Sh.out h3,go_sem,seval,↓reduceIte]
   ·grind [rightB]
   ·obtain ⟨S,hS⟩: ∃S:Nat,c.set=S:=⟨c.set.toNat,Za⟩
    have e0:B=(decide (S<2^x.orders.length)&&((List.range x.orders.length).all fun i=> !(S.testBit i&&(nth x.orders i).off))&&(decide (0<=c.price)&&decide (c.price<=18014398509481984))):=by
     grind [rightB,Ot]
    rw [hS];refine Zn (IP x.orders.length Za) (Zd ?_);have hpw:pw x.orders.length=2^x.orders.length:=rfl;refine gF ?_ ?_<;>intro h4<;>simp (disch:=omega) only [Sh.out h4,go_sem,seval,↓reduceIte]
    ·grind [Qd]
    ·refine gF ?_ ?_<;>intro h5<;>simp (disch:=omega) only [Sh.out h5,go_sem,seval,↓reduceIte]
     ·grind
     ·refine Zn (IP 54 Za) (Zd ?_);rw [h54];refine cD ?_ ?_<;>intro h6<;>simp (disch:=omega) only [Sh.out h6,go_sem,seval]
      ·grind
      ·have e1:B=((List.range x.orders.length).all fun i=> !(S.testBit i&&(nth x.orders i).off)):=by grind
       refine Zl [2,3] (fun k:Nat=> [(5,.p (.int .i64 k))]) (fun _=> [Zf x,IY c]) (fun k=>k<=x.orders.length/\ ∀j,j<k->(!(S.testBit j&&(nth x.orders j).off))=true) (fun k=>x.orders.length-k) 0 ⟨Zb,fun j hj=>Za⟩ (Weak.mk ?_) ?_
       ·simp (disch:=omega) only [Zf,IY,hS,go_sem,seval]
       ·rintro k ⟨hk,hno⟩;simp (disch:=omega) only [Zf,IY,hS,go_sem,seval];refine cD ?_ ?_<;>intro h7<;>simp (disch:=omega) only [Sh.out h7,go_sem,seval,↓reduceIte]
        ·have hk2:k<x.orders.length:=Za
         refine (I9 S k Za Za).use (Zd ?_);refine Je ?_ ?_<;>intro h8
         ·refine ZX ?_ ?_<;>intro h9
          ·grind
          ·exact ⟨k+1,⟨Za,Y8 hno (by grind)⟩,Za,Weak.mk (by simp (disch:=omega) only [hS,go_sem,seval])⟩
         ·exact ⟨k+1,⟨Za,Y8 hno (by rw [h8];rfl)⟩,Za,Weak.mk (by simp (disch:=omega) only [hS,go_sem,seval])⟩
        grind
def zCh : Chc:=⟨false,[],0⟩
def TN (b:Chc):PV:= .agg [.bool b.found,.list (!b.found) (b.places.map eI),.int .i64 b.price]
@[go_sem] theorem Zlc (b:Chc):TN b= .agg [.bool b.found,.list (!b.found) (b.places.map eI),.int .i64 b.price]:=Zm rfl rfl
def L8 (b:Chc):AM.Obj:= .cells [.p (.bool b.found),.p (.list (!b.found) (b.places.map eI)),.p (.int .i64 b.price)]
def D9 (x:Inst) (l:List Col):Chc:=(Jo x l x.orders.length (List.replicate x.orders.length (-1)) 0).foldl (YI l) zCh
def dC (x:Inst) (l:List Col) (b:Chc) (e:Int):Prop:=(8192<l.length/\b=zCh/\e=4)\/(l.length<=8192/\(∃c∈l,rightB x c=false)/\b=zCh/\e=2) \/
 (l.length<=8192/\(∀c∈l,rightB x c=true)/\(((D9 x l).found=false/\b=zCh/\e=24)\/((D9 x l).found=true/\b=D9 x l/\e=0)))
theorem EO {n i:Nat} (h:i<n):nth (List.replicate n (-1:Int)) i= -1:=by
 grind [Zj]
theorem SE {x:Inst} {l:List Col} :RngA x l (List.replicate x.orders.length (-1)):=⟨Zb,fun i hi=>by rw [EO hi];omega⟩
theorem MC {x:Inst} {l:List Col} (h4:x.orders.length<=4) (h6:x.types.length<=6) (hl:l.length<=1048576) (hs: ∀c∈l,c.set<9223372036854775808) (hr: ∀c∈l,rightB x c=true)
  (hsk: ∀k,k<x.orders.length->(nth x.orders k).off=false->0<=(nth x.orders k).penalty->0<=skR x k/\skR x k<=18014398509481984) (hus: ∀i,scoR 1152921504606846976 (unsF x i).1):ColsR x l :=
 ⟨h4,h6,hl,fun c hc=>by
  obtain ⟨S,q1,q2,q3,_⟩:=Ql (hr c hc) (hs c hc);have h:=hr c hc;simp only [rightB,Zv,Zr] at h
  exact ⟨⟨h.1,h.2.1⟩,h.2.2.2.2,S,q1,Uu q3 (Ym (n:=2) Za h4)⟩,hsk,hus⟩
theorem O3 (x:Inst) (l:List Col) (lc:Bool) (h4:x.orders.length<=4) (h6:x.types.length<=6) (hl:l.length<=1048576) (hs: ∀c∈l,c.set<9223372036854775808)
  (hsk: ∀k,k<x.orders.length->(nth x.orders k).off=false->0<=(nth x.orders k).penalty->0<=skR x k/\skR x k<=18014398509481984) (hus: ∀i,scoR 1152921504606846976 (unsF x i).1) :
  ACalls Tryz.prog 85 [.p (Zq x),.p (.list lc (l.map Xk))] [] fun y H'=> ∃b e,dC x l b e/\y= .tup [.p (TN b),.p (.int .i64 e)]/\H'= []:=by
 refine Ze [14] Tryz.func85 rfl Zi1 ?_;simp (disch:=omega) only [Tryz.f85,go_sem,seval];refine cD ?_ ?_<;>intro h1<;>simp (disch:=omega) only [Sh.out h1,go_sem,seval,↓reduceIte]
 ·exact ⟨.tup [.p (TN zCh),.p (.int .i64 4)],[],Weak.mk (by simp (disch:=omega) only [zCh,Wx,Zk,go_sem,seval]),_,_,.inl ⟨Za,rfl,rfl⟩,rfl,rfl⟩
 ·refine Zl [1,2,4] (fun k:Nat=> [(6,.p (.int .i64 k))]) (fun _=> [Zf x,L8 zCh]) (fun k=>k<=l.length/\ ∀j,j<k->rightB x (nth l j)=true) (fun k=>l.length-k) 0 ⟨Zb,fun j hj=>Za⟩ (Weak.mk ?_) ?_
  ·simp (disch:=omega) only [Zf,L8,zCh,Wx,Zk,go_sem,seval]
  ·rintro k ⟨hk,hno⟩;simp (disch:=omega) only [Zf,L8,zCh,Wx,Zk,go_sem,seval];refine cD ?_ ?_<;>intro h2<;>simp (disch:=omega) only [Sh.out h2,go_sem,seval,↓reduceIte]
   ·have hk2:k<l.length:=Za
    refine Xd (Zd ?_);refine Zn (bK x (nth l k) h4 Za (hs _ (ZZ hk2))) (Zd ?_)
    cases hr:rightB x (nth l k) with
    | false =>
     refine GA ?_;exact ⟨.tup [.p (TN zCh),.p (.int .i64 2)],[],Weak.mk (by simp (disch:=omega) only [zCh,Wx,Zk,go_sem,seval]),_,_,.inr (.inl ⟨Za,⟨_,ZZ hk2,hr⟩,rfl,rfl⟩),rfl,rfl⟩
    | true =>
     refine GB ?_;exact ⟨k+1,⟨Za,Y8 hno hr⟩,Za,wk⟩
   ·have hr: ∀c∈l,rightB x c=true:=fun c hc=>by
     obtain ⟨j,hj,rfl⟩:=ZO.1 hc
     grind [Zj]
    have hC:=MC h4 h6 hl hs hr hsk hus;clear hno hk h2;refine ZY [14] [2,4,7] (fun k:Nat=> [(8,.sl 3 0 k k),(9,.p (.int .i64 k))]) (fun k=> [Zf x,L8 zCh,UJ x lc l zCh,.elems 1 ((List.replicate k (-1:Int)).map eI)]) (fun k=>k<=x.orders.length) (fun k=>x.orders.length-k) 0 Zb (Weak.ofNil 8 1 (by simp (disch:=omega) only [go_sem,seval]) Zb (Weak.mk ?_)) ?_
    ·simp (disch:=omega) only [Zf,L8,UJ,zCh,Wx,Zk,List.replicate_zero,ZH,go_sem,seval]
    ·intro k hk;simp (disch:=omega) only [Zf,L8,UJ,zCh,Wx,Zk,go_sem,seval];refine cD ?_ ?_<;>intro h2<;>simp (disch:=omega) only [Sh.out h2,go_sem,seval,↓reduceIte]
     ·have hk2:k<x.orders.length:=Za
      have hrp:(List.replicate k (-1:Int))++ [-1]=List.replicate (k+1) (-1):=by rw [EJ]
      simp (disch:=omega) only [EE,go_sem,seval];rw [if_pos ⟨Za,Za⟩];refine Zd ?_;exact ⟨k+1,Za,Za,Weak.mk (by simp (disch:=omega) only [<- hrp,Xn,Zs,Zk,go_sem,seval])⟩
     ·have hkn:k=x.orders.length:=Za
      subst hkn;refine Zo (Weak.fz (o:=3) (by rfl)) ?_;refine Zh [] _ _ _ _ ?_;simp (disch:=omega) only [Zs,Zk,ZL,ZC,EE,eq_self,go_sem,seval];have ht:=SY x lc l hC x.orders.length (List.replicate x.orders.length (-1)) 0 zCh (ZF _) SE Za Za (fun h=>by cases h);rw [AB] at ht;obtain ⟨B,hB⟩: ∃B,B=D9 x l:=⟨_,rfl⟩;rw [show (Jo x l x.orders.length (List.replicate x.orders.length (-1)) 0).foldl (YI l) zCh=B from hB.symm] at ht;refine ACalls.mono (((ht.mono fun y H' hq=>(⟨hq,by grind⟩:_/\H'.length= [UJ x lc l zCh].length)).front (by rfl) (by rfl) [.dead]).back [Zf x,L8 zCh] (by rfl)) ?_
      rintro y H' ⟨y1,H1,⟨H2,⟨rfl,rfl⟩,rfl⟩,rfl,rfl⟩;obtain ⟨f,bp,bc⟩:=B
      cases f with
      | false =>
       simp (disch:=omega) only [shV,shVs,shO,UJ,Zf,L8,zCh,Zs,Zk,ZM,ZE,Wx,go_sem,seval];exact ⟨.tup [.p (TN zCh),.p (.int .i64 24)],[],Weak.mk (by simp (disch:=omega) only [zCh,Wx,Zk,go_sem,seval]),_,_,.inr (.inr ⟨Za,hr,.inl ⟨by rw [<- hB],rfl,rfl⟩⟩),rfl,rfl⟩
      | true =>
       simp (disch:=omega) only [shV,shVs,shO,UJ,Zf,L8,zCh,Zs,Zk,ZM,ZE,Yn,go_sem,seval];exact ⟨.tup [.p (TN ⟨true,bp,bc⟩),.p (.int .i64 0)],[],Weak.mk (by simp (disch:=omega) only [Yn,go_sem,seval]),_,_,.inr (.inr ⟨Za,hr,.inr ⟨by rw [<- hB],hB,rfl⟩⟩),rfl,rfl⟩
theorem jJ {l:List Col} {x y:Int} (hx: -1<=x) (hy: -1<=y) (h:ky l x=ky l y):(x<0->x=y)/\(y<0->x=y)/\(0<=x->0<=y/\(nth l x.toNat).typ=(nth l y.toNat).typ/\(nth l x.toNat).set=(nth l y.toNat).set):=by
 unfold ky at h
 grind
theorem Di {l:List Col} : ∀ {a b:List Int},a.length=b.length->(∀t,t<a.length-> -1<=nth a t/\ -1<=nth b t/\ky l (nth a t)=ky l (nth b t))->Ku l a b=none
 | [],[],_,_=>Mq
 | [],_::_,h,_=>by simp at h
 | _::_,[],h,_=>by simp at h
 | x::a,y::b,hl,h=>by
  have ih:=Di (l:=l) (a:=a) (b:=b) (by grind) fun t ht=>h (t+1) (by grind);obtain ⟨h1,h2,h3⟩:=h 0 Zb;obtain ⟨k1,k2,k3⟩:=jJ (show-1<=x from h1) (show-1<=y from h2) h3;rw [Ku]
  grind
theorem Rz {l:List Col} : ∀ {a b:List Int} {i:Nat},a.length=b.length->i<a.length->(∀t,t<a.length-> -1<=nth a t/\ -1<=nth b t)->(∀t,t<i->ky l (nth a t)=ky l (nth b t))->jI (ky l (nth a i)) (ky l (nth b i))->Ku l a b=some true/\Ku l b a=some false
 | [],_,_,_,h,_,_,_=>by simp at h
 | _::_,[],_,h,_,_,_,_=>by simp at h
 | x::a,y::b,0,_,_,hr,_,h=>by
  obtain ⟨h1,h2⟩:=hr 0 Zb;have h':jI (ky l x) (ky l y):=h
  have hne:x≠y:=fun e=>by grind [jI]
  rw [Ku,Ku,if_neg hne,if_neg (Ne.symm hne)];unfold ky jI at h'
  grind
 | x::a,y::b,i+1,hl,hi,hr,he,h=>by
  have ih:=Rz (l:=l) (a:=a) (b:=b) (i:=i) (by grind) (by grind) (fun t ht=>hr (t+1) (by grind)) (fun t ht=>he (t+1) Za) h;obtain ⟨h1,h2⟩:=hr 0 Zb;have h3:ky l x=ky l y:=he 0 Za;obtain ⟨k1,k2,k3⟩:=jJ (show-1<=x from h1) (show-1<=y from h2) h3;rw [Ku,Ku]
  grind
theorem RB : ∀ {a b:List Int},a.length=b.length->(∀t,t<a.length->nth a t<=nth b t)->a=b\/(Ea a b=true/\Ea b a=false)
 | [],[],_,_=> .inl rfl
 | [],_::_,h,_=>by simp at h
 | _::_,[],h,_=>by simp at h
 | x::a,y::b,hl,h=>by
  have h0:x<=y:=h 0 Zb;rw [Ea,Ea]
  by_cases hxy:x=y
  ·subst hxy;rw [if_pos rfl,if_pos rfl];rcases RB (a:=a) (b:=b) (by grind) (fun t ht=>h (t+1) (by grind)) with e | e
   ·grind
   grind
  grind
theorem wG {x:Inst} {l:List Col} {a b:List Int} (ha:RngA x l a) (hb:RngA x l b) (h:KL x.orders.length l a b):a=b\/(Fj l a b=true/\Fj l b a=false):=by
 have hl:a.length=b.length:=by rw [ha.1,hb.1]
 have hr: ∀t,t<a.length-> -1<=nth a t/\ -1<=nth b t:=fun t ht=>⟨(ha.2 t (by rw [<- ha.1];exact ht)).1,(hb.2 t (by rw [<- ha.1];exact ht)).1⟩;rcases h with ⟨i,hi,he,hlt⟩ | h
 ·obtain ⟨h1,h2⟩:=Rz hl (by rw [ha.1];exact hi) hr he hlt
  grind [Jc]
 ·have h1:=Di (l:=l) hl fun t ht=>⟨(hr t ht).1,(hr t ht).2,(h t (by rw [<- ha.1];exact ht)).1⟩;have h2:=Di (l:=l) hl.symm fun t ht=>⟨(hr t Za).2,(hr t Za).1,((h t (by rw [<- hb.1];exact ht)).1).symm⟩;rcases RB hl fun t ht=>(h t (by rw [<- ha.1];exact ht)).2 with e | ⟨e1,e2⟩
  ·exact .inl e
  grind [Hg]
def Prf (l:List Col) (P:List Int) (W:Int) (q:List Int×Int):Prop:=W<=q.2/\(q.2=W->P=q.1\/(Fj l P q.1=true/\Fj l q.1 P=false))
theorem Ol {l:List Col} {P:List Int} {W:Int} : ∀ {L:List (List Int×Int)},(∀q∈L,Prf l P W q)->L.foldl (YI l) ⟨true,P,W⟩=⟨true,P,W⟩
 | [],_=>rfl
 | q::L,h=>by
  have e:YI l ⟨true,P,W⟩ q=⟨true,P,W⟩:=by
   obtain ⟨h1,h2⟩:=h q Zb;unfold YI
   split
   ·rename_i hc;rcases hc with hc | hc | ⟨hc,hd⟩
    ·cases hc
    ·simp only at hc;omega
    ·simp only at hc hd;rcases h2 hc with e | ⟨_,e⟩
     ·rw [<- e,hc]
     ·rw [e] at hd;cases hd
   ·rfl
  rw [XG,e];exact Ol fun q hq=>h q (Ye _ hq)
theorem Ip {l:List Col} {P:List Int} {W:Int} : ∀ {L:List (List Int×Int)} {b:Chc},(b.found=false\/Prf l P W (b.places,b.price))->(∀q∈L,Prf l P W q)->(P,W)∈L->L.foldl (YI l) b=⟨true,P,W⟩
 | [],_,_,_,hm=>by simp at hm
 | q::L,b,hb,h,hm=>by
  rw [XG];have hq:=h q Zb;have hL: ∀q∈L,Prf l P W q:=fun q hq=>h q (Ye _ hq)
  by_cases e:q=(P,W)
  ·have:YI l b q=⟨true,P,W⟩:=by
    subst e;unfold YI
    split
    ·rfl
    ·rename_i hc;rcases hb with hb | ⟨h1,h2⟩
     ·grind
     ·simp only at h1 h2 hc
      have h3:b.price=W:=by
       omega
      rcases h2 h3 with e | ⟨e,_⟩
      ·obtain ⟨f,bp,bc⟩:=b
       grind
      grind
   grind [Ol]
  ·refine Ip ?_ hL (by
    rcases Z3.1 hm with h | h
    ·exact absurd h.symm e
    ·exact h)
   unfold YI
   split
   ·exact .inr hq
   ·exact hb
theorem R2 {x:Inst} {l ys:List Col} (hc:Ctx x l ys) {D:Nat} (hD:10<D): ∀(d k:Nat) (s:St) (a:List Int) (p:Int),k+d=x.orders.length->Nd x l a s k->0<=Lx x ys D s->(gr x l ys D d k s a,p+Lx x ys D s)∈Jo x l d a p
 | 0,k,s,a,p,hd,ha,h0=>by
  rw [dE (by rw [ha.ix];omega),UC,gr,Jo];simp
 | d+1,k,s,a,p,hd,ha,h0=>by
  have hk:k<x.orders.length:=Za
  have hkd:x.orders.length-(d+1)=k:=Za
  rw [Jo,hkd,gr]
  split
  ·rename_i ho;rw [Rl hc ha hk ho] at h0 ⊢;exact R2 hc hD d (k+1) _ a p Za (ha.skip' hk) h0
  ·rename_i ho
   have hoff:(nth x.orders k).off=false:=by
    cases e:(nth x.orders k).off with
    | false=>rfl
    | true=>exact absurd (.inl e) ho
   have hak:nth a k<0:=Int.not_le.1 fun g=>ho (.inr g)
   have hcv:s.cov.toNat.testBit k=false:=by rw [ha.cov k hk];exact Qd Za
   rw [Xe,XK]
   cases hf:(Yh ys k).find? (K0 x ys D s) with
   | some c =>
    left
    have hsel:=JY hf;simp only [K0,Zv,Zr] at hsel;obtain ⟨p1,p2,p3⟩:=J9 hc ha hk (QY hf) hsel.1;have hch:=ha.child hc hk p1 p3;rw [p2] at hch;refine ⟨Bu l c,ZP.2 p1,?_⟩;rw [if_pos p3,p2];have:=R2 hc hD d (k+1) _ _ (p+c.price) Za hch hsel.2.1;rw [show p+c.price+Lx x ys D (AE s c)=p+Lx x ys D s by omega] at this;exact this
   | none =>
    right
    rw [JT] at hf;have hdec:=OE hc hD ha.v ha.ix hk hoff hcv;have hno: ∀c∈Yh ys k,YC x s c=true->0<=Lx x ys D (AE s c)->c.price+Lx x ys D (AE s c)≠Lx x ys D s:=fun c hm hy hL e=>hf c hm (by simp only [K0,hy,UB hL,UB e,Bool.and_self]);obtain ⟨s1,s2⟩:=hc.sk k hk hoff;have hfold:=Hz (x:=x) (s:=s) (r:=fun c=>Lx x ys D (AE s c)) (l:=Yh ys k) (a:= -1)
    by_cases hs:0<=skpF x k
    ·rw [if_pos (s1.2 hs),<- s2 hs];rw [if_pos hs] at hdec;unfold YQ at hdec
     split at hdec
     ·rename_i hb;have:=R2 hc hD d (k+1) _ a (p+skpF x k) Za (ha.skip' hk) hb.1;rw [show p+skpF x k+Lx x ys D (GM s)=p+Lx x ys D s by omega] at this;exact this
     ·exfalso;rcases hfold with e | ⟨c,h1,h2,h3,h4⟩
      ·unfold YQ at e;omega
      ·exact hno c h1 h2 h3 (by rw [hdec];exact h4.symm)
    ·exfalso;rw [if_neg hs] at hdec;rcases hfold with e | ⟨c,h1,h2,h3,h4⟩
     ·omega
     ·exact hno c h1 h2 h3 (by rw [hdec];exact h4.symm)
def SH (l:List Col) (g:List Int) (T:Nat):Nat->List Col
 | 0=> []
 | i+1=>SH l g T i++(if 0<=nth g i/\(nth l (nth g i).toNat).typ=T/\(nth l (nth g i).toNat).set%(pw i:Nat)=0 then [nth l (nth g i).toNat] else [])
def L9 (l:List Col) (g:List Int) (n:Nat):Nat->List Col
 | 0=> []
 | T+1=>L9 l g n T++SH l g T n
def dB (x:Inst) (g:List Int):Nat->List Int
 | 0=> []
 | i+1=>dB x g i++(if nth g i<0/\(nth x.orders i).off=false then [(i:Int)] else [])
theorem LJ {l:List Col} {g:List Int} {T:Nat} : ∀k,(SH l g T k).length<=k
 | 0=>ZF _
 | k+1=>by
  have:=LJ (l:=l) (g:=g) (T:=T) k;rw [SH,Zz];split<;>simp<;>omega
theorem LK {l:List Col} {g:List Int} {n:Nat} : ∀T,(L9 l g n T).length<=T*n
 | 0=>by simp [L9]
 | T+1=>by
  have:=LK (l:=l) (g:=g) (n:=n) T;have:=LJ (l:=l) (g:=g) (T:=T) n;rw [L9,Zz,XB];omega
theorem LZ {x:Inst} {g:List Int} : ∀k,(dB x g k).length<=k
 | 0=>ZF _
 | k+1=>by
  have:=LZ (x:=x) (g:=g) k;rw [dB,Zz];split<;>simp<;>omega
def Ma (x:Inst) (l:List Col) (p:Pln) (c e:Int):Prop:= ∃b,dC x l b e/\(e≠0->p=zPlC/\c=0)/\(e=0->c=b.price/\p=⟨false,(L9 l b.places b.places.length x.types.length).map (·.route),false,dB x b.places b.places.length⟩)
def dA (v w:V):AM.Obj:= .cells [v,w]
theorem MA (x:Inst) (l:List Col) (lc:Bool) (h4:x.orders.length<=4) (h6:x.types.length<=6) (hl:l.length<=1048576) (hs: ∀c∈l,c.set<9223372036854775808)
  (hsk: ∀k,k<x.orders.length->(nth x.orders k).off=false->0<=(nth x.orders k).penalty->0<=skR x k/\skR x k<=18014398509481984) (hus: ∀i,scoR 1152921504606846976 (unsF x i).1) :
  ACalls Tryz.prog 55 [.p (Zq x),.p (.list lc (l.map Xk))] [] fun y H'=> ∃p c e,Ma x l p c e/\y= .tup [.p (JL p),.p (.int .i64 c),.p (.int .i64 e)]/\H'= []:=by
 refine Ze [18] Tryz.func55 rfl ZiA ?_;simp (disch:=omega) only [Tryz.f55,go_sem,seval];refine ((O3 x l lc h4 h6 hl hs hsk hus).behind (by rfl) _).mono ?_;rintro y H' ⟨y1,H1,⟨b,e,hb,rfl,rfl⟩,rfl,rfl⟩;simp (disch:=omega) only [shV,shVs,Zk,go_sem,seval];refine cD ?_ ?_<;>intro h1<;>simp (disch:=omega) only [Sh.out h1,go_sem,seval,↓reduceIte]
 ·exact ⟨.tup [.p (JL zPlC),.p (.int .i64 0),.p (.int .i64 e)],[],Weak.mk (by simp (disch:=omega) only [zPlC,Zk,go_sem,seval]),_,_,_,⟨b,hb,fun _=>⟨rfl,rfl⟩,fun h=>absurd h h1⟩,rfl,rfl⟩
 ·have he:e=0:=Za
  subst he;have hcv:=hb;rcases hb with ⟨_,_,h⟩ | ⟨_,_,_,h⟩ | ⟨hl2,hr,⟨_,_,h⟩ | ⟨hf,rfl,_⟩⟩
  ·cases h
  ·cases h
  ·cases h
  ·have hC:=MC h4 h6 hl hs hr hsk hus;have hrg:RngA x l (D9 x l).places:=(L4 (x:=x) (l:=l) (b:=zCh) (fun h=>by cases h) (AC x.orders.length SE)) hf;obtain ⟨⟨f,g,c⟩,hB⟩: ∃B,B=D9 x l:=⟨_,rfl⟩;rw [<- hB] at hcv hf hrg ⊢;simp only at hf hrg;subst hf;have hgl:g.length=x.orders.length:=hrg.1;refine Zl [1,2,4,7,9] (fun T:Nat=> [(10,.p (.int .i64 T))]) (fun T=> [Zf x,dA (.p (.list true [])) (.p (.list true [])),L8 ⟨true,g,c⟩,dA (.sl 4 0 (L9 l g g.length T).length (L9 l g g.length T).length) (.p (.list true [])),.elems 4 ((L9 l g g.length T).map fun c=>Wp c.route)]) (fun T=>T<=x.types.length) (fun T=>x.types.length-T) 0 Zb ((Weak.nilC (o:=3) (j:=0) 4 (by rfl) (by rfl) Zb).trans (Weak.mk ?_)) ?_
   ·simp (disch:=omega) only [Zf,dA,L8,Yn,L9,Zk,ZH,ZL,ZC,go_sem,seval]
   ·intro T hT;obtain ⟨R,hR⟩: ∃R,R=L9 l g g.length T:=⟨_,rfl⟩;have hRl:=LK (l:=l) (g:=g) (n:=g.length) T;rw [<- hR] at hRl ⊢
    have hRs:L9 l g g.length (T+1)=R++SH l g T g.length:=by rw [hR];rfl
    have hTn:T*g.length<=6*4:=Av Za Za;simp (disch:=omega) only [Zf,dA,L8,Yn,go_sem,seval];refine cD ?_ ?_<;>intro h2<;>simp (disch:=omega) only [Sh.out h2,go_sem,seval,↓reduceIte]
    ·obtain ⟨W,hW⟩: ∃W:Nat->List Col,W=fun i=>R++SH l g T i:=⟨_,rfl⟩
     have hW0:W 0=R:=by grind [SH]
     have hWn:L9 l g g.length (T+1)=W g.length:=by rw [hRs,hW]
     have hWl: ∀i,(W i).length<=R.length+i:=fun i=>by
      grind [LJ]
     have hWs: ∀i,W (i+1)=W i++(if 0<=nth g i/\(nth l (nth g i).toNat).typ=T/\(nth l (nth g i).toNat).set%(pw i:Nat)=0 then [nth l (nth g i).toNat] else []):=fun i=>by grind [SH]
     clear hW hRs;refine Zl [1,2,4,7,9,10] (fun i:Nat=> [(11,.p (.int .i64 i))]) (fun i=> [Zf x,dA (.p (.list true [])) (.p (.list true [])),L8 ⟨true,g,c⟩,dA (.sl 4 0 (W i).length (W i).length) (.p (.list true [])),.elems 4 ((W i).map fun c=>Wp c.route)]) (fun i=>i<=g.length) (fun i=>g.length-i) 0 Zb (Weak.mk ?_) ?_
     ·simp (disch:=omega) only [Zf,dA,L8,Yn,hW0,go_sem,seval]
     ·intro i hi
      have hQl:(W i).length<=28:=by grind
      have hQs:=hWs i;simp (disch:=omega) only [Zf,dA,L8,Yn,go_sem,seval];refine ZX ?_ ?_<;>intro h3
      ·have hi2:i<g.length:=Za
       have hri:=hrg.2 i Za;refine Xd (Zd ?_);refine Je ?_ ?_<;>intro h5
       ·have hj:(nth g i).toNat<l.length:=Za
        obtain ⟨⟨t0,t1⟩,⟨c0,c1⟩,S,hS,hS2⟩:=hC.col _ (ZZ hj);refine Je ?_ ?_<;>intro h7
        ·have hpp:0<pw i/\pw i<=pw 4:=⟨Ga i,Ks Za⟩;refine Zn (IP i Za) (Zd ?_);rw [hS];refine ZX ?_ ?_<;>intro h8
         ·rw [if_pos ⟨h5,h7,by grind⟩] at hQs;refine ZB 12 mixed Zg Zg ?_;refine Zd ?_;exact ⟨i+1,Za,Za,Weak.mk (by simp (disch:=omega) only [hQs,Xn,Zs,Zk,Zz,ZA,ZH,Xi,go_sem,seval])⟩
         ·rw [if_neg (fun h=>h8 (by grind)),Yw] at hQs;exact ⟨i+1,Za,Za,Weak.mk (by simp (disch:=omega) only [hQs,go_sem,seval])⟩
        ·rw [if_neg (fun h=>h7 h.2.1),Yw] at hQs;exact ⟨i+1,Za,Za,Weak.mk (by simp (disch:=omega) only [hQs,go_sem,seval])⟩
       ·rw [if_neg (fun h=>h5 h.1),Yw] at hQs;exact ⟨i+1,Za,Za,Weak.mk (by simp (disch:=omega) only [hQs,go_sem,seval])⟩
      ·have hig:i=g.length:=Za
       subst hig;exact ⟨T+1,Za,Za,Weak.mk (by simp (disch:=omega) only [hWn,go_sem,seval])⟩
    ·have hTt:T=x.types.length:=Za
     subst hTt;refine ZY [18] [2,4,7,9] (fun i:Nat=> [(12,.p (.int .i64 i))]) (fun i=> [Zf x,dA (.p (.list true [])) (.p (.list true [])),L8 ⟨true,g,c⟩,dA (.sl 4 0 R.length R.length) (.sl 5 0 (dB x g i).length (dB x g i).length),.elems 4 (R.map fun c=>Wp c.route),.elems 1 ((dB x g i).map eI)]) (fun i=>i<=g.length) (fun i=>g.length-i) 0 Zb ((Weak.nilC (o:=3) (j:=1) 1 (by rfl) (by rfl) Zb).trans (Weak.mk ?_)) ?_
     ·simp (disch:=omega) only [Zf,dA,L8,Yn,dB,Zk,ZH,ZL,ZC,go_sem,seval]
     ·intro i hi;obtain ⟨U,hU⟩: ∃U,U=dB x g i:=⟨_,rfl⟩;have hUl:=LZ (x:=x) (g:=g) i
      have hUs:dB x g (i+1)=U++(if nth g i<0/\(nth x.orders i).off=false then [(i:Int)] else []):=by rw [hU];rfl
      rw [<- hU] at hUl ⊢;simp (disch:=omega) only [Zf,dA,L8,Yn,go_sem,seval];refine cD ?_ ?_<;>intro h3<;>simp (disch:=omega) only [Sh.out h3,go_sem,seval,↓reduceIte]
      ·have hi2:i<g.length:=Za
       refine Je ?_ ?_<;>intro h5
       ·cases ho:(nth x.orders i).off with
        | true =>
         rw [if_neg (by rw [ho];simp),Yw] at hUs;refine GB ?_;exact ⟨i+1,Za,Za,Weak.mk (by simp (disch:=omega) only [hUs,go_sem,seval])⟩
        | false =>
         rw [if_pos ⟨h5,ho⟩] at hUs;refine GA ?_;exact ⟨i+1,Za,Za,Weak.mk (by simp (disch:=omega) only [hUs,Xn,Zs,Zk,Zz,ZA,ZH,Xi,go_sem,seval])⟩
       ·rw [if_neg (fun h=>h5 h.1),Yw] at hUs;exact ⟨i+1,Za,Za,Weak.mk (by simp (disch:=omega) only [hUs,go_sem,seval])⟩
      ·have hig:i=g.length:=Za
       subst hig;refine Zo (Weak.fz (o:=4) (by rfl)) ?_;refine Zo (Weak.fz (o:=5) (by rfl)) ?_;refine Zh [] _ _ _ _ ?_;simp (disch:=omega) only [Zs,Zk,ZL,ZC,eq_self,go_sem,seval];refine Bi [3] [1,2] [2] 4 mixed Zg Zg Zg Zg Zb (Zd ?_);refine ⟨fun q hq p' hp=> ?_,?_⟩
       ·simp only [Z3,Wv,WT] at hq;rcases hq with rfl | rfl
        ·obtain rfl:7=p':=VR hp;exact VN (by decide)
        ·obtain rfl:114=p':=VR hp;exact VN (by decide)
       ·refine Nc 3 _ _ Zg (by refine Zd ?_;exact ⟨rfl,rfl⟩) ?_;refine ⟨fun k hk=>by simp at hk;subst hk;rfl,Lk ?_⟩;refine Zd ?_;exact ⟨.tup [.p (JL ⟨false,R.map (·.route),false,U⟩),.p (.int .i64 c),.p (.int .i64 0)],[],Weak.mk (by simp (disch:=omega) only [List.map_map,Function.comp_def,go_sem,seval]),_,_,_,⟨_,hcv,fun h=>absurd rfl h,fun _=>⟨rfl,by rw [hR,hU]⟩⟩,rfl,rfl⟩
theorem FB {α:Type} {p q:α->Bool} : ∀ {l:List α},(∀a∈l,p a=q a)->l.find? p=l.find? q
 | [],_=>rfl
 | a::l,h=>by
  rw [List.find?_cons,List.find?_cons,h a Zb,FB fun a ha=>h a (Ye _ ha)]
def RA (l:List Col) (g:List Int):Nat->Nat->List Col
 | 0,_=> []
 | d+1,k=>(if 0<=nth g k/\AU (nth l (nth g k).toNat).set.toNat=(k:Int) then [nth l (nth g k).toNat] else [])++RA l g d (k+1)
def UA (x:Inst) (g:List Int):Nat->Nat->List Int
 | 0,_=> []
 | d+1,k=>(if nth g k<0/\(nth x.orders k).off=false then [(k:Int)] else [])++UA x g d (k+1)
theorem sW {x:Inst} {l ys:List Col} (hc:Ctx x l ys) {D:Nat} (hD:D=20) {s:St} {k:Nat} (hv:StV x.orders.length s) (hk:s.ix=k) (hkn:k<x.orders.length) (ho:(nth x.orders k).off=false) (hcv:s.cov.toNat.testBit k=false) {c:Col} (hm:c∈Yh ys k) :
  LQ x.orders.length (mI x) x (fstF x.orders.length ys) (skF x x.orders.length) s c=K0 x ys D s c:=by
 have hn:=hc.n4;have e1:=DL (n:=x.orders.length) hk (m:=mI x) (by grind [FO]) (by grind [BY]);have e2:=GH (m:=mI x) hk hkn hn (KX hc hkn hm).2.2.2
 grind [LQ,K0,Lx]
theorem ET {x:Inst} {l ys:List Col} (hc:Ctx x l ys) {D:Nat} (hD:D=20): ∀(d k:Nat) (s:St) (a:List Int) (f:Nat),k+d=x.orders.length->d<f->Nd x l a s k ->
  Yr x.orders.length (mI x) x (fstF x.orders.length ys) (skF x x.orders.length) f (Vg x.orders.length (mI x) s)=(RA l (gr x l ys D d k s a) d k,UA x (gr x l ys D d k s a) d k)
 | 0,k,s,a,0,_,hf,_=>Za
 | 0,k,s,a,f+1,hd,_,h=>by
  rw [Yr,if_pos,RA,UA];simp only [Vg];have:=C1 (n:=x.orders.length) (m:=mI x) (cov:=s.cov) (x.orders.length-s.ix.toNat) s.ix.toNat;have:=h.ix;omega
 | d+1,k,s,a,0,_,hf,_=>Za
 | d+1,k,s,a,f+1,hd,hf,h=>by
  have hk:k<x.orders.length:=Za
  have hn:=hc.n4;rw [gr]
  split
  ·rename_i ho;have hsk:=ho.imp (fun e=>show sHas (mI x) k=false by grind [FO]) (fun e=>show sHas s.cov k=true by rw [BY h.v Za,h.cov k hk];grind);rw [DK h.ix hk hsk,ET hc hD d (k+1) (GM s) a (f+1) Za Za (h.skip' hk)];have hg:=(Do hc (D:=D) d (k+1) (GM s) a Za (h.skip' hk)).2 k hk (.inl Za);rw [RA,UA,hg,if_neg,if_neg,ZE,ZE]
   ·grind
   ·rintro ⟨g1,g2⟩;obtain ⟨t,t1,t2⟩:=h.old k hk (ZF _) g1;have hr:=h.rng k hk;obtain ⟨_,s0,s1,_⟩:=hc.set (ZZ (l:=l) (i:=(nth a k).toNat) Za);have:=((Rf s0 s1 hn hk).1 g2).2 t Za t2;omega
  ·rename_i ho
   have hoff:(nth x.orders k).off=false:=by
    grind
   have hak:nth a k<0:=Int.not_le.1 fun g=>ho (.inr g)
   have hcv:s.cov.toNat.testBit k=false:=by rw [h.cov k hk];grind
   rw [DL h.ix (by grind [FO]) (by rw [BY h.v Za,hcv]),Yr,if_neg (by rw [h.ix];omega)]
   have e2:nth (fstF x.orders.length ys) s.ix.toNat=Yh ys k:=by rw [h.ix,XS,Nr,if_pos hk]
   rw [e2,FB (q:=K0 x ys D s) fun c hm=>sW hc hD h.v h.ix hk hoff hcv hm]
   cases hfd:(Yh ys k).find? (K0 x ys D s) with
   | some c =>
    have hsel:=JY hfd;have hm:=QY hfd;simp only [K0,Zv] at hsel;obtain ⟨p1,p2,p3⟩:=J9 hc h hk hm hsel.1;have hch:=h.child hc hk p1 p3;obtain ⟨c1,c2⟩:=BV h.len p3;rw [p2] at hch c1 c2;have hg:=(Do hc (D:=D) d (k+1) (AE s c) _ Za hch).2 k hk (.inl Za);rw [Xt (by rw [h.len];exact hk),if_pos c1] at hg;simp only;rw [GH h.ix hk hn (KX hc hk hm).2.2.2,ET hc hD d (k+1) (AE s c) _ f Za Za hch,RA,UA,hg,if_pos ⟨Za,by rw [XS,p2];exact (KX hc hk hm).2.2.1⟩,if_neg Za,XS,p2]
    rfl
   | none =>
    have hg:=(Do hc (D:=D) d (k+1) (GM s) a Za (h.skip' hk)).2 k hk (.inl Za);simp only;have e3:Dz x.orders.length (mI x) s=Vg x.orders.length (mI x) (GM s):=rfl;rw [e3,ET hc hD d (k+1) (GM s) a f Za Za (h.skip' hk),RA,UA,hg,if_neg Za,if_pos ⟨hak,hoff⟩,h.ix]
    rfl
theorem Iu {l:List Col} {g:List Int} {c:Col} : ∀(d k:Nat),c∈RA l g d k↔ ∃i,k<=i/\i<k+d/\0<=nth g i/\AU (nth l (nth g i).toNat).set.toNat=(i:Int)/\c=nth l (nth g i).toNat
 | 0,k=>by simp [RA];omega
 | d+1,k=>by
  rw [RA,Xe,Iu d (k+1)]
  constructor
  ·rintro (h | ⟨i,h1,h2,h3⟩)
   ·split at h
    ·grind
    ·simp at h
   grind
  grind
theorem dF {l:List Col} {g:List Int} : ∀(d k:Nat),(RA l g d k).Pairwise fun a b=>AU a.set.toNat<AU b.set.toNat
 | 0,k=> .nil
 | d+1,k=>by
  rw [RA,EI];refine ⟨?_,dF d (k+1),fun a ha b hb=> ?_⟩
  ·split<;>simp
  ·split at ha
   ·rename_i hh;obtain ⟨i,h1,h2,h3,h4,rfl⟩:=(Iu _ _).1 hb
    grind
   ·simp at ha
theorem Rn {x:Inst} {g:List Int} : ∀(d k:Nat),UA x g (d+1) k=UA x g d k++(if nth g (k+d)<0/\(nth x.orders (k+d)).off=false then [((k+d:Nat):Int)] else [])
 | 0,k=>by simp [UA]
 | d+1,k=>by
  rw [UA,Rn d (k+1),UA,Vr,show k+1+d=k+(d+1) by omega]
theorem dH {x:Inst} {g:List Int} : ∀n,UA x g n 0=dB x g n
 | 0=>rfl
 | n+1=>by rw [Rn,dH n,dB,Xi]
theorem ZcT : ∀S:Fin 16,0<S.val-> ∀i:Fin 4,S.val.testBit i.val=true->((S.val:Int)%(pw i.val:Nat)=0↔AU S.val=(i.val:Int)):=by decide+kernel
theorem AN {l:List Col} {g:List Int} {T:Nat} {c:Col} : ∀k,c∈SH l g T k↔ ∃i,i<k/\0<=nth g i/\(nth l (nth g i).toNat).typ=T/\(nth l (nth g i).toNat).set%(pw i:Nat)=0/\c=nth l (nth g i).toNat
 | 0=>by simp [SH]
 | k+1=>by
  rw [SH,Xe,AN k]
  constructor
  ·grind
  grind
theorem LL {l:List Col} {g:List Int} {n:Nat} {c:Col} : ∀T,c∈L9 l g n T↔ ∃t,t<T/\c∈SH l g t n
 | 0=>by simp [L9]
 | T+1=>by
  rw [L9,Xe,LL T]
  grind
theorem wB {x:Inst} (hx:InstOk x) {k:Nat} (hk:k<x.orders.length) (ho:(nth x.orders k).off=false):(0<=(nth x.orders k).penalty↔0<=skpF x k)/\(0<=skpF x k->skpF x k=skR x k):=by
 have ha:=(hx.orders.2 k hk).arg;simp only [argOk,rng,Zv,Zr] at ha
 have e:unsF x k=if (nth x.orders k).penalty= -1 then (zSco,23) else (⟨(nth x.orders k).penalty,if (nth x.orders k).now= -1 then 0 else 1,0,0⟩,0):=by
  simp_all [unsF,if_neg]
 by_cases hp:(nth x.orders k).penalty= -1
 ·simp_all [skpF]
 ·have hm:(if (nth x.orders k).now= -1 then (0:Int) else 1)=0\/(if (nth x.orders k).now= -1 then (0:Int) else 1)=1:=Za
  have e2:skpF x k=skR x k/\0<=skR x k:=by
   rw [skpF,skR,e,if_neg hp];generalize (if (nth x.orders k).now= -1 then (0:Int) else 1)=m at hm
   have:Y1 ⟨(nth x.orders k).penalty,m,0,0⟩=((((nth x.orders k).penalty*16+m)*16+0)*65536+0,0):=by
    rw [Y1,if_neg (by grind),if_neg (by grind)]
   grind
  omega
theorem fZ {x:Inst} {l ys:List Col} (hx:InstOk x) (hn:x.orders.length<=4) (hC:Cheap l ys) (hr: ∀c∈l,rightB x c=true) (hs: ∀c∈l,c.set<9223372036854775808):Ctx x l ys :=
 have hok:=RG hx hn hC hr hs
 ⟨hn,hok.typ.1,hC,hr,hs,hok,fun _ hk ho=>wB hx hk ho⟩
theorem S0 {l:List Col} {n:Nat} {T:Int} : ∀m,m<=n->usdI l (List.replicate n (-1)) T m=0
 | 0,_=>rfl
 | m+1,h=>by
  rw [usdI,S0 m Za,K9,EO Za,Qd Za];rfl
theorem Sv (x:Inst) (l:List Col):Nd x l (List.replicate x.orders.length (-1)) zSt 0:=by
 have hz: ∀i,i<x.orders.length->nth (List.replicate x.orders.length (-1:Int)) i= -1:=fun i hi=>EO hi;refine ⟨Zb,rfl,wF _,fun i hi=> ?_,fun i hi=>by grind,fun T hT=> ?_,fun i hi h=>by grind,fun i hi _ h=>by grind,fun i hi h=>by grind⟩
 ·simp_all [zSt]
 ·rw [S0 _ (ZF _)]
  have:T=0\/T=1\/T=2\/T=3\/T=4\/T=5:=Za
  rcases this with rfl | rfl | rfl | rfl | rfl | rfl<;>rfl
theorem Nd.RngA {x:Inst} {l:List Col} {a:List Int} {s:St} {k:Nat} (h:Nd x l a s k):RngA x l a:=⟨h.len,h.rng⟩
theorem MY {x:Inst} {l ys:List Col} (hc:Ctx x l ys) {D:Nat} : ∀(d k:Nat) (s:St) (a:List Int),k+d=x.orders.length->Nd x l a s k-> ∃s',Nd x l (gr x l ys D d k s a) s' x.orders.length
 | 0,k,s,a,hd,h=>⟨s,by grind [gr]⟩
 | d+1,k,s,a,hd,h=>by
  have hk:k<x.orders.length:=Za
  rw [gr]
  split
  ·exact MY hc d (k+1) _ _ Za (h.skip' hk)
  ·split
   ·rename_i c hf;have hsel:=JY hf;simp only [K0,Zv] at hsel;obtain ⟨p1,p2,p3⟩:=J9 hc h hk (QY hf) hsel.1;have hch:=h.child hc hk p1 p3;rw [p2] at hch;exact MY hc d (k+1) _ _ Za hch
   ·exact MY hc d (k+1) _ _ Za (h.skip' hk)
theorem Rs {x:Inst} {l ys:List Col} (hc:Ctx x l ys) {D:Nat} (hD:10<D) :
  (Lx x ys D zSt<0->(D9 x l).found=false)/\(0<=Lx x ys D zSt->D9 x l=⟨true,gr x l ys D x.orders.length 0 zSt (List.replicate x.orders.length (-1)),Lx x ys D zSt⟩):=by
 have hz:=Sv x l;have hb:=B9 hc hD x.orders.length 0 zSt _ _ 0 Za hz hz KE.refl;obtain ⟨s',hg⟩:=MY hc (D:=D) x.orders.length 0 zSt _ Za hz
 constructor
 ·intro h
  have:Jo x l x.orders.length (List.replicate x.orders.length (-1)) 0= []:=by
   cases e:Jo x l x.orders.length (List.replicate x.orders.length (-1)) 0 with
   | nil=>rfl
   | cons q L=>grind
  rw [D9,this];rfl
 ·intro h;have hin:=R2 hc hD x.orders.length 0 zSt _ 0 Za hz h;rw [Int.zero_add] at hin;refine Ip (.inl rfl) (fun q hq=> ?_) hin;obtain ⟨_,h2,h3⟩:=hb q hq;rw [Int.zero_add] at h2 h3;exact ⟨h2,fun e=>wG hg.RngA (AC _ hz.RngA q hq) (h3 e)⟩
theorem SI {l:List Col} {g:List Int} {T n:Nat} (hdv: ∀i,i<n->0<=nth g i->((nth l (nth g i).toNat).set%(pw i:Nat)=0↔AU (nth l (nth g i).toNat).set.toNat=(i:Int))): ∀k,k<=n->(SH l g T k).Pairwise fun a b=>pL a b<0
 | 0,_=> .nil
 | k+1,hk=>by
  rw [SH,EI];refine ⟨SI hdv k Za,by split<;>simp,fun a ha b hb=> ?_⟩
  split at hb
  ·rename_i hh
   obtain rfl:b=nth l (nth g k).toNat:=by grind
   obtain ⟨i,h1,h2,h3,h4,rfl⟩:=(AN _).1 ha;rw [JI,h3,hh.2.1]
   right
   refine ⟨rfl,?_⟩
   show AU _<AU _
   grind
  ·simp at hb
theorem SJ {l:List Col} {g:List Int} {n:Nat} (hdv: ∀i,i<n->0<=nth g i->((nth l (nth g i).toNat).set%(pw i:Nat)=0↔AU (nth l (nth g i).toNat).set.toNat=(i:Int))): ∀T,(L9 l g n T).Pairwise fun a b=>pL a b<0
 | 0=> .nil
 | T+1=>by
  rw [L9,EI];refine ⟨SJ hdv T,SI hdv n (ZF _),fun a ha b hb=> ?_⟩;obtain ⟨t,h1,h2⟩:=(LL _).1 ha;obtain ⟨i,_,_,h3,_,rfl⟩:=(AN _).1 h2;obtain ⟨j,_,_,h5,_,rfl⟩:=(AN _).1 hb
  simp_all [JI]
theorem bO {x:Inst} {l ys:List Col} (hc:Ctx x l ys) {g:List Int} {s:St} (hg:Nd x l g s x.orders.length) {zs:List Col} (hp:zs.Perm (RA l g x.orders.length 0)) (ha:zs.Pairwise fun a b=> ¬pL b a<0):zs=L9 l g x.orders.length x.types.length:=by
 have hn:=hc.n4;have hin: ∀i,i<x.orders.length->0<=nth g i->nth l (nth g i).toNat∈l:=fun i hi h0=>ZZ (by have:=hg.rng i hi;omega)
 have hdv: ∀i,i<x.orders.length->0<=nth g i->((nth l (nth g i).toNat).set%(pw i:Nat)=0↔AU (nth l (nth g i).toNat).set.toNat=(i:Int)):=fun i hi h0=>by
  obtain ⟨e,s0,s1,_⟩:=hc.set (hin i hi h0);have h16:(nth l (nth g i).toNat).set.toNat<16:=Uu s1 (Ym (n:=2) Za hn);have:=ZcT ⟨_,h16⟩ s0 ⟨i,Za⟩ (hg.own i hi h0)
  grind
 have hne:zs.Pairwise fun a b=>lo a≠lo b:=by
  have h1:(RA l g x.orders.length 0).Pairwise fun a b=>lo a≠lo b:=(dF _ _).imp fun {a b} h e=>by
   have e':AU a.set.toNat=AU b.set.toNat:=e;omega
  exact (hp.pairwise_iff fun h e=>h e.symm).2 h1
 have hz:zs.Pairwise fun a b=>pL a b<0:=(hne.and ha).imp fun {a b} h=>by
  have h1:=h.1;have h2:=h.2;rw [JI] at h2 ⊢;omega
 refine Gx (r:=fun a b=>pL a b<0) (fun a=>by rw [JI];omega) (fun a b=>by rw [JI,JI];omega) hz (SJ hdv _) fun c=> ?_;rw [hp.mem_iff,Iu,LL]
 constructor
 ·rintro ⟨i,_,h1,h2,h3,rfl⟩;have ht:=(hc.typ (hin i Za h2)).1;exact ⟨(nth l (nth g i).toNat).typ.toNat,Za,(AN _).2 ⟨i,Za,h2,Za,(hdv i Za h2).2 h3,rfl⟩⟩
 ·rintro ⟨t,_,h⟩;obtain ⟨i,h1,h2,h3,h4,rfl⟩:=(AN _).1 h
  grind
theorem Mr {x:Inst} {ys:List Col} {D:Nat} (hD:D=20):Lm x ys=Lx x ys D zSt:=by subst hD;rfl
theorem Zjf {x:Inst} {l:List Col} {a e e':Int} {b:Chc} (hx:InstOk x) (hn:x.orders.length<=4) (hs: ∀c∈l,c.set<9223372036854775808) (h:ZmT x l a e) (h':dC x l b e'):a=b.price/\e=e':=by
 rcases h with ⟨g1,rfl,rfl⟩ | ⟨g1,⟨c,gc,g2⟩,rfl,rfl⟩ | ⟨g1,g2,ys,g3,rfl,rfl⟩<;>rcases h' with ⟨k1,rfl,rfl⟩ | ⟨k1,⟨c',kc,k2⟩,rfl,rfl⟩ | ⟨k1,k2,k3⟩
 ·exact ⟨rfl,rfl⟩
 ·omega
 ·omega
 ·omega
 ·exact ⟨rfl,rfl⟩
 ·grind
 ·omega
 ·grind
 ·obtain ⟨D,hD⟩: ∃D:Nat,D=20:=⟨20,rfl⟩;rw [Mr hD];obtain ⟨q1,q2⟩:=Rs (fZ hx hn g3 g2 hs) (D:=D) Za;rcases k3 with ⟨f,rfl,rfl⟩ | ⟨f,rfl,rfl⟩
  ·have:Lx x ys D zSt<0:=Int.not_le.1 fun h0=>by grind
   rw [if_pos this,if_pos this];exact ⟨rfl,rfl⟩
  grind
theorem fM {x:Inst} {l:List Col} {p q:Pln} {c e c' e':Int} (hx:InstOk x) (hn:x.orders.length<=4) (hs: ∀c∈l,c.set<9223372036854775808) (h:nQ x l p c e) (h':Ma x l q c' e'):c=c'/\e=e'/\p.routes=q.routes/\p.unserved=q.unserved/\p.routes.length<=24/\p.unserved.length<=24/\ ∀r∈p.routes,∃c∈l,r=c.route:=by
 obtain ⟨b,hb,h1,h2⟩:=h';have z:zPlC.routes.length<=24/\zPlC.unserved.length<=24/\ ∀r∈zPlC.routes,∃c∈l,r=c.route:=⟨by simp [zPlC],by simp [zPlC],fun r hr=>by simp [zPlC] at hr⟩;rcases h with ⟨g1,rfl,rfl,rfl⟩ | ⟨g1,⟨c,gc,g2⟩,rfl,rfl,rfl⟩ | ⟨g1,g2,ys,g3,g4,g5⟩<;>rcases hb with ⟨k1,rfl,rfl⟩ | ⟨k1,⟨c',kc,k2⟩,rfl,rfl⟩ | ⟨k1,k2,k3⟩
 ·grind
 ·omega
 ·omega
 ·omega
 ·grind
 ·grind
 ·omega
 ·grind
 ·obtain ⟨D,hD⟩: ∃D:Nat,D=20:=⟨20,rfl⟩;have hc:=fZ hx hn g3 g2 hs;obtain ⟨q1,q2⟩:=Rs hc (D:=D) Za;rw [Mr hD] at g5;rcases g5 with ⟨g6,rfl,rfl,rfl⟩ | ⟨g6,rfl,rfl,zs,hp,ha,rfl⟩
  ·grind
  ·rcases k3 with ⟨f,rfl,rfl⟩ | ⟨f,rfl,rfl⟩
   ·grind
   ·obtain ⟨rfl,rfl⟩:=h2 rfl;have hz:=Sv x l;have hpk:=ET hc hD x.orders.length 0 zSt _ 20 Za Za hz;obtain ⟨s',hg⟩:=MY hc (D:=D) x.orders.length 0 zSt _ Za hz;rw [q2 g6];simp only [mI] at hpk;rw [hpk] at hp ⊢;simp only at hp ⊢;have hzs:=bO hc hg hp ha;rw [hg.len,dH,hzs];have l1:=LK (l:=l) (g:=gr x l ys D x.orders.length 0 zSt (List.replicate x.orders.length (-1))) (n:=x.orders.length) x.types.length;have l2:=LZ (x:=x) (g:=gr x l ys D x.orders.length 0 zSt (List.replicate x.orders.length (-1))) x.orders.length
    have l3:x.types.length*x.orders.length<=6*4:=Av hc.t6 hn;refine ⟨trivial,trivial,rfl,rfl,by grind,Za,fun r hr=> ?_⟩;obtain ⟨c,hcm,rfl⟩:=XT.1 hr;rw [<- hzs,hp.mem_iff,Iu] at hcm;obtain ⟨i,_,i1,i2,_,rfl⟩:=hcm;exact ⟨_,ZZ (by have:=hg.rng i Za;omega),rfl⟩
theorem FA {α:Type} [DecidableEq α] {p q:α->Bool} {a:α} : ∀ {l:List α},l.Nodup->a∈l->p a=false->q a=true->(∀b∈l,b≠a->p b=q b)->(l.filter q).length=(l.filter p).length+1
 | [],_,h,_,_,_=>by simp at h
 | b::l,hn,h,hp,hq,he=>by
  rw [List.nodup_cons] at hn
  by_cases e:b=a
  ·grind [Ar]
  ·have ih:=FA hn.2 (by
    grind) hp hq fun c hc=>he c (Ye _ hc)
   grind
theorem GD {ok:List Vis->Bool} {col:List Vis->Col} {better:Col->Col->Bool} (hb: ∀a b,(better a b=true->a.price<=b.price)/\(better a b=false->b.price<=a.price)): ∀(L:List (List Vis)) (b:Col×Bool),(b.2=true->(L.foldl (Xy ok col better) b).2=true/\(L.foldl (Xy ok col better) b).1.price<=b.1.price) /\
  ∀m∈L,ok m=true->(L.foldl (Xy ok col better) b).2=true/\(L.foldl (Xy ok col better) b).1.price<=(col m).price
 | [],b=>⟨fun h=>⟨h,Vq _⟩,fun m hm=>by simp at hm⟩
 | l::L,b=>by
  rw [XG];obtain ⟨g1,g2⟩:=GD hb L (Xy ok col better b l)
  have hu:(b.2=true->(Xy ok col better b l).2=true/\(Xy ok col better b l).1.price<=b.1.price)/\(ok l=true->(Xy ok col better b l).2=true/\(Xy ok col better b l).1.price<=(col l).price):=by
   unfold Xy
   split
   ·rename_i hc;refine ⟨fun h=>⟨rfl,?_⟩,fun _=>⟨rfl,Vq _⟩⟩;rcases hc.2 with h2 | h2
    ·rw [h2] at h;cases h
    ·exact (hb _ _).1 h2
   ·rename_i hc;refine ⟨fun h=>⟨h,Vq _⟩,fun h=> ?_⟩
    have h2:b.2=true:=by
     cases h3:b.2 with
     | true=>rfl
     | false=>exact absurd ⟨h,.inl h3⟩ hc
    have h4:better (col l) b.1=false:=by
     cases h3:better (col l) b.1 with
     | false=>rfl
     | true=>exact absurd ⟨h,.inr h3⟩ hc
    exact ⟨h2,(hb _ _).2 h4⟩
  refine ⟨fun h=> ?_,fun m hm hk=> ?_⟩
  ·obtain ⟨h1,h2⟩:=hu.1 h;obtain ⟨h3,h4⟩:=g1 h1;exact ⟨h3,Az h4 h2⟩
  grind
theorem iK {x:Inst} {S:Nat} {m:List Vis} (h:Gr x S m): ∀(f k:Nat),m.length=k+f->m∈A7 (fun l=>nextU x S l x.orders.length) f (m.take k)
 | 0,k,hl=>by
  grind [A7]
 | f+1,k,hl=>by
  have hk:k<m.length:=Za
  have ha:=h.at k hk;rw [A7,if_neg (fun e=>by grind),XK];refine ⟨nth m k,ha,?_⟩
  have e:m.take k++ [nth m k]=m.take (k+1):=by rw [XZ hk,Zj hk]
  rw [e];exact iK h f (k+1) Za
theorem NA {x:Inst} {l:List Vis} (h:RightV x l):Xo l≠0:=fun e=>by
 obtain ⟨v,hv⟩: ∃v,v∈l:=by
  cases l with
  | nil=>exact absurd rfl h.ne
  | cons v l=>simp
 have hi:=h.inr v hv;have hb:=(h.bit v.order.toNat).2 ⟨v,hv,Za⟩
 grind
theorem pG (a b:Col):(Y9 a b=true->a.price<=b.price)/\(Y9 a b=false->b.price<=a.price):=by
 unfold Y9
 grind
theorem TB {x:Inst} (hx:InstOk x) {k:Int} {m:List Vis} (ht:0<=(nth x.types k.toNat).opn) (hok:F0 x k m=true) (z:Col×Bool) :
  Wd x.orders x.apart x.before ((Xo m:Nat):Int)=0/\(Eb x k (Xo m) z).2=true/\(Eb x k (Xo m) z).1.price<=(WI x (JB k m)).1:=by
 have hf:=XC hx
 have hn:x.orders.length<=60:=by have:=hf.len;omega
 have hr:RightV x m:=V7 (Jr hok);have ha:=hr.alw hf;have hS:=(hr.lt hf).2;refine ⟨(Qw hn hS hf.val).2 ha,?_⟩;rw [O0 hx (NA hr) hS ha ht z,BT];have hg:=hr.gr hf m.length (ZF _);rw [XX] at hg;have hin:m∈A7 (CG x (Xo m)) (WK x (Xo m)) []:=iK hg (WK x (Xo m)) 0 (by rw [hr.len hf,WK];omega)
 have hR:Dd x k (Xo m) m=true:=by
  unfold Dd;rw [hok,Jr hok,hr.ord hf];simp
 exact (GD pG _ z).2 m hin hR
theorem Km {g:FuncId} {args:List V} {R:Pln->Int->Int->Prop} {H:List AM.Obj} {K:V->List AM.Obj->Prop} (h:ACalls Tryz.prog g args [] fun y H'=> ∃p c e,R p c e/\y= .tup [.p (JL p),.p (.int .i64 c),.p (.int .i64 e)]/\H'= []) (k: ∀p c e,R p c e->K (.tup [.p (JL p),.p (.int .i64 c),.p (.int .i64 e)]) H) (ha:Xj 0 args=true:=by rfl):ACalls Tryz.prog g args H K :=
 (h.behind ha H).mono fun x H' hq=>by
  obtain ⟨y,H1,⟨p,c,e,hr,rfl,rfl⟩,rfl,rfl⟩:=hq
  grind [shV,shVs]
theorem DR {ok:List Vis->Bool} {col:List Vis->Col} {better:Col->Col->Bool} : ∀(L:List (List Vis)) (b:Col×Bool),(L.foldl (Xy ok col better) b).2=true->(b.2=true/\(L.foldl (Xy ok col better) b).1=b.1)\/ ∃m∈L,ok m=true/\(L.foldl (Xy ok col better) b).1=col m
 | [],b,h=> .inl ⟨h,rfl⟩
 | l::L,b,h=>by
  rw [XG] at h ⊢;rcases DR L _ h with ⟨h1,h2⟩ | ⟨m,h1,h2,h3⟩
  ·rw [h2];unfold Xy at h1 ⊢
   grind
  grind
theorem Dj {x:Inst} {k:Int} {S:Nat} (h:(VC x k S).2=0): ∃m,m∈Sj x k S (WK x S) [] (st0 (nth x.types k.toNat))/\F0 x k m=true/\(VC x k S).1=YM x k S m:=by
 unfold VC at h ⊢
 split at h
 ·rename_i hc;rw [if_pos hc];rcases DR _ _ hc.2 with ⟨h1,_⟩ | ⟨m,h1,h2,h3⟩
  ·cases h1
  ·exact ⟨m,h1,h2,h3⟩
 ·cases h
theorem NN {one:Nat->List Col} {c:Col} : ∀q,c∈By one q↔ ∃S,1<=S/\S<=q/\c∈one S
 | 0=>by simp [By];omega
 | q+1=>by
  rw [By,Xe,NN q]
  grind
theorem Mh {one:Nat->Nat->List Col} {N:Nat} {c:Col} : ∀K,c∈V3 one N K↔ ∃k S,k<K/\1<=S/\S<=N/\c∈one k S
 | 0=>by simp [V3]
 | K+1=>by
  rw [V3,Xe,Mh K,NN]
  grind
noncomputable def X2 (x:Inst):List Col:=V3 (Vv x) (2^x.orders.length-1) x.types.length
theorem BN {x:Inst} {c:Col} :c∈X2 x↔ ∃k S,k<x.types.length/\0<S/\S<2^x.orders.length/\(VC x (k:Int) S).2=0/\c=(VC x (k:Int) S).1:=by
 have hp1:1<=2^x.orders.length:=Nat.one_le_two_pow;rw [X2,Mh]
 constructor
 ·grind [Vv]
 ·rintro ⟨k,S,h1,h2,h3,h4,h5⟩;exact ⟨k,S,h1,Za,Za,by simp_all [Vv]⟩
theorem dX {x:Inst} {c:Col} (h:c∈X2 x): ∃(k S:Nat) (m:List Vis),k<x.types.length/\0<S/\S<2^x.orders.length/\m.length=WK x S/\F0 x k m=true/\c=YM x k S m:=by
 obtain ⟨k,S,h1,h2,h3,h4,rfl⟩:=BN.1 h;obtain ⟨m,m1,m2,m3⟩:=Dj h4;exact ⟨k,S,m,h1,h2,h3,by have:=Ln _ _ _ m m1;grind,m2,m3⟩
theorem Ep {x:Inst} (hn:x.orders.length<=4) (h6:x.types.length<=6):(X2 x).length<=96/\ ∀c∈X2 x,c.set<9223372036854775808/\ZcZ c.route:=by
 have hp2:2^x.orders.length<=2^4:=Ym Za hn;refine ⟨?_,fun c hc=> ?_⟩
 ·have h1:=BM (N:=2^x.orders.length-1) (KU (x:=x)) x.types.length;have h2:x.types.length*(2^x.orders.length-1)<=6*16:=Av Za Za;unfold X2;omega
 ·obtain ⟨k,S,m,_,_,h3,h4,_,rfl⟩:=dX hc;have:=C7 x S x.orders.length;unfold WK at h4;exact ⟨by grind [YM],by grind [YM,JB],by simp [YM,JB]⟩
theorem tE (x:Inst) (hx:InstOk x) (hn:x.orders.length<=4) (h6:x.types.length<=6) (hbl:x.before.length<=1048576) (hal:x.apart.length<=1048576) :
  ACalls Tryz.prog 43 [.p (Zq x)] [] fun y H'=> ∃p c e,nQ x (X2 x) p c e/\y= .tup [.p (JL p),.p (.int .i64 c),.p (.int .i64 e)]/\H'= []:=by
 obtain ⟨hl,hc⟩:=Ep hn h6;have ca:=NF x hx hn h6 hbl hal;have cc:=aX x (X2 x) false hx hn Za (fun c h=>(hc c h).1) Za;rw [show V3 (Vv x) (2^x.orders.length-1) x.types.length=X2 x from rfl] at ca;generalize X2 x=L at ca cc ⊢;refine Ze [] Tryz.func43 rfl Zin ?_;simp (disch:=omega) only [Tryz.f43,go_sem,seval];refine YJ ca (Zd ?_);refine Km cc fun p c e hR=>Zd ?_;exact ⟨.tup [.p (JL p),.p (.int .i64 c),.p (.int .i64 e)],[],wk,p,c,e,hR,rfl,rfl⟩
theorem bY (x:Inst) (hx:InstOk x) (hn:x.orders.length<=4) (h6:x.types.length<=6) (hbl:x.before.length<=1048576)
  (hsk: ∀k,k<x.orders.length->(nth x.orders k).off=false->0<=(nth x.orders k).penalty->0<=skR x k/\skR x k<=18014398509481984) (hus: ∀i,scoR 1152921504606846976 (unsF x i).1) :
  ACalls Tryz.prog 24 [.p (Zq x)] [] fun y H'=> ∃p c e,Ma x (X2 x) p c e/\y= .tup [.p (JL p),.p (.int .i64 c),.p (.int .i64 e)]/\H'= []:=by
 obtain ⟨hl,hc⟩:=Ep hn h6;have ca:=nW x hx hn h6 hbl;have cc:=MA x (X2 x) false hn h6 Za (fun c h=>(hc c h).1) hsk hus;rw [show V3 (Vv x) (2^x.orders.length-1) x.types.length=X2 x from rfl] at ca;generalize X2 x=L at ca cc ⊢;refine Ze [] Tryz.func24 rfl Zh8 ?_;simp (disch:=omega) only [Tryz.f24,go_sem,seval];refine YJ ca (Zd ?_);refine Km cc fun p c e hR=>Zd ?_;exact ⟨.tup [.p (JL p),.p (.int .i64 c),.p (.int .i64 e)],[],wk,p,c,e,hR,rfl,rfl⟩
end Go.Proofs.YtjkkdmeebhjaiaaGreatDoor.K
