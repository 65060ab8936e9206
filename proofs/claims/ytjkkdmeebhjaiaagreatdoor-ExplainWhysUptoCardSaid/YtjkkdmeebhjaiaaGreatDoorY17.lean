/- Declarations that the closing texts need, part 17: joined by tools/slim.py. -/
import Derived.Test.YtjkkdmeebhjaiaaGreatDoorY16
import Derived.Shelf.SlSortCmp.NoneTotal
set_option linter.unusedVariables false
set_option linter.unusedSimpArgs false
namespace Go.AM
open Go.RowKit Go.Shelf Go.Lib Go.Sort Go.Proofs
theorem gA {W w':World} {H':List AM.Obj} {ι':List (Option Nat)} (g:Good AF [] [] W H' ι' w'): ∃q os',w'=grow (W.drewN q) os':=by
 refine ⟨w'.drawn-W.drawn,w'.heap.extract W.heap.size w'.heap.size,?_⟩
 have h1:w'.heap=W.heap++w'.heap.extract W.heap.size w'.heap.size:=by
  apply Array.ext_getElem?;intro i
  by_cases hi:i<W.heap.size
  ·rw [C8 hi];exact g.keep i hi Zb
  ·rw [Array.getElem?_append_right Za];have:=g.size;rw [Array.getElem?_extract]
   split
   ·congr 1;omega
   ·rw [Array.getElem?_eq_none Za]
 have h2:W.drawn<=w'.drawn:=g.tape.2.resolve_right fun h=>h;have h3:=g.tape.1;have h4:=g.os;have h5:=g.output
 cases w'
 simp only [grow,World.drewN] at *
 congr 1
 omega
def Pn (c:Array Value) (k i:Nat):List Value:=(List.range k).map fun j=>c.getD (i*k+j) undef
theorem FL (c k i):(Pn c k i).length=k:=by simp [Pn]
theorem Cv {c k i j} (h:j<k):(Pn c k i)[j]! =c.getD (i*k+j) undef:=by
 rw [List.getElem!_eq_getElem?_getD,Pn,Xf,List.getElem?_range h];rfl
theorem ACalls.sortFunc {P : Program} {ρ : Ren} (L : SlLaysF0.n6 P ρ) (hg : Zi P (ρ.f 6)) (k : Nat) (aE : ∀ w, (isAgg (ρ.t 24)).run P w = .ok true w) (zE : ∀ w, (Go.sizeOf (ρ.t 24)).run P w = .ok k w)
    {β : Type} [Inhabited β] (f : β -> PV) (hf : ∀ x, ∃ cs, f x = .agg cs /\ cs.length = k /\ cs.all (·.one) = true) (cf : β -> β -> Int) (hO : SWO (ltOf cf)) (g : FuncId)
    (hcmp : ∀ x y, ACalls P g [.p (f x), .p (f y)] [] fun r H' => r = .p (.int .i64 (cf x y)) /\ H' = []) (xs : List β) (hlen : xs.length < 4611686018427387904) {H : List AM.Obj} {o : Nat} (hHo : H[o]? = some (.elems k (xs.map f))) :
    ACalls P (ρ.f 6) [.sl o 0 xs.length xs.length, .fn (.func g) [] []] H fun y H' => y = .tup [] /\ ∃ ys : List β, ys.Perm xs /\ ys.Pairwise (fun a b => ¬ cf b a < 0) /\ H' = H.set o (.elems k (ys.map f)) := by
  refine ⟨hg, fun F ι w vs hr hv => ?_⟩;obtain ⟨hv1, hv2⟩ := hv;have h0 := hv2 0 _ rfl;have h1 := hv2 1 _ rfl
  have hvs : vs = #[vs.getD 0 undef, vs.getD 1 undef] := by
    apply Array.ext
    · simpa using hv1
    · intro i h2 h3
      have : i = 0 \/ i = 1 := by simp at hv1; omega
      rcases this with rfl | rfl <;> simp [Array.getD, h2]
  rw [hvs];generalize vs.getD 0 undef = v0 at h0 ⊢;generalize vs.getD 1 undef = v1 at h1 ⊢;clear hvs hv1 hv2
  cases h1 with | fn _ _ _ a e hs ht _ _ =>
  have ea : a = #[] := Ea (by simpa using hs);have ee : e = #[] := Ea (by simpa using ht);subst ea; subst ee;generalize hL : xs.length = n at h0 hlen
  by_cases hz : n = 0
  · subst hz
    obtain rfl : xs = [] := List.length_eq_zero_iff.1 hL
    have e1 : H.set o (.elems k (([] : List β).map f)) = H := by
      apply JG;intro i;rw [QP]
      split
      · rename_i hi; subst hi; rw [hHo]; simp [(ZQ.1 hHo).1]
      · rfl
    obtain ⟨ad, cap, rfl⟩ : ∃ ad cap, v0 = .slice ad 0 cap := by
      cases h0 with
      | slNil => exact ⟨_, _, rfl⟩
      | sl => exact ⟨_, _, rfl⟩
      | slD _ _ _ _ _ hd => rw [hHo] at hd; cases hd
      | slS _ _ _ _ _ S2 xs2 hd hne => rw [hHo] at hd; simp at hd; obtain ⟨_, rfl⟩ := hd; simp at hne
      | slC _ _ _ _ _ _ hd => rw [hHo] at hd; cases hd
    refine (AnyF.slices_SortFunc_none L ad cap _ w).mono ?_;rintro e w' ⟨rfl, rfl⟩;exact ⟨.tup [], _, ι, _, rfl, ⟨rfl, [], .refl _, .nil, e1.symm⟩, Good.refl hr, .tup [] #[] Zb Zb⟩
  have hn : 0 < n := Za
  cases h0 with
  | slNil => omega
  | slD _ _ _ _ _ hd => rw [hHo] at hd; cases hd
  | slS _ _ _ _ _ S ys hd hlt => rw [hHo] at hd; simp at hd; obtain ⟨_, rfl⟩ := hd; simp at hlt; omega
  | slC _ _ _ _ _ _ hd => rw [hHo] at hd; cases hd
  | sl _ _ _ _ b S cap t ys c hι hH ht2 hw hcap hl hle hm =>
  rw [hHo] at hH;simp at hH;obtain ⟨rfl, rfl⟩ := hH;rcases hr.elm o k (xs.map f) hHo with ⟨e1, _⟩ | ⟨b2, c2, t2, cap2, e1, e2, e3, e4, e5, e6, e7⟩
  · rw [hι] at e1; cases e1
  rw [hι] at e1;simp at e1; subst e1;rw [hw] at e2;simp at e2;obtain ⟨rfl, rfl⟩ := e2;have hbs : b < w.heap.size := (hr.avo o b hι).2;have hbF : ¬ F b := (hr.avo o b hι).1
  -- an index, made one that there is
  let ix : Nat -> Nat := fun i => if i < n then i else 0
  have hix : ∀ i, ix i < n := fun i => by simp only [ix]; split <;> omega
  have hixe : ∀ i, i < n -> ix i = i := fun i hi => by simp only [ix]; rw [if_pos hi]
  let enc : Nat -> List Value := fun i => Pn c k (ix i)
  have hk : ∀ x, (enc x).length = k := fun x => FL _ _ _
  -- one cell of an element
  have cell : ∀ i, i < n -> ∃ cs, f (nth xs i) = .agg cs /\ cs.length = k /\ ∀ (j : Nat) (y : PV), cs[j]? = some y -> y.one = true /\ RP (Own F ι) w y (c.getD (i * k + j) undef) := fun i hi => by
    obtain ⟨cs, q1, q2, q3⟩ := hf (nth xs i);refine ⟨cs, q1, q2, fun j y hj => ⟨ZC.1 q3 y (Xs hj), ?_⟩⟩;refine e7 i (f (nth xs i)) j y ?_ (by rw [q1]; exact hj);rw [Xf, QO Za, Zk Za]; rfl
  have one : ∀ x, ∀ v ∈ enc x, v.oneCell' = true := fun x v hv => by
    obtain ⟨j, hj, rfl⟩ := ZN.1 hv
    have hjk : j < k := by rw [hk] at hj; exact hj
    obtain ⟨cs, q1, q2, q3⟩ := cell (ix x) (hix x);have hg := q3 j (cs[j]'(Za)) Zb
    have e9 : (enc x)[j] = c.getD (ix x * k + j) undef := by
      have := Cv (c := c) (i := ix x) hjk;rw [List.getElem!_eq_getElem?_getD, QO (by rw [FL]; exact hjk)] at this;exact this
    rw [e9];exact hg.2.oneCell hg.1
  let d : Array Nat := Array.range n
  have hd : d.size = n := by simp [d]
  let cf' : Nat -> Nat -> Int := fun i j => cf (nth xs (ix i)) (nth xs (ix j))
  have hO' : SWO (ltOf cf') := ⟨fun x => hO.irrefl _, fun x y z h1 h2 => hO.trans _ _ _ h1 h2, fun x y z h1 h2 => hO.ntrans _ _ _ h1 h2⟩
  have hsz : n * k <= c.size := by
    rw [e3]; exact Yh k (by simpa [hL] using e4)
  have hcell : ∀ j, j < c.size -> w.cell? ⟨b, j, none⟩ = some (c.getD j undef) := fun j hj => by
    simp [World.cell?, hw, hj]
  have hHolds : HoldsK enc k w b (0 * k) d := fun j hj => by
    have hj2 : j < n * k := by simpa [hd] using hj
    have k0 : 0 < k := by rcases Nat.eq_zero_or_pos k with h | h; · subst h; simp at hj2
                          · exact h
    rw [get_flatK enc k d j (by rw [hd]; exact hj2)];have hdj : j / k < n := Nat.div_lt_of_lt_mul (by rw [Ah]; exact hj2)
    have hde : d[j / k]! = j / k := by simp [d, hdj]
    rw [hde]
    have e9 : (enc (j / k))[j % k]! = c.getD j undef := by
      show (Pn c k (ix (j / k)))[j % k]! = _
      rw [hixe _ hdj, Cv (Nat.mod_lt _ k0), Nat.div_add_mod']
    rw [e9, Nat.zero_mul, Xh];exact ⟨hcell j Za, by simp [World.frozen?, hw]⟩
  have hcmp' : CmpLays P g #[] enc k cf' b (0 * k) d.size w := fun m os dk hdk x y => by
    generalize hW : sortWorldK enc k w b (0 * k) m dk os = W
    have hKeep : Keeps (Own F ι) w AF W := fun b' hb' hs' => by
      have hne : b' ≠ b := fun e => hb' (.inr (e ▸ Xs hι));refine ⟨fun h => h, ?_, ?_⟩
      · rw [<- hW]; simp [sortWorldK, grow, putRowK, putRow, mapBlock, ahead]; omega
      · rw [<- hW]
        simp only [sortWorldK, grow, putRowK, putRow, mapBlock, ahead];rw [C8 (by simpa using hs'), Eg, if_neg (fun e => hne e.symm)]
        rfl
    have heW : Env AF [] W := (hr.env.of (w' := W) (ι' := ι) (by rw [<- hW]; simp [sortWorldK, grow, putRowK, putRow, mapBlock, ahead]) (fun b' hb' hni => by
      have hne : b' ≠ b := fun e => hni (e ▸ Xs hι);rw [<- hW];simp only [sortWorldK, grow, putRowK, putRow, mapBlock, ahead];rw [C8 (by simpa using hb'), Eg, if_neg (fun e => hne e.symm)]
      rfl) (fun _ _ h => h)).noth
    have arg : ∀ i, RV AF [] [] W (.p (f (nth xs (ix i)))) (.agg (enc i).toArray) := fun i => by
      obtain ⟨cs, q1, q2, q3⟩ := cell (ix i) (hix i);refine .p _ _ ?_;rw [q1]
      refine (RP.agg cs (enc i).toArray (by simp [hk, q2]) fun j y hj => ?_ : RP AF W _ _).weaker fun b hb => by
        rcases hb with hb | hb
        · exact hb
        · simp at hb
      have hjk : j < k := by rw [<- q2]; exact (ZQ.1 hj).1
      have e9 : (enc i).toArray.getD j undef = c.getD (ix i * k + j) undef := by
        have := Cv (c := c) (i := ix i) hjk;rw [List.getElem!_eq_getElem?_getD, QO (by rw [FL]; exact hjk)] at this;simp only [Xw, B2];rw [QO (by rw [hk]; exact hjk), JK];rw [JK] at this;simpa only [Xw] using this
      rw [e9];exact (q3 j y hj).2.ext hKeep
    refine ((hcmp (nth xs (ix x)) (nth xs (ix y))).2 AF [] W _ (FP heW) ⟨rfl, fun j q hj => ?_⟩).mono ?_
    · cases j with
      | zero => simp at hj; subst hj; exact arg x
      | succ j => cases j with
        | zero => simp at hj; subst hj; exact arg y
        | succ j => simp at hj
    · rintro e' w' ⟨x', H', ι', v, rfl, ⟨rfl, rfl⟩, gd, rv⟩
      cases rv with | p _ _ rp =>
      rw [rp.int_inv];exact ⟨rfl, gA gd⟩
  have eg := (hcmp default default).1;have main := AnyQ.slices_SortFunc L k aE zE enc hk one cf' hO' g #[] b (0 * k) cap d w (fun args w => eg args w) hcmp' hHolds hbs (by rw [hd]; exact hlen);rw [hd] at main;refine main.mono ?_;rintro e' w' ⟨rfl, d', m, os, hp, hso, rfl⟩;obtain ⟨p1, _, p3⟩ := hp;rw [hd] at p1
  have hperm : d'.toList.Perm (List.range n) := by
    have e8 : (d'.extract 0 n).toList = d'.toList := by rw [<- p1]; simp
    have e9 : (d.extract 0 n).toList = List.range n := by
      have : d.extract 0 n = d := by rw [<- hd]; simp
      rw [this]; simp [d]
    rw [e8, e9] at p3; exact p3
  have hlt : ∀ i ∈ d'.toList, i < n := fun i hi => by simpa using hperm.mem_iff.1 hi
  have hlt2 : ∀ i, i < n -> d'.toList[i]?.isSome = true := fun i hi => by simp [p1, hi]
  have hget : ∀ i (hi : i < n), d'[i]! = d'.toList[i]'(by simp [p1, hi]) := fun i hi => by
    rw [getElem!_pos d' i Za]; simp
  let ys : List β := d'.toList.map (nth xs)
  have hyl : ys.length = n := by simp [ys, p1]
  have hys : ∀ i (hi : i < n), ys[i]'(Za) = nth xs d'[i]! := fun i hi => by
    simp only [ys, B7]; rw [hget i hi]
  have hdl : ∀ i, i < n -> d'[i]! < n := fun i hi => by rw [hget i hi]; exact hlt _ (JI _)
  have yperm : ys.Perm xs := by
    have h9 : (List.range n).map (nth xs) = xs := by
      refine QR (by simp [hL]) fun i h1 h2 => ?_;simp only [B7, List.getElem_range];rw [Zk h2]
    have := hperm.map (nth xs);rw [h9] at this; exact this
  have ysort : ys.Pairwise fun a b => ¬ cf b a < 0 := by
    rw [Kv];intro i j hi hj hij;rw [hys i Za, hys j Za];have h9 := hso i j (JO _) hij Za;simp only [ltOf, cf', XX] at h9;rwa [hixe _ (hdl j Za), hixe _ (hdl i Za)] at h9
  let c' : Array Value := putCells id (0 * k) (flatK enc k d') c
  have hcs : c'.size = c.size := by simp [c', putCells]
  have hat : (sortWorldK enc k w b (0 * k) m d' os).heap[b]? = some (.cells c' t (0, 0)) := by
    simp only [sortWorldK, grow, putRowK, putRow, mapBlock, ahead];rw [C8 (by simpa using hbs), Eg, if_pos rfl]
    show Option.map _ w.heap[b]? = _
    rw [hw]; rfl
  have hoth : ∀ q, q < w.heap.size -> q ≠ b -> (sortWorldK enc k w b (0 * k) m d' os).heap[q]? = w.heap[q]? := fun q hq hne => by
    simp only [sortWorldK, grow, putRowK, putRow, mapBlock, ahead];rw [C8 (by simpa using hq), Eg, if_neg (fun e => hne e.symm)]
    rfl
  have hc' : ∀ i j, i < n -> j < k -> c'.getD (i * k + j) undef = c.getD (d'[i]! * k + j) undef := fun i j hi hj => by
    have hb1 : i * k + j < n * k := by
      have := Yh k (show i + 1 <= n from hi);rw [Xx, VG] at this; omega
    have e8 : (flatK enc k d')[i * k + j]! = c.getD (d'[i]! * k + j) undef := by
      rw [get_flatK enc k d' _ (by rw [p1]; exact hb1)]
      have q1 : (i * k + j) / k = i := by rw [Ah, Nat.mul_add_div Za, JJ hj]; omega
      have q2 : (i * k + j) % k = j := by rw [Ah, Nat.mul_add_mod, B8 hj]
      rw [q1, q2]
      show (Pn c k (ix d'[i]!))[j]! = _
      rw [Cv hj, hixe _ (hdl i hi)]
    have e9 : c'[i * k + j]? = some ((flatK enc k d')[i * k + j]!) := by
      simp only [c', putCells, Array.getElem?_mapIdx];rw [Array.getElem?_eq_getElem Za];simp only [Ac, Nat.zero_mul, JO, true_and, Xh, size_flatK, p1, hb1, if_true, Nat.sub_zero, id]
    rw [Xw, e9, JK, e8]
  have good := YC (w' := sortWorldK enc k w b (0 * k) m d' os) (c := c') (t := t) (xs' := ys.map f) (cap := cap2) (b' := b) hr (o := o) (S := k) (xs := xs.map f) hHo rfl (Tp.of rfl (by simp [sortWorldK, grow, putRowK, putRow, mapBlock, ahead])) rfl
    (fun c0 t0 h => by rw [hw] at h; simp at h; obtain ⟨rfl, rfl⟩ := h; exact ⟨rfl, hcs⟩) (by simp [sortWorldK, grow, putRowK, putRow, mapBlock, ahead]) hat hoth (.inl ⟨hι, .inl ⟨by simp [hyl, hL], fun c0 t0 h => by rw [hw] at h; simp at h; obtain ⟨rfl, rfl⟩ := h; exact ⟨rfl, hcs⟩⟩⟩)
    (by rw [hcs]; exact e3) (by simp only [Zy, hyl]; simpa [hL] using e4) e5
    (fun i x hi => by
      rw [Xf, ZS] at hi;obtain ⟨y, _, rfl⟩ := hi;obtain ⟨cs, q1, q2, _⟩ := hf y
      rw [q1]; exact q2)
    (fun i x j y hi hj => by
      rw [Xf, ZS] at hi;obtain ⟨z, hz, rfl⟩ := hi
      have hin : i < n := by have := (ZQ.1 hz).1; omega
      have e8 : z = nth xs d'[i]! := by
        obtain ⟨h9, h10⟩ := ZQ.1 hz;rw [<- h10]; exact hys i hin
      obtain ⟨cs, q1, q2, q3⟩ := cell _ (hdl i hin);rw [e8, q1] at hj
      have hjk : j < k := by rw [<- q2]; exact (ZQ.1 hj).1
      rw [hc' i j hin hjk]
      exact (q3 j y hj).2)
  have ZJ : ι.set o (some b) = ι := by
    refine JG fun i => ?_;rw [QP]
    split
    · rename_i e; subst e
      have := (ZQ.1 hι).1;rw [if_pos this, hι]
    · rfl
  rw [ZJ] at good;exact ⟨.tup [], _, ι, .tuple #[], rfl, ⟨rfl, ys, yperm, ysort, rfl⟩, good, .tup [] #[] rfl (fun j c hj => by simp at hj)⟩
end Go.AM
namespace Go.Proofs.YtjkkdmeebhjaiaaGreatDoor.K
open Go Go.AM Go.Proofs
set_option maxRecDepth 8000
set_option maxHeartbeats 8000000
deriving instance DecidableEq for Itm
theorem XA {v w:Itm} :v=w↔v.kind=w.kind/\v.a=w.a:=by cases v;cases w;simp
def EZ (a b:Itm):Int:=if Wv a.kind b.kind=0 then Wv a.a b.a else Wv a.kind b.kind
theorem Mg (a b:Itm):PC 62 [.p (Xe a),.p (Xe b)] (.int .i64 (EZ a b)):=by
 refine Zc Tryz.func62 rfl ZhN ?_;simp (disch:=omega) only [Tryz.f62,go_sem,seval];refine Xd ?_;simp (disch:=omega) only [go_sem,seval];refine Zn (DC a.kind b.kind) ?_;simp (disch:=omega) only [go_sem,seval];refine Zn (DC a.a b.a) ?_;simp (disch:=omega) only [go_sem,seval];refine Zn (qD [Wv a.kind b.kind,Wv a.a b.a] false Zb) ?_;simp (disch:=omega) only [go_sem,seval];rw [Eu,EZ]
def I5 (x:Inst) (o:Int):Bool:=decide (o<0)||decide ((x.orders.length:Int)<=o)||(nth x.orders o.toNat).off
theorem I4 (x:Inst) (o:Int) (hl:x.orders.length<=1048576):PC 60 [.p (Zr x),.p (.int .i64 o)] (.bool (I5 x o)):=by
 refine Zc Tryz.func60 rfl ZhL ?_;simp (disch:=omega) only [Tryz.f60,go_sem,seval];refine gF ?_ ?_<;>intro h<;>simp (disch:=omega) only [Sh.out h,go_sem,seval]
 ·simp [I5,h]
 ·refine gF ?_ ?_<;>intro h2<;>simp (disch:=omega) only [Sh.out h2,go_sem,seval]
  ·simp [I5,h2]
  ·simp [I5,h,h2]
def gZ (x:Inst) (i:Nat):List Itm:=if (nth x.orders i).off=true then [] else
 (if (nth x.orders i).pick.place≠ -1 then [⟨1,i⟩] else [])++(if (nth x.orders i).drp.place≠ -1 then [⟨2,i⟩] else [])++(if (nth x.orders i).skills≠0 then [⟨4,i⟩] else [])++(if (nth x.orders i).penalty= -1 then [⟨10,i⟩] else [])
def C4 (x:Inst) (k:Nat):List Itm:=(List.range k).flatMap (gZ x)
theorem Hc (x k):C4 x (k+1)=C4 x k++gZ x k:=by simp [C4,X4]
theorem pE (x i):(gZ x i).length<=4:=by
 unfold gZ
 split
 ·simp
 ·simp only [Zz]
  split<;>split<;>split<;>split<;>simp
theorem BS (x): ∀k,(C4 x k).length<=4*k
 | 0=>by simp [C4]
 | k+1=>by
  have h1:=BS x k;have h2:=pE x k;rw [Hc,Zz];omega
def hO (x:Inst) (m:List Itm) (i:Nat):List AM.Obj:= [Zf x,.cells [.sl 2 0 m.length m.length],.elems 2 (m.map Xe),.cells [.p (.int .i64 (i:Nat))]]
theorem D2 (x:Inst) (m:List Itm) (i:Nat) (has:Bool) (kind:Int) (hm:m.length<=1048576):ACalls Tryz.prog 88 [.p (.bool has),.p (.int .i64 kind),.ptr 1 0,.ptr 3 0] (hO x m i) fun y H'=>y= .tup []/\H'=hO x (if has=true then m++ [⟨kind,i⟩] else m) i:=by
 refine Ze [] Tryz.func88 rfl Zia ?_
 cases has with
 | true =>
  simp (disch:=omega) only [Tryz.f88,hO,Zf,go_sem,seval];exact ⟨.tup [],hO x (m++ [⟨kind,i⟩]) i,Weak.mk (by simp (disch:=omega) only [hO,Zf,go_sem,seval]),rfl,by simp [hO,Zf,Xe]⟩
 | false =>
  simp (disch:=omega) only [Tryz.f88,hO,Zf,go_sem,seval];exact ⟨.tup [],hO x m i,Weak.mk (by simp (disch:=omega) only [hO,Zf,go_sem,seval]),rfl,by simp [hO,Zf]⟩
theorem I3 (x:Inst) (hl:x.orders.length<=1000):ACalls Tryz.prog 59 [.p (Zr x)] [] fun y H'=> ∃m:List Itm,m=C4 x x.orders.length/\y= .sl 0 0 m.length m.length/\H'= [.elems 2 (m.map Xe)]:=by
 refine ZE [2] Tryz.func59 rfl ZhK ?_;simp (disch:=omega) only [Tryz.f59,go_sem,seval];refine Zo (Weak.nilC (o:=1) (j:=0) 2 rfl rfl Zb) ?_;refine Zh [] _ _ _ _ ?_;simp (disch:=omega) only [ZK,ZY,ZL,ZD,go_sem,seval];refine Zl [3,8,9] (fun q:Nat×List Itm=> [(10,.p (.int .i64 q.1))]) (fun q=> [Zf x,.cells [.sl 2 0 q.2.length q.2.length],.elems 2 (q.2.map Xe)]) (fun q=>q.1<=x.orders.length/\q.2=C4 x q.1) (fun q=>x.orders.length-q.1) (0,[]) ⟨Zb,by simp [C4]⟩ (Weak.mk ?_) ?_
 ·simp (disch:=omega) only [Zf,go_sem,seval]
 ·rintro ⟨i,m⟩ ⟨hi,hm⟩;simp only at hi hm
  have hml:m.length<=4*i:=by rw [hm];exact BS x i
  have hsc:=Hc x i;simp (disch:=omega) only [Zf,go_sem,seval];refine cD ?_ ?_<;>intro h<;>simp (disch:=omega) only [Sh.out h,go_sem,seval]
  ·have hi2:i<x.orders.length:=Za
   refine cD ?_ ?_<;>intro h2<;>simp (disch:=omega) only [Sh.out h2,go_sem,seval]
   ·exact ⟨(i+1,m),⟨by simp only;omega,by simp only [hsc,gZ,h2,if_true,hm,Yt]⟩,by simp only;omega,Weak.mk (by simp (disch:=omega) only [Zf,go_sem,seval])⟩
   ·have c1:=D2 x m i (decide ((nth x.orders i).pick.place≠ -1)) 1 Za
    have ifl: ∀ {c:Prop} [Decidable c] (m:List Itm) (v:Itm),(if decide c=true then m++ [v] else m)=m++(if c then [v] else []):=fun {c} _ m v=>by by_cases h:c<;>simp [h]
    have ifn: ∀ {c:Prop} [Decidable c] (v:Itm),(if c then [v] else []).length<=1:=fun {c} _ v=>by split<;>simp
    rw [ifl] at c1;refine c1.useP (L:= [_]) (by rfl) ?_ (by rfl) (by rfl);have n1:=ifn (c:=(nth x.orders i).pick.place≠ -1) ⟨1,i⟩;have n2:=ifn (c:=(nth x.orders i).drp.place≠ -1) ⟨2,i⟩;have n3:=ifn (c:=(nth x.orders i).skills≠0) ⟨4,i⟩;have n4:=ifn (c:=(nth x.orders i).penalty= -1) ⟨10,i⟩
    have hit:gZ x i=(if (nth x.orders i).pick.place≠ -1 then [⟨1,i⟩] else [])++(if (nth x.orders i).drp.place≠ -1 then [⟨2,i⟩] else [])++(if (nth x.orders i).skills≠0 then [⟨4,i⟩] else [])++(if (nth x.orders i).penalty= -1 then [⟨10,i⟩] else []):=by rw [gZ,if_neg (by rw [h2];simp)]
    generalize hA:(if (nth x.orders i).pick.place≠ -1 then [(⟨1,i⟩:Itm)] else [])=A at hit n1 c1 ⊢;have c2:=D2 x (m++A) i (decide ((nth x.orders i).drp.place≠ -1)) 2 (by simp;omega);rw [ifl] at c2;generalize (if (nth x.orders i).drp.place≠ -1 then [(⟨2,i⟩:Itm)] else [])=B at hit n2 c2;have c3:=D2 x (m++A++B) i (decide ((nth x.orders i).skills≠0)) 4 (by simp;omega);rw [ifl] at c3;generalize (if (nth x.orders i).skills≠0 then [(⟨4,i⟩:Itm)] else [])=C at hit n3 c3;have c4:=D2 x (m++A++B++C) i (decide ((nth x.orders i).penalty= -1)) 10 (by simp;omega)
    rw [ifl] at c4;generalize (if (nth x.orders i).penalty= -1 then [(⟨10,i⟩:Itm)] else [])=D at hit n4 c4;generalize hm1:m++A=m1 at c2 c3 c4 ⊢;generalize hm2:m1++B=m2 at c2 c3 c4 ⊢;generalize hm3:m2++C=m3 at c3 c4 ⊢;generalize hm4:m3++D=m4 at c4;simp (disch:=omega) only [hO,Zf,YA,go_sem,seval];refine c2.useP (L:= [_]) (by rfl) ?_ (by rfl) (by rfl);simp (disch:=omega) only [hO,Zf,YA,go_sem,seval];refine c3.useP (L:= [_]) (by rfl) ?_ (by rfl) (by rfl);simp (disch:=omega) only [hO,Zf,YA,go_sem,seval];refine c4.useP (L:= [_]) (by rfl) ?_ (by rfl) (by rfl)
    simp (disch:=omega) only [hO,Zf,YA,go_sem,seval];refine ⟨(i+1,m4),⟨by simp only;omega,?_⟩,by simp only;omega,Weak.mk (by simp (disch:=omega) only [hO,Zf,YA,go_sem,seval])⟩;simp only [hsc,hit,<- hm4,<- hm3,<- hm2,<- hm1,hm,Vj]
  ·have hin:i=x.orders.length:=Za
   subst hin;exact ⟨m,hm,2,by simp (disch:=omega) only [Zf,go_sem,seval]⟩
def hJ (k:Nat):List Itm:=(List.range k).flatMap fun (i:Nat)=> [⟨3,i⟩,⟨7,i⟩,⟨8,i⟩,⟨9,i⟩]
def GC (x:Inst) (i:Nat):List Itm:=if (!I5 x (nth x.apart i).1&& !I5 x (nth x.apart i).2)=true then [⟨5,i⟩] else []
def gX (x:Inst) (k:Nat):List Itm:=(List.range k).flatMap (GC x)
def IL (x:Inst) (i:Nat):List Itm:=if (!I5 x (nth x.before i).2)=true then [⟨6,i⟩] else []
def gY (x:Inst) (k:Nat):List Itm:=(List.range k).flatMap (IL x)
def GE (x:Inst):List Itm:=C4 x x.orders.length++hJ x.types.length++gX x x.apart.length++gY x x.before.length
theorem MM (k):hJ (k+1)=hJ k++ [⟨3,k⟩,⟨7,k⟩,⟨8,k⟩,⟨9,k⟩]:=by simp [hJ,X4]
theorem BR (x k):gX x (k+1)=gX x k++GC x k:=by simp [gX,X4]
theorem Fi (x k):gY x (k+1)=gY x k++IL x k:=by simp [gY,X4]
theorem D7 : ∀k,(hJ k).length=4*k
 | 0=>by simp [hJ]
 | k+1=>by rw [MM,Zz,D7 k];simp;omega
theorem IK (x): ∀k,(gX x k).length<=k
 | 0=>by simp [gX]
 | k+1=>by
  have h1:=IK x k
  have h2:(GC x k).length<=1:=by unfold GC;split<;>simp
  rw [BR,Zz];omega
theorem IM (x): ∀k,(gY x k).length<=k
 | 0=>by simp [gY]
 | k+1=>by
  have h1:=IM x k
  have h2:(IL x k).length<=1:=by unfold IL;split<;>simp
  rw [Fi,Zz];omega
theorem UC {a b:Itm} :EZ a b<0↔a.kind<b.kind\/(a.kind=b.kind/\a.a<b.a):=by
 unfold EZ
 split
 ·rename_i h;rw [CX] at h;rw [Rf];omega
 ·rename_i h;rw [CX] at h;rw [Rf];omega
theorem eK : Go.Sort.SWO (ltOf EZ) where
 irrefl x:=by simp only [ltOf,XX,UC];omega
 trans x y z h1 h2:=by simp only [ltOf,Zs,UC] at *;omega
 ntrans x y z h1 h2:=by simp only [ltOf,XX,UC] at *;omega
theorem NJ (xs:List Itm) (hne:xs≠ []) (hl:xs.length<=1048576) {H:List AM.Obj} {o:Nat} (hH:H[o]? =some (.elems 2 (xs.map Xe))) :
  ACalls Tryz.prog 61 [.sl o 0 xs.length xs.length,.fn (.func 62) [] []] H fun y H'=>y= .tup []/\ ∃ys:List Itm,ys.Perm xs/\ys.Pairwise (fun a b=> ¬EZ b a<0)/\H'=H.set o (.elems 2 (ys.map Xe)) :=
 ACalls.sortFunc aV ZhM 2 Tryz.isAgg41 Tryz.sizeOf41 Xe (fun x=>⟨_,rfl,rfl,rfl⟩) EZ eK 62 Mg xs Za hH
theorem Tw (x:Inst) (ho:x.orders.length<=1000) (ht:0<x.types.length/\x.types.length<=1000) (ha:x.apart.length<=1000) (hb:x.before.length<=1000):ACalls Tryz.prog 31 [.p (Zr x)] [] fun y H'=> ∃m:List Itm,(m.Perm (GE x)/\m.Pairwise (fun a b=> ¬EZ b a<0))/\y= .sl 0 0 m.length m.length/\H'= [.elems 2 (m.map Xe)]:=by
 refine ZE [] Tryz.func31 rfl Zhm ?_;simp (disch:=omega) only [Tryz.f31,go_sem,seval];obtain ⟨os,hos⟩: ∃os,os=C4 x x.orders.length:=⟨_,rfl⟩;have hosl:=BS x x.orders.length;rw [<- hos] at hosl;refine ACalls.useF (S:=2) (n:=os.length) (xs:=os.map Xe) ((I3 x ho).mono fun y H' ⟨m,hm,h1,h2⟩=>by rw [hos,<- hm];exact ⟨h1,h2⟩) ?_;simp (disch:=omega) only [go_sem,seval];obtain ⟨ks,hks⟩: ∃ks:List Int,ks= [3,7,8,9]:=⟨_,rfl⟩
 have hkl:ks.length=4:=by rw [hks];rfl
 have hke:(ks.map eI).length=ks.length:=Zb
 refine Zl [1,15] (fun q:Nat×List Itm=> [(3,.sl 1 0 q.2.length q.2.length),(16,.p (.int .i64 q.1))]) (fun q=> [Zf x,.elems 2 (q.2.map Xe)]) (fun q=>q.1<=x.types.length/\q.2=os++hJ q.1) (fun q=>x.types.length-q.1) (0,os) ⟨Zb,by simp [hJ]⟩ (Weak.mk ?_) ?_
 ·simp (disch:=omega) only [Zf,go_sem,seval]
 ·rintro ⟨i,m⟩ ⟨hi,hm⟩;simp only at hi hm
  have hml:m.length=os.length+4*i:=by rw [hm,Zz,D7]
  simp (disch:=omega) only [Zf,go_sem,seval];refine cD ?_ ?_<;>intro h<;>simp (disch:=omega) only [Sh.out h,go_sem,seval]
  ·have hi2:i<x.types.length:=Za
   refine Zl [1,4,15,16,20] (fun q:Nat×List Itm=> [(3,.sl 1 0 q.2.length q.2.length),(19,.sl 2 0 ks.length ks.length),(21,.p (.int .i64 q.1))]) (fun q=> [Zf x,.elems 2 (q.2.map Xe),.elems 1 (ks.map eI)]) (fun q=>q.1<=4/\q.2=m++(ks.take q.1).map fun c=>(⟨c,i⟩:Itm)) (fun q=>4-q.1) (0,m) ⟨Zb,Zb⟩ (Weak.mk ?_) ?_
   ·rw [hks];simp (disch:=omega) only [Zf,Zq,Zj,ZA,ZF,go_sem,seval]
   ·rintro ⟨k,m2⟩ ⟨hk,hm2⟩;simp only at hk hm2
    have hm2l:m2.length=m.length+k:=by rw [hm2];simp;omega
    simp (disch:=omega) only [Zf,go_sem,seval];refine cD ?_ ?_<;>intro h2<;>simp (disch:=omega) only [Sh.out h2,Ve,go_sem,seval]
    ·have hk2:k<ks.length:=Za
     have htk:ks.take (k+1)=ks.take k++ [nth ks k]:=by rw [Xm hk2,Zk hk2]
     simp (disch:=omega) only [hk2,go_sem,seval];exact ⟨(k+1,m2++ [⟨nth ks k,i⟩]),⟨by simp only;omega,by simp only [htk,hm2,Xn,Vj];rfl⟩,by simp only;omega,Weak.mk (by simp (disch:=omega) only [Zf,go_sem,seval])⟩
    ·have hk4:k=4:=Za
     subst hk4;refine ⟨(i+1,m2),⟨by simp only;omega,?_⟩,by simp only;omega,Weak.mk (by simp (disch:=omega) only [Zf,go_sem,seval])⟩;simp only [MM,hm2,hm,Vj];rw [hks];rfl
  ·have hin:i=x.types.length:=Za
   subst hin;clear hi h;refine Zl [1,34,35] (fun q:Nat×List Itm=> [(3,.sl 1 0 q.2.length q.2.length),(36,.p (.int .i64 q.1))]) (fun q=> [Zf x,.elems 2 (q.2.map Xe)]) (fun q=>q.1<=x.apart.length/\q.2=m++gX x q.1) (fun q=>x.apart.length-q.1) (0,m) ⟨Zb,by simp [gX]⟩ (Weak.mk ?_) ?_
   ·simp (disch:=omega) only [Zf,go_sem,seval]
   ·rintro ⟨i,m2⟩ ⟨hi,hm2⟩;simp only at hi hm2
    have hm2l:m2.length<=m.length+i:=by have:=IK x i;rw [hm2,Zz];omega
    simp (disch:=omega) only [Zf,go_sem,seval];refine cD ?_ ?_<;>intro h<;>simp (disch:=omega) only [Sh.out h,go_sem,seval]
    ·have hi2:i<x.apart.length:=Za
     refine (I4 x (nth x.apart i).1 Za).use ?_;simp (disch:=omega) only [go_sem,seval];refine gT ?_ ?_<;>intro h2<;>simp (disch:=omega) only [Sh.out h2,go_sem,seval]
     ·refine (I4 x (nth x.apart i).2 Za).use ?_;simp (disch:=omega) only [go_sem,seval];refine cD ?_ ?_<;>intro h3<;>simp (disch:=omega) only [Sh.out h3,go_sem,seval]
      ·exact ⟨(i+1,m2++ [⟨5,i⟩]),⟨by simp only;omega,by simp only [BR,GC,h2,h3,Bool.and_self,if_true,hm2,Vj]⟩,by simp only;omega,Weak.mk (by simp (disch:=omega) only [Zf,go_sem,seval])⟩
      ·exact ⟨(i+1,m2),⟨by simp only;omega,by simp [BR,GC,h2,h3,hm2]⟩,by simp only;omega,Weak.mk (by simp (disch:=omega) only [Zf,go_sem,seval])⟩
     ·exact ⟨(i+1,m2),⟨by simp only;omega,by simp [BR,GC,h2,hm2]⟩,by simp only;omega,Weak.mk (by simp (disch:=omega) only [Zf,go_sem,seval])⟩
    ·have hin:i=x.apart.length:=Za
     subst hin;clear hi h;refine Zl [1,60,61] (fun q:Nat×List Itm=> [(3,.sl 1 0 q.2.length q.2.length),(62,.p (.int .i64 q.1))]) (fun q=> [Zf x,.elems 2 (q.2.map Xe)]) (fun q=>q.1<=x.before.length/\q.2=m2++gY x q.1) (fun q=>x.before.length-q.1) (0,m2) ⟨Zb,by simp [gY]⟩ (Weak.mk ?_) ?_
     ·simp (disch:=omega) only [Zf,go_sem,seval]
     ·rintro ⟨i,m3⟩ ⟨hi,hm3⟩;simp only at hi hm3
      have hm3l:m3.length<=m2.length+i:=by have:=IM x i;rw [hm3,Zz];omega
      simp (disch:=omega) only [Zf,go_sem,seval];refine cD ?_ ?_<;>intro h<;>simp (disch:=omega) only [Sh.out h,go_sem,seval]
      ·have hi2:i<x.before.length:=Za
       refine (I4 x (nth x.before i).2 Za).use ?_;simp (disch:=omega) only [go_sem,seval];refine cD ?_ ?_<;>intro h2<;>simp (disch:=omega) only [Sh.out h2,go_sem,seval]
       ·exact ⟨(i+1,m3++ [⟨6,i⟩]),⟨by simp only;omega,by simp only [Fi,IL,h2,if_true,hm3,Vj]⟩,by simp only;omega,Weak.mk (by simp (disch:=omega) only [Zf,go_sem,seval])⟩
       ·exact ⟨(i+1,m3),⟨by simp only;omega,by simp [Fi,IL,h2,hm3]⟩,by simp only;omega,Weak.mk (by simp (disch:=omega) only [Zf,go_sem,seval])⟩
      ·have hin:i=x.before.length:=Za
       subst hin
       have hpre:m3=GE x:=by rw [hm3,hm2,hm,hos];rfl
       have hne:m3≠ []:=fun e=>by have:=ZT List.length hpre;rw [e] at this;simp [GE,D7] at this;omega
       refine (NJ m3 hne Za (H:=_) (o:=1) rfl).mono ?_;rintro y H' ⟨rfl,ys,h1,h2,rfl⟩;have hyl:ys.length=m3.length:=h1.length_eq;simp (disch:=omega) only [ZK,ZY,go_sem,seval];rw [<- hyl];exact ⟨ys,⟨by rw [<- hpre];exact h1,h2⟩,1,by simp (disch:=omega) only [go_sem,seval]⟩
def Uy (x:Inst) (i:Int):Bool:=decide (0<=i)&&decide (i<(x.orders.length:Int))&& !(nth x.orders i.toNat).off
theorem M5 {x o} :I5 x o= !Uy x o:=by
 unfold I5 Uy
 by_cases h1:o<0
 ·have: ¬ 0<=o:=Za
  simp [h1,this]
 ·by_cases h2:(x.orders.length:Int)<=o
  ·have: ¬o<(x.orders.length:Int):=Za
   simp [h2,this]
  ·have h3:0<=o:=Za
   have h4:o<(x.orders.length:Int):=Za
   simp [h1,h2,h3,h4]
def Df (o:Ord) (kind:Int):Bool:=if kind=1 then decide (0<=o.pick.place) else if kind=2 then decide (0<=o.drp.place) else if kind=4 then decide (o.skills≠0) else decide (o.penalty= -1)
def Yf (x:Inst) (v:Itm):Bool :=
 if v.kind=1\/v.kind=2\/v.kind=4\/v.kind=10 then Uy x v.a&&Df (nth x.orders v.a.toNat) v.kind
 else if v.kind=3\/v.kind=7\/v.kind=8\/v.kind=9 then decide (0<=v.a)&&decide (v.a<(x.types.length:Int))
 else if v.kind=5 then decide (0<=v.a)&&decide (v.a<(x.apart.length:Int))&&Uy x (nth x.apart v.a.toNat).1&&Uy x (nth x.apart v.a.toNat).2
 else if v.kind=6 then decide (0<=v.a)&&decide (v.a<(x.before.length:Int))&&Uy x (nth x.before v.a.toNat).2
 else false
theorem RT {x i} {v:Itm} :v∈gZ x i↔(nth x.orders i).off=false/\v.a=(i:Int)/\((v.kind=1/\(nth x.orders i).pick.place≠ -1)\/(v.kind=2/\(nth x.orders i).drp.place≠ -1)\/(v.kind=4/\(nth x.orders i).skills≠0)\/(v.kind=10/\(nth x.orders i).penalty= -1)):=by
 have one: ∀(c:Prop) [Decidable c] (w:Itm),v∈(if c then [w] else [])↔c/\v.kind=w.kind/\v.a=w.a:=fun c _ w=>by
  split<;>simp_all [XA]
 unfold gZ
 split
 ·rename_i h;simp [h]
 ·rename_i h;simp only [Xg,one]
  have h2:(nth x.orders i).off=false:=by simpa using h
  simp only [h2,true_and]
  constructor
  ·rintro (((⟨h1,h2,h3⟩ | ⟨h1,h2,h3⟩) | ⟨h1,h2,h3⟩) | ⟨h1,h2,h3⟩)
   ·exact ⟨h3,.inl ⟨h2,h1⟩⟩
   ·exact ⟨h3,.inr (.inl ⟨h2,h1⟩)⟩
   ·exact ⟨h3,.inr (.inr (.inl ⟨h2,h1⟩))⟩
   ·exact ⟨h3,.inr (.inr (.inr ⟨h2,h1⟩))⟩
  ·rintro ⟨h3,(⟨h2,h1⟩ | ⟨h2,h1⟩ | ⟨h2,h1⟩ | ⟨h2,h1⟩)⟩
   ·exact .inl (.inl (.inl ⟨h1,h2,h3⟩))
   ·exact .inl (.inl (.inr ⟨h1,h2,h3⟩))
   ·exact .inl (.inr ⟨h1,h2,h3⟩)
   ·exact .inr ⟨h1,h2,h3⟩
theorem Ep {n} {v:Itm} :v∈hJ n↔(v.kind=3\/v.kind=7\/v.kind=8\/v.kind=9)/\0<=v.a/\v.a<(n:Int):=by
 simp only [hJ,X2,ZR,Z5,W0,Wa,XA]
 constructor
 ·rintro ⟨i,hi,h⟩;rcases h with ⟨h1,h2⟩ | ⟨h1,h2⟩ | ⟨h1,h2⟩ | ⟨h1,h2⟩<;>refine ⟨by simp [h1],Za,Za⟩
 ·rintro ⟨h,h1,h2⟩;refine ⟨v.a.toNat,Za,?_⟩
  have:v.a=(v.a.toNat:Int):=Za
  rcases h with h | h | h | h<;>simp [h,<- this]
theorem IX {x n} {v:Itm} :v∈gX x n↔v.kind=5/\0<=v.a/\v.a<(n:Int)/\Uy x (nth x.apart v.a.toNat).1=true/\Uy x (nth x.apart v.a.toNat).2=true:=by
 simp only [gX,X2,ZR,GC,M5,Bool.not_not,Zw]
 constructor
 ·rintro ⟨i,hi,h⟩
  split at h
  ·rename_i h3;simp only [Z5,W0,Wa,XA] at h
   have e:v.a.toNat=i:=Za
   rw [e];exact ⟨h.1,Za,Za,h3⟩
  ·simp at h
 ·rintro ⟨h,h1,h2,h3⟩;refine ⟨v.a.toNat,Za,?_⟩;rw [if_pos h3];simp only [Z5,W0,Wa,XA];exact ⟨h,Za⟩
theorem RS {x n} {v:Itm} :v∈gY x n↔v.kind=6/\0<=v.a/\v.a<(n:Int)/\Uy x (nth x.before v.a.toNat).2=true:=by
 simp only [gY,X2,ZR,IL,M5,Bool.not_not]
 constructor
 ·rintro ⟨i,hi,h⟩
  split at h
  ·rename_i h3;simp only [Z5,W0,Wa,XA] at h
   have e:v.a.toNat=i:=Za
   rw [e];exact ⟨h.1,Za,Za,h3⟩
  ·simp at h
 ·rintro ⟨h,h1,h2,h3⟩;refine ⟨v.a.toNat,Za,?_⟩;rw [if_pos h3];simp only [Z5,W0,Wa,XA];exact ⟨h,Za⟩
theorem Cd {x:Inst} (hp:Plc x) {v:Itm} :v∈C4 x x.orders.length↔(v.kind=1\/v.kind=2\/v.kind=4\/v.kind=10)/\Uy x v.a=true/\Df (nth x.orders v.a.toNat) v.kind=true:=by
 simp only [C4,X2,ZR,RT]
 constructor
 ·rintro ⟨i,hi,h0,ha,h⟩
  have e:v.a.toNat=i:=Za
  have hpl:=hp _ (Zu hi);rw [e];refine ⟨?_,by simp only [Uy,e,h0,WE,Qq,Zw,Zs];omega,?_⟩
  ·rcases h with h | h | h | h<;>simp [h.1]
  ·rcases h with h | h | h | h<;>simp only [Df,h.1]<;>simp [h.2]<;>omega
 ·rintro ⟨hk,ha,ho⟩;simp only [Uy,Zw,Zs,XN] at ha;refine ⟨v.a.toNat,Za,ha.2,Za,?_⟩;rcases hk with h | h | h | h<;>simp only [Df,h] at ho<;>simp at ho<;>simp [h]<;>first | exact ho | omega
theorem MY {x:Inst} (hp:Plc x) {v:Itm} :v∈GE x↔Yf x v=true:=by
 simp only [GE,Xg,Cd hp,Ep,IX,RS,Yf]
 by_cases h1:v.kind=1\/v.kind=2\/v.kind=4\/v.kind=10
 ·rw [if_pos h1]
  have h2: ¬(v.kind=3\/v.kind=7\/v.kind=8\/v.kind=9):=Za
  have h3: ¬v.kind=5:=Za
  have h4: ¬v.kind=6:=Za
  simp [h1,h2,h3,h4]
 ·rw [if_neg h1]
  by_cases h2:v.kind=3\/v.kind=7\/v.kind=8\/v.kind=9
  ·rw [if_pos h2]
   have h3: ¬v.kind=5:=Za
   have h4: ¬v.kind=6:=Za
   simp [h1,h2,h3,h4]
  ·rw [if_neg h2]
   by_cases h3:v.kind=5
   ·rw [if_pos h3];simp [h1,h2,h3,and_assoc]
   ·rw [if_neg h3]
    by_cases h4:v.kind=6
    ·rw [if_pos h4];simp [h1,h2,h3,h4,and_assoc]
    ·simp [h1,h2,h3,h4]
theorem Tu (x i):(gZ x i).Nodup:=by
 unfold gZ
 split
 ·simp
 ·split<;>split<;>split<;>split<;>simp
theorem Jz {f:Nat->List Itm} {n:Nat} (h: ∀i,(f i).Nodup) (ha: ∀i,∀v∈f i,v.a=(i:Int)):((List.range n).flatMap f).Nodup:=by
 rw [List.Nodup,List.pairwise_flatMap];refine ⟨fun i _=>h i,List.Pairwise.imp ?_ (List.nodup_range (n:=n))⟩;intro i j hij v hv w hw e;have h1:=ha i v hv;have h2:=ha j w hw;rw [e] at h1;omega
theorem FI {x:Inst} (hp:Plc x):(GE x).Nodup:=by
 have n1:(C4 x x.orders.length).Nodup:=Jz (Tu x) fun i v hv=>(RT.1 hv).2.1
 have n2:(hJ x.types.length).Nodup:=Jz (fun i=>Zb) fun i v hv=>by
  simp only [Z5,W0,Wa] at hv;rcases hv with rfl | rfl | rfl | rfl<;>rfl
 have n3:(gX x x.apart.length).Nodup:=Jz (fun i=>by unfold GC;split<;>simp) fun i v hv=>by
  unfold GC at hv;split at hv
  ·simp at hv;rw [hv]
  ·simp at hv
 have n4:(gY x x.before.length).Nodup:=Jz (fun i=>by unfold IL;split<;>simp) fun i v hv=>by
  unfold IL at hv;split at hv
  ·simp at hv;rw [hv]
  ·simp at hv
 rw [GE,B6,B6,B6];refine ⟨⟨⟨n1,n2,fun v hv w hw e=> ?_⟩,n3,fun v hv w hw e=> ?_⟩,n4,fun v hv w hw e=> ?_⟩
 ·subst e;have h1:=(Cd hp).1 hv;have h2:=Ep.1 hw;omega
 ·subst e;have h2:=IX.1 hw;rcases Xg.1 hv with hv | hv
  ·have h1:=(Cd hp).1 hv;omega
  ·have h1:=Ep.1 hv;omega
 ·subst e;have h2:=RS.1 hw;rcases Xg.1 hv with hv | hv
  ·rcases Xg.1 hv with hv | hv
   ·have h1:=(Cd hp).1 hv;omega
   ·have h1:=Ep.1 hv;omega
  ·have h1:=IX.1 hv;omega
def Lc (x:Inst) (k:Nat) (a:Nat):List Itm:=if Yf x ⟨k+1,a⟩=true then [⟨k+1,a⟩] else []
def Dm (x:Inst) (k n:Nat):List Itm:=(List.range n).flatMap (Lc x k)
def Kz (x:Inst):Nat:=max (max (max x.orders.length x.types.length) x.apart.length) x.before.length
def YN (x:Inst) (n:Nat):List Itm:=(List.range n).flatMap fun k=>Dm x k (Kz x)
theorem HB (x k n):Dm x k (n+1)=Dm x k n++Lc x k n:=by simp [Dm,X4]
theorem HA (x n):YN x (n+1)=YN x n++Dm x n (Kz x):=by simp [YN,X4]
theorem Ce {x k a} {v:Itm} :v∈Lc x k a↔Yf x v=true/\v.kind=(k:Int)+1/\v.a=(a:Int):=by
 unfold Lc
 constructor
 ·intro h
  split at h
  ·simp at h;subst h;rename_i h2;exact ⟨h2,rfl,rfl⟩
  ·simp at h
 ·rintro ⟨h1,h2,h3⟩;have:v=⟨(k:Int)+1,a⟩:=XA.2 ⟨h2,h3⟩;subst this;rw [if_pos h1];simp
theorem U3 {x:Inst} {v:Itm} :v∈YN x 10↔Yf x v=true:=by
 simp only [YN,Dm,X2,ZR,Ce]
 constructor
 ·rintro ⟨k,_,a,_,h,_⟩;exact h
 ·intro h
  have hk:1<=v.kind/\v.kind<=10/\0<=v.a/\v.a<(Kz x:Int):=by
   unfold Yf at h;unfold Kz
   split at h
   ·simp only [Uy,Zw,Zs] at h;omega
   ·split at h
    ·simp only [Zw,Zs] at h;omega
    ·split at h
     ·simp only [Zw,Zs] at h;omega
     ·split at h
      ·simp only [Zw,Zs] at h;omega
      ·simp at h
  exact ⟨(v.kind-1).toNat,Za,v.a.toNat,Za,h,Za,Za⟩
theorem KK (x:Inst) (n:Nat):(YN x n).Pairwise fun a b=>EZ a b<0:=by
 rw [YN,List.pairwise_flatMap];refine ⟨fun k _=> ?_,List.Pairwise.imp ?_ (List.pairwise_lt_range (n:=n))⟩
 ·rw [Dm,List.pairwise_flatMap];refine ⟨fun a _=>by unfold Lc;split<;>simp,List.Pairwise.imp ?_ (List.pairwise_lt_range (n:=_))⟩;intro i j hij v hv w hw;have h1:=Ce.1 hv;have h2:=Ce.1 hw;rw [UC];omega
 ·intro i j hij v hv w hw;simp only [Dm,X2,Ce] at hv hw;obtain ⟨_,_,h1⟩:=hv;obtain ⟨_,_,h2⟩:=hw;rw [UC];omega
theorem DL {α:Type} {R:α->α->Prop} (asym: ∀a b,R a b-> ¬R b a): ∀ {l m:List α},l.Pairwise R->m.Pairwise R->(∀v,v∈l↔v∈m)->l=m
 | [],[],_,_,_=>rfl
 | [],b::m,_,_,h=>absurd ((h b).2 Zb) Zb
 | a::l,[],_,_,h=>absurd ((h a).1 Zb) Zb
 | a::l,b::m,hl,hm,h=>by
  rw [List.pairwise_cons] at hl hm
  have e:a=b:=by
   rcases Z5.1 ((h a).1 Zb) with e | e
   ·exact e
   ·rcases Z5.1 ((h b).2 Zb) with e2 | e2
    ·exact e2.symm
    ·exact absurd (hl.1 b e2) (asym _ _ (hm.1 a e))
  subst e;have irr: ¬R a a:=fun h=>asym a a h h;rw [DL asym hl.2 hm.2 fun v=>⟨fun hv=> ?_,fun hv=> ?_⟩]
  ·rcases Z5.1 ((h v).1 (by simp [hv])) with e | e
   ·subst e;exact absurd (hl.1 _ hv) irr
   ·exact e
  ·rcases Z5.1 ((h v).2 (by simp [hv])) with e | e
   ·subst e;exact absurd (hm.1 _ hv) irr
   ·exact e
theorem iA {x:Inst} (hp:Plc x) {m:List Itm} (h1:m.Perm (GE x)) (h2:m.Pairwise fun a b=> ¬EZ b a<0):m=YN x 10:=by
 refine DL (R:=fun a b=>EZ a b<0) (fun a b h k=> ?_) ?_ (KK x 10) fun v=> ?_
 ·rw [UC] at h k;omega
 ·have h3:m.Nodup:=h1.nodup_iff.2 (FI hp);have h4:=List.Pairwise.and h2 h3;refine h4.imp ?_;rintro a b ⟨h5,h6⟩;rw [UC] at h5 ⊢;have: ¬(a.kind=b.kind/\a.a=b.a):=fun h=>h6 (XA.2 h);omega
 ·rw [h1.mem_iff,MY hp,U3]
theorem pG (x:Inst) (hp:Plc x) (ho:x.orders.length<=1000) (ht:0<x.types.length/\x.types.length<=1000) (ha:x.apart.length<=1000) (hb:x.before.length<=1000):PC 31 [.p (Zr x)] (.list false ((YN x 10).map Xe)):=by
 refine ACalls.frozen (S:=2) (n:=(YN x 10).length) Zb ?_;refine (Tw x ho ht ha hb).mono ?_;rintro y H' ⟨m,⟨h1,h2⟩,h3,h4⟩;rw [iA hp h1 h2] at h3 h4;exact ⟨h3,h4⟩
def Lu (l:List Itm) (v:Itm):Int:=match l.findIdx? (fun w=>decide (v=w)) with | some i=>(i:Int) | none=> -1
theorem PE {l:List Itm} {v:Itm} {k:Nat} (hk:k<l.length) (h:v=nth l k) (hno: ∀j,j<k-> ¬v=nth l j):Lu l v=(k:Int):=by
 have:l.findIdx? (fun w=>decide (v=w))=some k:=by
  rw [VC];refine ⟨hk,by rw [<- Zk hk];simpa using h,fun j hj=> ?_⟩;have h2:=hno j hj;rw [Zk Za] at h2;simpa using h2
 simp [Lu,this]
theorem lH {l:List Itm} {v:Itm} (hno: ∀j,j<l.length-> ¬v=nth l j):Lu l v= -1:=by
 have:l.findIdx? (fun w=>decide (v=w))=none:=by
  rw [Ee];intro x hx;obtain ⟨j,hj,rfl⟩:=ZN.1 hx;have:=hno j hj;rw [Zk hj] at this;simpa using this
 simp [Lu,this]
theorem VO {l:List Itm} {v:Itm} :0<=Lu l v↔v∈l:=by
 unfold Lu
 cases h:l.findIdx? (fun w=>decide (v=w)) with
 | none =>
  rw [Ee] at h
  have:v ∉ l:=fun hm=>by simpa using h v hm
  simp [this]
 | some i =>
  rw [VC] at h;obtain ⟨h1,h2,_⟩:=h
  have h3:v=l[i]:=by simpa using h2
  have:v∈l:=by rw [h3];exact JI _
  simp [this]
theorem Ts (l:List Itm) (c:Bool) (v:Itm) (hl:l.length<=1048576):PC 87 [.p (.list c (l.map Xe)),.p (Xe v)] (.int .i64 (Lu l v)):=by
 refine Zc Tryz.func87 rfl Zh9 ?_;simp (disch:=omega) only [Tryz.f87,go_sem,seval];refine Zl [0,3,7] (fun k:Nat=> [(8,.p (.int .i64 k))]) (fun _=> [.cells [.p (.int .i64 v.kind),.p (.int .i64 v.a)]]) (fun k=>k<=l.length/\ ∀j,j<k-> ¬v=nth l j) (fun k=>l.length-k) 0 Zb (Weak.mk ?_) ?_
 ·simp (disch:=omega) only [go_sem,seval]
 ·rintro k ⟨hk,hno⟩;simp (disch:=omega) only [go_sem,seval];refine cD ?_ ?_<;>intro h<;>simp (disch:=omega) only [Sh.out h,go_sem,seval]
  ·have hk2:k<l.length:=Za
   refine Xd ?_;simp (disch:=omega) only [go_sem,seval];refine cD ?_ ?_<;>intro h2<;>simp (disch:=omega) only [Sh.out h2,go_sem,seval]
   ·have:v=nth l k:=by rw [XA];simpa using h2
    rw [PE hk2 this hno]
   ·have: ¬v=nth l k:=by rw [XA];simpa using h2
    exact ⟨k+1,⟨Za,Zp.2 ⟨hno,this⟩⟩,Za,wk⟩
  ·have hkl:k=l.length:=Za
   subst hkl;rw [lH hno]
theorem UD (l:List Itm) (c:Bool) (v:Itm) (hl:l.length<=1048576):PC 58 [.p (.list c (l.map Xe)),.p (Xe v)] (.bool (decide (v∈l))):=by
 refine Zc Tryz.func58 rfl ZhJ ?_;simp (disch:=omega) only [Tryz.f58,go_sem,seval];refine (Ts l c v hl).use ?_;simp (disch:=omega) only [go_sem,seval];simp only [VO]
theorem Gw (l:List Typ) (c:Bool) (hl:l.length<=1048576):ACalls Tryz.prog 63 [.p (.list c (l.map XU))] [] fun y H'=>y= .sl 0 0 l.length l.length/\H'= [.elems 14 (l.map XU)]:=by
 refine Ze [1] Tryz.func63 rfl ZhO ?_;simp (disch:=omega) only [Tryz.f63,go_sem,seval];refine YP (EQ (e:=63) (cl:=c) (xs:=l.map XU) Tryz.underlying26 (by rfl) Zb fun b hb=> ?_);refine Zh [] _ _ _ _ ?_;simp (disch:=omega) only [go_sem,seval];refine cD ?_ ?_<;>intro h<;>simp (disch:=omega) only [Sh.out h,go_sem,seval]
 ·have:l= []:=by simpa using hb h
  subst this;exact ⟨_,_,Weak.nil 0 14 rfl Zb,rfl,rfl⟩
 ·refine Zh [] _ _ _ _ ?_;simp (disch:=omega) only [go_sem,seval];exact we
theorem AN (l:List Ord) (c:Bool) (hl:l.length<=1048576):ACalls Tryz.prog 64 [.p (.list c (l.map eOrd))] [] fun y H'=>y= .sl 0 0 l.length l.length/\H'= [.elems 16 (l.map eOrd)]:=by
 refine Ze [1] Tryz.func64 rfl ZhP ?_;simp (disch:=omega) only [Tryz.f64,go_sem,seval];refine YP (EQ (e:=67) (cl:=c) (xs:=l.map eOrd) Tryz.underlying27 (by rfl) Zb fun b hb=> ?_);refine Zh [] _ _ _ _ (Zd ?_);refine cD ?_ ?_<;>intro h<;>simp (disch:=omega) only [Sh.out h,go_sem,seval]
 ·have:l= []:=by simp_all
  subst this;exact ⟨_,_,Weak.nil 0 16 rfl Zb,rfl,rfl⟩
 ·refine Zh [] _ _ _ _ (Zd ?_);exact we
def YO (l:List (Int×Int)) (w:List Itm) (kind:Int) (k:Nat):List (Int×Int):=(List.range k).flatMap fun (i:Nat)=>if (⟨kind,i⟩:Itm)∈w then [] else [nth l i]
theorem JE (l w kind k):YO l w kind (k+1)=YO l w kind k++if (⟨kind,k⟩:Itm)∈w then [] else [nth l k]:=by simp [YO,X4]
theorem C5 (l w kind): ∀k,(YO l w kind k).length<=k
 | 0=>by simp [YO]
 | k+1=>by
  have:=C5 l w kind k;rw [JE,Zz]
  split<;>simp<;>omega
theorem Hu (l:List (Int×Int)) (w:List Itm) (kind:Int) (c d:Bool) (hl:l.length<=1048576) (hw:w.length<=1048576):PC 67 [.p (.list c (l.map eP)),.p (.list d (w.map Xe)),.p (.int .i64 kind)] (.list false ((YO l w kind l.length).map eP)):=by
 refine ACalls.frozen (S:=2) (n:=(YO l w kind l.length).length) Zb ?_
 suffices hh:ACalls Tryz.prog 67 [.p (.list c (l.map eP)),.p (.list d (w.map Xe)),.p (.int .i64 kind)] [] fun y H'=> ∃m:List (Int×Int),m=YO l w kind l.length/\y= .sl 0 0 m.length m.length/\H'= [.elems 2 (m.map eP)] by
  refine hh.mono ?_;rintro x H' ⟨m,rfl,h1,h2⟩;exact ⟨h1,h2⟩
 refine ZE [2] Tryz.func67 rfl ZhR ?_;simp (disch:=omega) only [Tryz.f67,go_sem,seval];refine Zo (Weak.ofNil 7 2 (by simp (disch:=omega) only [go_sem,seval]) Zb (Weak.refl _ _ _)) ?_;refine Zh [] _ _ _ _ ?_;simp (disch:=omega) only [go_sem,seval];refine Zl [1,2,10,11] (fun q:Nat×List (Int×Int)=> [(7,.sl 0 0 q.2.length q.2.length),(12,.p (.int .i64 q.1))]) (fun q=> [.elems 2 (q.2.map eP)]) (fun q=>q.1<=l.length/\q.2=YO l w kind q.1) (fun q=>l.length-q.1) (0,[]) ⟨Zb,by simp [YO]⟩ (Weak.mk ?_) ?_
 ·simp (disch:=omega) only [go_sem,seval]
 ·rintro ⟨k,m⟩ ⟨hk,hm⟩;simp only at hk hm;have hml:=C5 l w kind k;rw [<- hm] at hml;have hs:=JE l w kind k;simp (disch:=omega) only [go_sem,seval];refine cD ?_ ?_<;>intro h<;>simp (disch:=omega) only [Sh.out h,go_sem,seval]
  ·have hk2:k<l.length:=Za
   refine (UD w d ⟨kind,k⟩ hw).use ?_;simp (disch:=omega) only [go_sem,seval];refine cD ?_ ?_<;>intro h2<;>simp (disch:=omega) only [Sh.out h2,go_sem,seval]
   ·have h3: ¬(⟨kind,k⟩:Itm)∈w:=by simpa using h2
    exact ⟨(k+1,m++ [nth l k]),⟨by simp only;omega,by simp only [hs,h3,Yj,hm]⟩,by simp only;omega,wk⟩
   ·have h3:(⟨kind,k⟩:Itm)∈w:=by simpa using h2
    exact ⟨(k+1,m),⟨by simp only;omega,by simp only [hs,h3,if_true,hm,Yt]⟩,by simp only;omega,wk⟩
  ·have hkl:k=l.length:=Za
   subst hkl;exact ⟨m,hm,0,by simp (disch:=omega) only [go_sem,seval]⟩
def Cn (o:Ord) (kind:Int):Ord :=
 if kind=1 then { o with pick:= { o.pick with cls:=4096 } }
 else if kind=2 then { o with drp:= { o.drp with cls:=4096 } }
 else if kind=4 then { o with skills:=0 }
 else if kind=10 then { o with penalty:=0 }
 else o
theorem Ay {α β:Type} {f:α->β} {l:List α} {i:Nat} {a:α} :(l.map f).set i (f a)=(l.set i a).map f:=by rw [Up]
theorem pY (os:List Ord) (i:Nat) (hi:i<os.length):ACalls Tryz.prog 93 [.ep 0 i 2 os.length] [.elems 16 (os.map eOrd)] fun y H'=>y= .tup []/\H'= [.elems 16 ((os.set i (Cn (nth os i) 1)).map eOrd)]:=by
 refine Ze [] Tryz.func93 rfl tQ ?_;simp (disch:=omega) only [Tryz.f93,go_sem,seval];exact ⟨_,_,Weak.refl _ _ _,rfl,by rw [<- Ay];rfl⟩
theorem pX (os:List Ord) (i:Nat) (hi:i<os.length):ACalls Tryz.prog 93 [.ep 0 i 6 os.length] [.elems 16 (os.map eOrd)] fun y H'=>y= .tup []/\H'= [.elems 16 ((os.set i (Cn (nth os i) 2)).map eOrd)]:=by
 refine Ze [] Tryz.func93 rfl tQ ?_;simp (disch:=omega) only [Tryz.f93,go_sem,seval];exact ⟨_,_,Weak.refl _ _ _,rfl,by rw [<- Ay];rfl⟩
theorem iZ {α:Type} [Inhabited α] {l:List α} {i:Nat} (h:i<l.length):l.set i (nth l i)=l:=by
 rw [Zk h];exact List.set_getElem_self h
theorem Aq (os:List Ord) (i:Nat) (k:Int) (hi:i<os.length):ACalls Tryz.prog 65 [.ep 0 i 0 os.length,.p (.int .i64 k)] [.elems 16 (os.map eOrd)] fun y H'=>y= .tup []/\H'= [.elems 16 ((os.set i (Cn (nth os i) k)).map eOrd)]:=by
 refine Ze [] Tryz.func65 rfl ZhQ ?_;simp (disch:=omega) only [Tryz.f65,go_sem,seval];refine cD ?_ ?_<;>intro h1<;>simp (disch:=omega) only [Sh.out h1,go_sem,seval]
 ·subst h1;refine (pY os i hi).useH ?_;simp (disch:=omega) only [go_sem,seval];exact ⟨_,_,Weak.refl _ _ _,rfl,rfl⟩
 ·refine cD ?_ ?_<;>intro h2<;>simp (disch:=omega) only [Sh.out h2,go_sem,seval]
  ·subst h2;refine (pX os i hi).useH ?_;simp (disch:=omega) only [go_sem,seval];exact ⟨_,_,Weak.refl _ _ _,rfl,rfl⟩
  ·refine cD ?_ ?_<;>intro h3<;>simp (disch:=omega) only [Sh.out h3,go_sem,seval]
   ·subst h3;exact ⟨_,_,Weak.refl _ _ _,rfl,by rw [<- Ay];rfl⟩
   ·refine cD ?_ ?_<;>intro h4<;>simp (disch:=omega) only [Sh.out h4,go_sem,seval]
    ·subst h4;exact ⟨_,_,Weak.refl _ _ _,rfl,by rw [<- Ay];rfl⟩
    ·have:Cn (nth os i) k=nth os i:=by rw [Cn,if_neg h1,if_neg h2,if_neg h3,if_neg h4]
     rw [this,iZ hi];exact ⟨_,_,Weak.refl _ _ _,rfl,rfl⟩
theorem Dt {α:Type} {cs:List α} {j:Nat} {v:α} (h:j<cs.length):List.take 1 (List.drop j (cs.set j v))= [v]:=by
 rw [VD (by simpa using h)];simp
theorem lI {α:Type} {cs:List α} {j:Nat} {v:α} (h:cs[j]? =some v):List.take 1 (List.drop j cs)= [v]:=by
 obtain ⟨h1,h2⟩:=ZQ.1 h;rw [VD h1,h2];simp
theorem Ls {α:Type} : ∀ {cs:List α} {j:Nat},QY cs j []=cs
 | [],_=>rfl
 | _::_,0=>rfl
 | _::_,_+1=>by simp [QY,Ls]
theorem CG {α:Type} : ∀ {cs:List α} {j:Nat} {v:α},QY cs j [v]=cs.set j v
 | [],_,_=>rfl
 | x::l,0,v=>by simp [QY,Ls]
 | x::l,j+1,v=>by simp [QY,CG (cs:=l)]
theorem EB {H:List AM.Obj} {n:Nat} {x x':V} (hx:Dw H n x x'): ∀ {cs:List V} {j:Nat},(∀v∈cs,refB n v=true)->N9 H n (cs.set j x) (cs.set j x')
 | [],_,_=>by simp [N9]
 | y::l,0,h=>⟨hx,Gh l fun j c hc=>h c (X9 _ (Xs hc))⟩
 | y::l,j+1,h=>⟨.inr (.inl ⟨rfl,h y Zb⟩),EB hx fun v hv=>h v (X9 _ hv)⟩
theorem bG (cs:List V) (b:Nat) (l:List Int) (c:Bool) (hb:b+14<=cs.length) (hp: ∀n,∀v∈cs,refB n v=true) (h4:cs[b+4]? =some (.p (.list c (l.map eI)))) (hl:l.length<=1048576):ACalls Tryz.prog 66 [.ptr 0 b,.p (.int .i64 3)] [.cells cs] fun y H'=>y= .tup []/\H'= [.cells (cs.set (b+4) (.p (.list false ((List.replicate l.length (1000:Int)).map eI))))]:=by
 refine Ze [] Tryz.func66 rfl tP ?_;have h5:=lI h4
 have h6:b+4+1<=cs.length:=Za
 simp (disch:=omega) only [Tryz.f66,h5,h6,go_sem,seval];refine ACalls.useF (S:=1) (n:=l.length) (xs:=l.map eI) (Gv l c hl) ?_;simp (disch:=omega) only [h6,CG,Dt,Vk,go_sem,seval];refine Zl [0,20] (fun q:Nat×List Int=> [(21,.p (.int .i64 q.1))]) (fun q=> [.cells (cs.set (b+4) (.sl 1 0 l.length l.length)),.elems 1 (q.2.map eI)]) (fun q=>q.1<=l.length/\q.2=List.replicate q.1 (1000:Int)++l.drop q.1) (fun q=>l.length-q.1) (0,l) Zb (Weak.mk ?_) ?_
 ·simp (disch:=omega) only [h6,CG,Dt,Vk,go_sem,seval];exact EB (by simp (disch:=omega) only [go_sem,seval]) (hp 2)
 ·rintro ⟨k,m⟩ ⟨hk,hm⟩;simp only at hk hm
  have hml:m.length=l.length:=by rw [hm];simp;omega
  rw [<- hml] at hk ⊢
  have hme:(m.map eI).length=m.length:=Zb
  simp (disch:=omega) only [go_sem,seval];refine cD ?_ ?_<;>intro h<;>simp (disch:=omega) only [Sh.out h,go_sem,seval]
  ·have hk2:k<m.length:=Za
   simp (disch:=omega) only [h6,CG,Dt,Vk,go_sem,seval];refine ⟨(k+1,m.set k 1000),⟨by simp only;omega,?_⟩,by simp only;omega,Weak.mk ?_⟩
   ·rw [hm]
    have hkl:k<l.length:=Za
    simp only;rw [Ej _ _ Zb,VD hkl,En,Vj];simp only [Ei,Ai,ZY,ZL,ZD]
   ·simp (disch:=omega) only [iM,ZY,List.headD_cons,go_sem,seval];refine ⟨EB ?_ (hp 2),?_⟩
    ·simp (disch:=omega) only [go_sem,seval]
    ·exact Ay (f:=eI)
  ·have hkl:k=m.length:=Za
   subst hkl
   have hm2:m=List.replicate m.length (1000:Int):=by rw [hml,Uk,Yt] at hm;rw [hml];exact hm
   rw [<- hm2];refine ⟨_,_,?_,rfl,rfl⟩;refine Weak.mk ?_;simp (disch:=omega) only [go_sem,seval];refine EB ?_ (hp 1);simp (disch:=omega) only [go_sem,seval]
theorem Gc (cs:List V) (b:Nat) (k:Int) (j:Nat) (v:Int) (hk:(k=7/\j=8/\v=4096)\/(k=8/\j=9/\v=4096)\/(k=9/\j=1/\v=10)) (hb:b+14<=cs.length) (hp: ∀n,∀v∈cs,refB n v=true):ACalls Tryz.prog 66 [.ptr 0 b,.p (.int .i64 k)] [.cells cs] fun y H'=>y= .tup []/\H'= [.cells (cs.set (b+j) (.p (.int .i64 v)))]:=by
 refine Ze [] Tryz.func66 rfl tP ?_
 have h6:b+j+1<=cs.length:=Za
 rcases hk with ⟨rfl,rfl,rfl⟩ | ⟨rfl,rfl,rfl⟩ | ⟨rfl,rfl,rfl⟩ <;>
 ·simp (disch:=omega) only [Tryz.f66,h6,CG,go_sem,seval];exact ⟨_,_,Weak.refl _ _ _,rfl,rfl⟩
def Du (t:Typ) (kind:Int):Typ :=
 if kind=3 then { t with cap_c:=false,cap:=List.replicate t.cap.length 1000 }
 else if kind=7 then { t with cls:=4096 }
 else if kind=8 then { t with drive:=4096 }
 else if kind=9 then { t with count:=10 }
 else t
theorem G5 {S:Nat} {x' v:PV} {j:Nat} : ∀ {xs:List PV} {i:Nat} (h:i<xs.length),(∀x∈xs,x.cells.length=S)->j<S->x'.cells=(xs[i]).cells.set j v->Vv (xs.set i x')=(Vv xs).set (i*S+j) v
 | [],_,h,_,_,_=>absurd h Zb
 | x::xs,0,_,hS,hj,he=>by
  have hx:=hS x Zb
  simp only [Vv,ZY,Ui,Nat.zero_mul,Xh,List.getElem_cons_zero] at *
  rw [he,List.set_append_left _ _ Za]
 | x::xs,i+1,h,hS,hj,he=>by
  have hx:=hS x Zb;have:=G5 (xs:=xs) (i:=i) (by simpa using h) (fun y hy=>hS y (by simp [hy])) hj (by simpa using he)
  simp only [Vv,ZK,Ui] at *
  rw [this,Ej _ _ (by rw [hx,Xx];omega),hx]
  congr 2
  rw [Xx];omega
theorem QA (ts:List Typ) (i:Nat) (k:Int) (hk:k=3\/k=7\/k=8\/k=9) (hi:i<ts.length) (hc:(nth ts i).cap.length<=1048576) {H:List AM.Obj} {o:Nat} (hH:H[o]? =some (.elems 14 (ts.map XU))):ACalls Tryz.prog 66 [.ep o i 0 ts.length,.p (.int .i64 k)] H fun y H'=>y= .tup []/\H'=H.set o (.elems 14 ((ts.set i (Du (nth ts i) k)).map XU)):=by
 have hS: ∀(us:List Typ),∀x∈us.map XU,x.cells.length=14:=fun us x hx=>by
  obtain ⟨t,_,rfl⟩:=XO.1 hx
  rfl
 have hlen:(ts.map XU).length=ts.length:=Zb
 have hg:=Zk hi
 have main: ∀(j:Nat) (v:PV),j<14->(XU (Du (nth ts i) k)).cells=(XU (nth ts i)).cells.set j v->(∀cs:List V,i*14+14<=cs.length->(∀n,∀v∈cs,refB n v=true)->cs[i*14+4]? =some (.p (.list (nth ts i).cap_c ((nth ts i).cap.map eI)))->ACalls Tryz.prog 66 [.ptr 0 (i*14),.p (.int .i64 k)] [.cells cs] fun y H'=>y= .tup []/\H'= [.cells (cs.set (i*14+j) (.p v))]) ->
   ACalls Tryz.prog 66 [.ep o i 0 ts.length,.p (.int .i64 k)] H fun y H'=>y= .tup []/\H'=H.set o (.elems 14 ((ts.set i (Du (nth ts i) k)).map XU)):=fun j v hj he h=>by
  rw [<- hlen];refine ACalls.atF (S:=14) (ps:= [.int .i64 k]) hH (hS _) (hS _) (fun sp=> ?_) Zb;have hfl:=K3 (hS ts);have h4:(Vv (ts.map XU))[i*14+4]? =some (.list (nth ts i).cap_c ((nth ts i).cap.map eI)):=CZ (S:=14) (hS ts) i (XU (nth ts i)) 4 _ (by rw [Xf,QO hi,hg];rfl) rfl;have h4l:=(ZQ.1 h4).1;refine (h _ (by simp [hfl];omega) (fun n v hv=> ?_) ?_).mono ?_
  ·rcases Xg.1 hv with hv | hv
   ·obtain ⟨y,_,rfl⟩:=XO.1 hv
    rfl
   ·rw [List.eq_of_mem_replicate hv];rfl
  ·rw [YS (by simpa using h4l),Xf,h4];rfl
  ·rintro y H' ⟨h1,rfl⟩;refine ⟨h1,List.replicate sp .junk,Zb,?_⟩;have hf:=G5 (S:=14) (x':=XU (Du (nth ts i) k)) (v:=v) (j:=j) (xs:=ts.map XU) (i:=i) (by simpa using hi) (hS ts) hj (by rw [B7,<- hg];exact he);rw [Ay] at hf;rw [hf,Up,List.set_append_left _ _ (by simp [hfl];omega)]
 rcases hk with rfl | rfl | rfl | rfl
 ·exact main 4 _ Za rfl fun cs h1 h2 h3=>bG cs _ _ _ h1 h2 h3 hc
 ·exact main 8 _ Za rfl fun cs h1 h2 _=>Gc cs _ 7 8 4096 Zb h1 h2
 ·exact main 9 _ Za rfl fun cs h1 h2 _=>Gc cs _ 8 9 4096 Zb h1 h2
 ·exact main 1 _ Za rfl fun cs h1 h2 _=>Gc cs _ 9 1 10 Zb h1 h2
structure ISz (x:Inst):Prop where
 plc:Plc x
 ord:x.orders.length<=1000
 typ0:0<x.types.length
 typ:x.types.length<=1000
 ap:x.apart.length<=1000
 be:x.before.length<=1000
theorem V4 {x:Inst} (h:ISz x):(YN x 10).length<=1048576:=by
 have e:(YN x 10).Perm (GE x):=by
  refine (List.perm_ext_iff_of_nodup ?_ (FI h.plc)).2 fun v=>by rw [U3,MY h.plc]
  exact (KK x 10).imp fun {a b} hh e=>by subst e;rw [UC] at hh;omega
 rw [e.length_eq];have h1:=BS x x.orders.length;have h2:=D7 (k:=x.types.length);have h3:=IK x x.apart.length;have h4:=IM x x.before.length;have:=h.ord;have:=h.typ;have:=h.ap;have:=h.be;simp only [GE,Zz];omega
theorem IN (x:Inst) (h:ISz x):PC 31 [.p (Zr x)] (.list false ((YN x 10).map Xe)):=pG x h.plc h.ord ⟨h.typ0,h.typ⟩ h.ap h.be
theorem Rv (x:Inst) (h:ISz x) (v:Itm):PC 29 [.p (Zr x),.p (Xe v)] (.bool (Yf x v)):=by
 refine Zc Tryz.func29 rfl Zhk ?_;simp (disch:=omega) only [Tryz.f29,go_sem,seval];refine Xd ?_;simp (disch:=omega) only [go_sem,seval];refine Zn (IN x h) ?_;simp (disch:=omega) only [go_sem,seval];refine Zn (UD (YN x 10) false v (V4 h)) ?_;simp (disch:=omega) only [go_sem,seval];simp [U3]
theorem J0 (o:Ord) (k:Int) (hk:k=1\/k=2\/k=4\/k=10):PC 57 [.p (eOrd o),.p (.int .i64 k)] (.bool (Df o k)):=by
 refine Zc Tryz.func57 rfl ZhI ?_;rcases hk with rfl | rfl | rfl | rfl
 ·simp (disch:=omega) only [Tryz.f57,Df,go_sem,seval]
 ·simp (disch:=omega) only [Tryz.f57,Df,go_sem,seval]
 ·simp (disch:=omega) only [Tryz.f57,Df,go_sem,seval]
 ·simp (disch:=omega) only [Tryz.f57,Df,go_sem,seval]
theorem U7 (x:Inst) (i:Int) (hl:x.orders.length<=1048576):PC 56 [.p (Zr x),.p (.int .i64 i)] (.bool (Uy x i)):=by
 refine Zc Tryz.func56 rfl ZhH ?_;simp (disch:=omega) only [Tryz.f56,go_sem,seval];refine gT ?_ ?_<;>intro h<;>simp (disch:=omega) only [Sh.out h,go_sem,seval]
 ·refine gT ?_ ?_<;>intro h2<;>simp (disch:=omega) only [Sh.out h2,go_sem,seval]
  ·simp [Uy,h,h2]
  ·simp [Uy,h2]
 ·simp [Uy,h]
theorem FS (x:Inst) (h:ISz x) (v:Itm):PC 28 [.p (Zr x),.p (Xe v)] (.bool (Yf x v)):=by
 have s1:=h.ord;have s2:=h.typ;have s3:=h.ap;have s4:=h.be;refine Zc Tryz.func28 rfl Zhj ?_;obtain ⟨k,a⟩:=v
 have gO: ∀k:Int,(k=1\/k=2\/k=4\/k=10)->Yf x ⟨k,a⟩=(Uy x a&&Df (nth x.orders a.toNat) k):=fun k h=>by simp only [Yf];rw [if_pos h]
 by_cases h1:k=1\/k=2\/k=4\/k=10
 ·rw [gO k h1];rcases h1 with rfl | rfl | rfl | rfl
  ·simp (disch:=omega) only [Tryz.f28,go_sem,seval];refine Xd ?_;simp (disch:=omega) only [go_sem,seval];refine Zn (U7 x a Za) ?_;simp (disch:=omega) only [go_sem,seval];refine gT ?_ ?_<;>intro h<;>simp (disch:=omega) only [Sh.out h,go_sem,seval]
   ·have h2:0<=a/\a<(x.orders.length:Int):=by simp only [Uy,Zw,Zs] at h;omega
    simp (disch:=omega) only [go_sem,seval];refine Zn (J0 (nth x.orders a.toNat) 1 Za) ?_;simp (disch:=omega) only [go_sem,seval];simp [h]
  ·simp (disch:=omega) only [Tryz.f28,go_sem,seval];refine Xd ?_;simp (disch:=omega) only [go_sem,seval];refine Zn (U7 x a Za) ?_;simp (disch:=omega) only [go_sem,seval];refine gT ?_ ?_<;>intro h<;>simp (disch:=omega) only [Sh.out h,go_sem,seval]
   ·have h2:0<=a/\a<(x.orders.length:Int):=by simp only [Uy,Zw,Zs] at h;omega
    simp (disch:=omega) only [go_sem,seval];refine Zn (J0 (nth x.orders a.toNat) 2 Za) ?_;simp (disch:=omega) only [go_sem,seval];simp [h]
  ·simp (disch:=omega) only [Tryz.f28,go_sem,seval];refine Xd ?_;simp (disch:=omega) only [go_sem,seval];refine Zn (U7 x a Za) ?_;simp (disch:=omega) only [go_sem,seval];refine gT ?_ ?_<;>intro h<;>simp (disch:=omega) only [Sh.out h,go_sem,seval]
   ·have h2:0<=a/\a<(x.orders.length:Int):=by simp only [Uy,Zw,Zs] at h;omega
    simp (disch:=omega) only [go_sem,seval];refine Zn (J0 (nth x.orders a.toNat) 4 Za) ?_;simp (disch:=omega) only [go_sem,seval];simp [h]
  ·simp (disch:=omega) only [Tryz.f28,go_sem,seval];refine Xd ?_;simp (disch:=omega) only [go_sem,seval];refine Zn (U7 x a Za) ?_;simp (disch:=omega) only [go_sem,seval];refine gT ?_ ?_<;>intro h<;>simp (disch:=omega) only [Sh.out h,go_sem,seval]
   ·have h2:0<=a/\a<(x.orders.length:Int):=by simp only [Uy,Zw,Zs] at h;omega
    simp (disch:=omega) only [go_sem,seval];refine Zn (J0 (nth x.orders a.toNat) 10 Za) ?_;simp (disch:=omega) only [go_sem,seval];simp [h]
 ·by_cases h2:k=3\/k=7\/k=8\/k=9
  ·rcases h2 with rfl | rfl | rfl | rfl
   ·simp (disch:=omega) only [Tryz.f28,go_sem,seval];refine gT ?_ ?_<;>intro hq<;>simp (disch:=omega) only [Sh.out hq,go_sem,seval]
    ·simp [Yf,hq]
    ·simp [Yf,hq]
   ·simp (disch:=omega) only [Tryz.f28,go_sem,seval];refine gT ?_ ?_<;>intro hq<;>simp (disch:=omega) only [Sh.out hq,go_sem,seval]
    ·simp [Yf,hq]
    ·simp [Yf,hq]
   ·simp (disch:=omega) only [Tryz.f28,go_sem,seval];refine gT ?_ ?_<;>intro hq<;>simp (disch:=omega) only [Sh.out hq,go_sem,seval]
    ·simp [Yf,hq]
    ·simp [Yf,hq]
   ·simp (disch:=omega) only [Tryz.f28,go_sem,seval];refine gT ?_ ?_<;>intro hq<;>simp (disch:=omega) only [Sh.out hq,go_sem,seval]
    ·simp [Yf,hq]
    ·simp [Yf,hq]
  ·by_cases h3:k=5
   ·subst h3;simp (disch:=omega) only [Tryz.f28,go_sem,seval];refine Xd ?_;simp (disch:=omega) only [go_sem,seval];refine gT ?_ ?_<;>intro hq<;>simp (disch:=omega) only [Sh.out hq,go_sem,seval]
    ·refine gT ?_ ?_<;>intro hq2<;>simp (disch:=omega) only [Sh.out hq2,go_sem,seval]
     ·refine Zn (U7 x (nth x.apart a.toNat).1 Za) ?_;simp (disch:=omega) only [go_sem,seval];refine gT ?_ ?_<;>intro hq3<;>simp (disch:=omega) only [Sh.out hq3,go_sem,seval]
      ·refine Zn (U7 x (nth x.apart a.toNat).2 Za) ?_;simp (disch:=omega) only [go_sem,seval];simp [Yf,hq,hq2,hq3]
      ·simp [Yf,hq3]
     ·simp [Yf,hq2]
    ·simp [Yf,hq]
   ·by_cases h4:k=6
    ·subst h4;simp (disch:=omega) only [Tryz.f28,go_sem,seval];refine Xd ?_;simp (disch:=omega) only [go_sem,seval];refine gT ?_ ?_<;>intro hq<;>simp (disch:=omega) only [Sh.out hq,go_sem,seval]
     ·refine gT ?_ ?_<;>intro hq2<;>simp (disch:=omega) only [Sh.out hq2,go_sem,seval]
      ·refine Zn (U7 x (nth x.before a.toNat).2 Za) ?_;simp (disch:=omega) only [go_sem,seval];simp [Yf,hq,hq2]
      ·simp [Yf,hq2]
     ·simp [Yf,hq]
    ·have e1: ¬k=1:=Za
     have e2: ¬k=2:=Za
     have e3: ¬k=3:=Za
     have e4: ¬k=4:=Za
     have e7: ¬k=7:=Za
     have e8: ¬k=8:=Za
     have e9: ¬k=9:=Za
     have e10: ¬k=10:=Za
     simp (disch:=omega) only [Tryz.f28,Yf,e1,e2,e3,e4,h3,h4,e7,e8,e9,e10,go_sem,seval]
theorem XI (l:List Itm) (c:Bool) (v:Itm) (hl:l.length<=1048576):PC 79 [.p (.list c (l.map Xe)),.p (Xe v)] (.int .i64 (Lu l v)):=by
 refine Zc Tryz.func79 rfl Zh1 ?_;simp (disch:=omega) only [Tryz.f79,go_sem,seval];refine Zl [0,3] (fun k:Nat=> [(5,.p (.int .i64 k))]) (fun _=> [.cells [.p (.int .i64 v.kind),.p (.int .i64 v.a)]]) (fun k=>k<=l.length/\ ∀j,j<k-> ¬v=nth l j) (fun k=>l.length-k) 0 Zb (Weak.mk ?_) ?_
 ·simp (disch:=omega) only [go_sem,seval]
 ·rintro k ⟨hk,hno⟩;simp (disch:=omega) only [go_sem,seval];refine cD ?_ ?_<;>intro h<;>simp (disch:=omega) only [Sh.out h,go_sem,seval]
  ·have hk2:k<l.length:=Za
   refine Xd ?_;simp (disch:=omega) only [go_sem,seval];refine cD ?_ ?_<;>intro h2<;>simp (disch:=omega) only [Sh.out h2,go_sem,seval]
   ·have:v=nth l k:=by rw [XA];first | omega | (simp at h2;omega)
    rw [PE hk2 this hno]
   ·have: ¬v=nth l k:=by rw [XA];first | omega | (simp at h2;omega)
    exact ⟨k+1,⟨Za,Zp.2 ⟨hno,this⟩⟩,Za,wk⟩
  ·have hkl:k=l.length:=Za
   subst hkl;rw [lH hno]
theorem Sj {l:List Itm} {v:Itm} :Lu l v<0↔ ¬v∈l:=by rw [<- VO];omega
theorem FU (l:List (Int×Int)) (w:List Itm) (kind:Int) (c d:Bool) (hl:l.length<=1048576) (hw:w.length<=1048576):PC 80 [.p (.list c (l.map eP)),.p (.list d (w.map Xe)),.p (.int .i64 kind)] (.list false ((YO l w kind l.length).map eP)):=by
 refine ACalls.frozen (S:=2) (n:=(YO l w kind l.length).length) Zb ?_
 suffices hh:ACalls Tryz.prog 80 [.p (.list c (l.map eP)),.p (.list d (w.map Xe)),.p (.int .i64 kind)] [] fun y H'=> ∃m:List (Int×Int),m=YO l w kind l.length/\y= .sl 0 0 m.length m.length/\H'= [.elems 2 (m.map eP)] by
  refine hh.mono ?_;rintro x H' ⟨m,rfl,h1,h2⟩;exact ⟨h1,h2⟩
 refine ZE [2] Tryz.func80 rfl Zh2 ?_;simp (disch:=omega) only [Tryz.f80,go_sem,seval];refine Zo (Weak.ofNil 7 2 (by simp (disch:=omega) only [go_sem,seval]) Zb (Weak.refl _ _ _)) ?_;refine Zh [] _ _ _ _ ?_;simp (disch:=omega) only [go_sem,seval];refine Zl [0,1,2] (fun q:Nat×List (Int×Int)=> [(7,.sl 0 0 q.2.length q.2.length),(8,.p (.int .i64 q.1))]) (fun q=> [.elems 2 (q.2.map eP)]) (fun q=>q.1<=l.length/\q.2=YO l w kind q.1) (fun q=>l.length-q.1) (0,[]) ⟨Zb,by simp [YO]⟩ (Weak.mk ?_) ?_
 ·simp (disch:=omega) only [go_sem,seval]
 ·rintro ⟨k,m⟩ ⟨hk,hm⟩;simp only at hk hm;have hml:=C5 l w kind k;rw [<- hm] at hml;have hs:=JE l w kind k;simp (disch:=omega) only [go_sem,seval];refine cD ?_ ?_<;>intro h<;>simp (disch:=omega) only [Sh.out h,go_sem,seval]
  ·have hk2:k<l.length:=Za
   refine (XI w d ⟨kind,k⟩ hw).use ?_;simp (disch:=omega) only [go_sem,seval];refine cD ?_ ?_<;>intro h2<;>simp (disch:=omega) only [Sh.out h2,go_sem,seval]
   ·have h3: ¬(⟨kind,k⟩:Itm)∈w:=Sj.1 h2;exact ⟨(k+1,m++ [nth l k]),⟨by simp only;omega,by simp only [hs,h3,Yj,hm]⟩,by simp only;omega,wk⟩
   ·have h3:(⟨kind,k⟩:Itm)∈w:=by rw [Sj,Z4] at h2;exact h2
    exact ⟨(k+1,m),⟨by simp only;omega,by simp only [hs,h3,if_true,hm,Yt]⟩,by simp only;omega,wk⟩
  ·have hkl:k=l.length:=Za
   subst hkl;exact ⟨m,hm,0,by simp (disch:=omega) only [go_sem,seval]⟩
theorem FO (x k): ∀n,(Dm x k n).length<=n
 | 0=>by simp [Dm]
 | n+1=>by
  have h1:=FO x k n
  have h2:(Lc x k n).length<=1:=by unfold Lc;split<;>simp
  rw [HB,Zz];omega
theorem Hz (x): ∀n,(YN x n).length<=n*Kz x
 | 0=>by simp [YN]
 | n+1=>by
  have h1:=Hz x n;have h2:=FO x n (Kz x);rw [HA,Zz,Xx];omega
theorem No (x:Inst) (h:ISz x):PC 10 [.p (Zr x)] (.list false ((YN x 10).map Xe)):=by
 have s1:=h.ord;have s2:=h.typ;have s3:=h.ap;have s4:=h.be;have hrl:=V4 h;refine ACalls.frozen (S:=2) (n:=(YN x 10).length) Zb ?_
 suffices hh:ACalls Tryz.prog 10 [.p (Zr x)] [] fun y H'=> ∃m:List Itm,m=YN x 10/\y= .sl 0 0 m.length m.length/\H'= [.elems 2 (m.map Xe)] by
  refine hh.mono ?_;rintro x H' ⟨m,rfl,h1,h2⟩;exact ⟨h1,h2⟩
 have hm1:Kz x<=1000:=by unfold Kz;omega
 have hmost:max (max (max (x.orders.length:Int) x.types.length) x.apart.length) x.before.length=(Kz x:Int):=by unfold Kz;omega
 refine ZE [1] Tryz.func10 rfl Zg7 ?_;simp (disch:=omega) only [Tryz.f10,go_sem,seval];refine YP (nT 12 (by rfl) (by rfl) ?_);simp (disch:=omega) only [go_sem,seval];refine ⟨_,T8 rfl rfl rfl rfl rfl,?_⟩;rw [hmost];have hrn:=Hz x;have hsK:=HB x;have hsI:=HA x;have hlK:=FO x;generalize Kz x=M at hm1 hrn hsI;refine Zh [3] _ _ _ _ ?_;simp (disch:=omega) only [go_sem,seval];refine Zo (Weak.ofNil 4 2 (by simp (disch:=omega) only [go_sem,seval]) Zb (Weak.refl _ _ _)) ?_;refine Zh [] _ _ _ _ ?_
 simp (disch:=omega) only [go_sem,seval];refine Zl [1,3] (fun q:Nat×List Itm=> [(4,.sl 1 0 q.2.length q.2.length),(5,.p (.int .i64 (q.1+1)))]) (fun q=> [Zf x,.elems 2 (q.2.map Xe)]) (fun q=>q.1<=10/\q.2=YN x q.1) (fun q=>10-q.1) (0,[]) ⟨Zb,by simp [YN]⟩ (Weak.mk ?_) ?_
 ·simp (disch:=omega) only [Zf,go_sem,seval]
 ·rintro ⟨k,m⟩ ⟨hk,hm⟩;simp only at hk hm;have hml:=hrn k;rw [<- hm] at hml;have hml2:k*M<=10*1000:=Ad hk hm1;simp (disch:=omega) only [Zf,go_sem,seval];refine cD ?_ ?_<;>intro hq<;>simp (disch:=omega) only [Sh.out hq,go_sem,seval]
  ·have hk2:k<10:=Za
   refine Zl [1,3,5] (fun q:Nat×List Itm=> [(4,.sl 1 0 q.2.length q.2.length),(6,.p (.int .i64 q.1))]) (fun q=> [Zf x,.elems 2 (q.2.map Xe)]) (fun q=>q.1<=M/\q.2=m++Dm x k q.1) (fun q=>M-q.1) (0,m) ⟨Zb,by simp [Dm]⟩ (Weak.mk ?_) ?_
   ·simp (disch:=omega) only [Zf,go_sem,seval]
   ·rintro ⟨a,m2⟩ ⟨ha,hm2⟩;simp only at ha hm2;have hm2l:=hlK k a
    have hm2l2:m2.length=m.length+(Dm x k a).length:=by rw [hm2,Zz]
    have hs:=hsK k a;simp (disch:=omega) only [Zf,go_sem,seval];refine cD ?_ ?_<;>intro h2<;>simp (disch:=omega) only [Sh.out h2,go_sem,seval]
    ·have ha2:a<M:=Za
     refine (FS x h ⟨(k:Int)+1,a⟩).use ?_;simp (disch:=omega) only [go_sem,seval];refine cD ?_ ?_<;>intro h3<;>simp (disch:=omega) only [Sh.out h3,go_sem,seval]
     ·exact ⟨(a+1,m2++ [⟨(k:Int)+1,a⟩]),⟨by simp only;omega,by simp only [hs,Lc,h3,if_true,hm2,Vj]⟩,by simp only;omega,Weak.mk (by simp (disch:=omega) only [Zf,go_sem,seval])⟩
     ·exact ⟨(a+1,m2),⟨by simp only;omega,by simp [hs,Lc,h3,hm2]⟩,by simp only;omega,Weak.mk (by simp (disch:=omega) only [Zf,go_sem,seval])⟩
    ·have haM:a=M:=Za
     subst haM;exact ⟨(k+1,m2),⟨by simp only;omega,by simp only [hsI,hm2,hm]⟩,by simp only;omega,Weak.mk (by simp (disch:=omega) only [Zf,go_sem,seval])⟩
  ·have hk10:k=10:=Za
   subst hk10;exact ⟨m,hm,1,by simp (disch:=omega) only [Zf,go_sem,seval]⟩
def QT (o:Ord) (at':Int) (l:List Itm):Ord:= { o with
 pick:= { o.pick with cls:=if (⟨1,at'⟩:Itm)∈l then 4096 else o.pick.cls }
 drp:= { o.drp with cls:=if (⟨2,at'⟩:Itm)∈l then 4096 else o.drp.cls }
 skills:=if (⟨4,at'⟩:Itm)∈l then 0 else o.skills
 penalty:=if (⟨10,at'⟩:Itm)∈l then 0 else o.penalty }
def V7 (t:Typ) (at':Int) (l:List Itm):Typ:= { t with
 cap_c:=if (⟨3,at'⟩:Itm)∈l then false else t.cap_c
 cap:=if (⟨3,at'⟩:Itm)∈l then List.replicate t.cap.length 1000 else t.cap
 cls:=if (⟨7,at'⟩:Itm)∈l then 4096 else t.cls
 drive:=if (⟨8,at'⟩:Itm)∈l then 4096 else t.drive
 count:=if (⟨9,at'⟩:Itm)∈l then 10 else t.count }
theorem jI (o a):QT o a []=o:=by simp [QT]
theorem lK (o a):V7 o a []=o:=by simp [V7]
theorem Hs (o a l) (v:Itm):QT o a (l++ [v])=if v.a=a then Cn (QT o a l) v.kind else QT o a l:=by
 obtain ⟨k,b⟩:=v
 by_cases h:b=a
 ·subst h
  by_cases h1:k=1
  ·subst h1;simp [QT,Cn,XA]
  ·by_cases h2:k=2
   ·subst h2;simp [QT,Cn,XA]
   ·by_cases h4:k=4
    ·subst h4;simp [QT,Cn,XA]
    ·by_cases h10:k=10
     ·subst h10;simp [QT,Cn,XA]
     ·have e1: ¬ 1=k:=fun h=>h1 h.symm;have e2: ¬ 2=k:=fun h=>h2 h.symm;have e4: ¬ 4=k:=fun h=>h4 h.symm;have e10: ¬ 10=k:=fun h=>h10 h.symm;simp [QT,Cn,XA,h1,h2,h4,h10,e1,e2,e4,e10]
 ·have e: ¬a=b:=fun h2=>h h2.symm;simp [QT,XA,h,e]
theorem HL (o a l) (v:Itm):V7 o a (l++ [v])=if v.a=a then Du (V7 o a l) v.kind else V7 o a l:=by
 obtain ⟨k,b⟩:=v
 by_cases h:b=a
 ·subst h
  by_cases h1:k=3
  ·subst h1;simp [V7,Du,XA];split<;>simp
  ·by_cases h2:k=7
   ·subst h2;simp [V7,Du,XA]
   ·by_cases h4:k=8
    ·subst h4;simp [V7,Du,XA]
    ·by_cases h10:k=9
     ·subst h10;simp [V7,Du,XA]
     ·have e1: ¬ 3=k:=fun h=>h1 h.symm;have e2: ¬ 7=k:=fun h=>h2 h.symm;have e4: ¬ 8=k:=fun h=>h4 h.symm;have e10: ¬ 9=k:=fun h=>h10 h.symm;simp [V7,Du,XA,h1,h2,h4,h10,e1,e2,e4,e10]
 ·have e: ¬a=b:=fun h2=>h h2.symm;simp [V7,XA,h,e]
def XH (os:List Ord) (w:List Itm):List Ord:=(List.range os.length).map fun (i:Nat)=>QT (nth os i) i w
def Xq (ts:List Typ) (w:List Itm):List Typ:=(List.range ts.length).map fun (i:Nat)=>V7 (nth ts i) i w
theorem UR (os w):(XH os w).length=os.length:=by simp [XH]
theorem VL (os w):(Xq os w).length=os.length:=by simp [Xq]
theorem AS {α:Type} [Inhabited α] {f:Nat->α} {n i:Nat} (h:i<n):nth ((List.range n).map f) i=f i:=by
 rw [Zk (by simpa using h)];simp
theorem Yc {os w i} (h:i<os.length):nth (XH os w) i=QT (nth os i) i w:=AS h
theorem UT {os w i} (h:i<os.length):nth (Xq os w) i=V7 (nth os i) i w:=AS h
theorem AQ {α:Type} [Inhabited α] (l:List α):(List.range l.length).map (fun i=>nth l i)=l:=by
 apply QR
 ·simp
 ·intro i h1 h2;simp [Zk h2]
theorem TY (os):XH os []=os:=by simp only [XH,jI];exact AQ os
theorem bE (os):Xq os []=os:=by simp only [Xq,lK];exact AQ os
theorem O9 {o:Ord} {k:Int} (h:k=3\/k=7\/k=8\/k=9\/k=5\/k=6):Cn o k=o:=by
 unfold Cn;rw [if_neg Za,if_neg Za,if_neg Za,if_neg Za]
theorem PG {o:Typ} {k:Int} (h:k=1\/k=2\/k=4\/k=10\/k=5\/k=6):Du o k=o:=by
 unfold Du;rw [if_neg Za,if_neg Za,if_neg Za,if_neg Za]
theorem Ar {os:List Ord} {w:List Itm} {v:Itm} {i:Nat} (hi:i<os.length) (hv:v.a=(i:Int)):(XH os w).set i (Cn (nth (XH os w) i) v.kind)=XH os (w++ [v]):=by
 rw [Yc hi];apply QR
 ·simp [XH]
 ·intro j h1 h2
  have hj:j<os.length:=by simpa [XH] using h2
  rw [List.getElem_set];simp only [XH,B7,List.getElem_range,Hs,hv]
  by_cases e:i=j
  ·subst e;simp
  ·have: ¬(i:Int)=j:=Za
   simp [e,this]
theorem AB {os:List Typ} {w:List Itm} {v:Itm} {i:Nat} (hi:i<os.length) (hv:v.a=(i:Int)):(Xq os w).set i (Du (nth (Xq os w) i) v.kind)=Xq os (w++ [v]):=by
 rw [UT hi];apply QR
 ·simp [Xq]
 ·intro j h1 h2
  have hj:j<os.length:=by simpa [Xq] using h2
  rw [List.getElem_set];simp only [Xq,B7,List.getElem_range,HL,hv]
  by_cases e:i=j
  ·subst e;simp
  ·have: ¬(i:Int)=j:=Za
   simp [e,this]
theorem V0 {os:List Ord} {w:List Itm} {v:Itm} (h:v.kind=3\/v.kind=7\/v.kind=8\/v.kind=9\/v.kind=5\/v.kind=6):XH os (w++ [v])=XH os w:=by
 simp only [XH,Hs,O9 h,ite_self]
theorem V9 {os:List Typ} {w:List Itm} {v:Itm} (h:v.kind=1\/v.kind=2\/v.kind=4\/v.kind=10\/v.kind=5\/v.kind=6):Xq os (w++ [v])=Xq os w:=by
 simp only [Xq,HL,PG h,ite_self]
def Wr (x:Inst) (l:List Itm):Inst:=⟨x.net,false,Xq x.types l,false,XH x.orders l,false,YO x.apart l 5 x.apart.length,false,YO x.before l 6 x.before.length⟩
def Ya (x:Inst) (l:List Itm) (i:Nat):Int:=if Yf x (nth l i)=true then (if nth l i∈l.take i then 6 else 0) else 7
def WK (x:Inst) (l:List Itm):Int:=(((List.range l.length).map (Ya x l)).find? fun e=>decide (e≠0)).getD 0
theorem UE {x:Inst} {l:List Itm} {k:Nat} (hk:k<l.length) (h0: ∀j,j<k->Ya x l j=0) (h:Ya x l k≠0):WK x l=Ya x l k:=by
 have:((List.range l.length).map (Ya x l)).find? (fun e=>decide (e≠0))=some (Ya x l k):=by
  rw [Eb];refine ⟨by simpa using h,k,by simpa using hk,Zb,fun j hj=> ?_⟩;have:=h0 j hj;simp [this]
 rw [WK,this];rfl
theorem BH {x:Inst} {l:List Itm} (h: ∀j,j<l.length->Ya x l j=0):WK x l=0:=by
 have:((List.range l.length).map (Ya x l)).find? (fun e=>decide (e≠0))=none:=by
  rw [JF];intro e he;obtain ⟨j,hj,rfl⟩:=XO.1 he;have:=h j (by simpa using hj);simp [this]
 rw [WK,this];rfl
theorem Wh {x l i} :Ya x l i=0↔Yf x (nth l i)=true/\nth l i ∉ l.take i:=by
 unfold Ya
 split
 ·split<;>simp_all
 ·simp_all
theorem Te {x:Inst} {l:List Itm} :WK x l=0↔ ∀j,j<l.length->Ya x l j=0:=by
 refine ⟨fun h j hj=> ?_,BH⟩
 induction j using Nat.strongRecOn with
 | ind j ih =>
  by_cases h2:Ya x l j=0
  ·exact h2
  ·rw [UE hj (fun i hi=>ih i hi Za) h2] at h;exact h
theorem Mm {x:Inst} {l:List Itm} :WK x l=0↔(∀v∈l,Yf x v=true)/\l.Nodup:=by
 rw [Te]
 constructor
 ·intro h;refine ⟨fun v hv=> ?_,?_⟩
  ·obtain ⟨j,hj,rfl⟩:=ZN.1 hv;have:=(Wh.1 (h j hj)).1;rwa [Zk hj] at this
  ·rw [List.Nodup,Kv];intro i j hi hj hij e;have:=(Wh.1 (h j hj)).2;rw [Zk hj,<- e] at this;exact this (ZN.2 ⟨i,by simp;omega,Zb⟩)
 ·rintro ⟨h1,h2⟩ j hj;refine Wh.2 ⟨h1 _ (Zu hj),fun hm=> ?_⟩;obtain ⟨i,hi,e⟩:=ZN.1 hm
  have hi2:i<j:=by simp at hi;omega
  rw [List.Nodup,Kv] at h2;refine h2 i j Za hj hi2 ?_;rw [Zk hj] at e;rw [<- e];simp
def AJ (x:Inst) (l:List Itm):Inst:=if WK x l=0 then Wr x l else zeroI
theorem pB {n word sm l i} :Rr n word sm l i= []↔TP n (nth l i)=true/\(l.take i).any (sm (nth l i))=false:=by
 unfold Rr;split<;>(try split)<;>simp_all
theorem Mx {n word sm l} :Q8 n word sm l l.length= []↔l.length<=16/\(∀p∈l,TP n p=true)/\l.Pairwise (fun p q=>sm q p=false):=by
 rw [Q8,Ug,List.flatMap_eq_nil_iff];refine and_congr (by unfold MF;split<;>simp<;>omega) ?_;simp only [ZR,pB]
 constructor
 ·intro h;refine ⟨fun p hp=> ?_,?_⟩
  ·obtain ⟨i,hi,rfl⟩:=ZN.1 hp;have:=(h i hi).1;rwa [Zk hi] at this
  ·rw [Kv];intro i j hi hj hij;have:=(h j hj).2;rw [WD,Zk hj] at this;have h2:=this l[i] (ZN.2 ⟨i,by simp;omega,Zb⟩);simpa using h2
 ·rintro ⟨h1,h2⟩ i hi;refine ⟨h1 _ (Zu hi),?_⟩;rw [WD];intro p hp;obtain ⟨j,hj,rfl⟩:=ZN.1 hp;rw [Kv] at h2
  have hji:j<i:=by simp at hj;omega
  have:=h2 j i Za hi hji;rw [Zk hi,List.getElem_take,this];simp
theorem It {n:Int} {ap be:List (Int×Int)} :chk n ap be= []↔(ap.length<=16/\(∀p∈ap,TP n p=true)/\ap.Pairwise (fun p q=>decide (q=p\/(q.1=p.2/\q.2=p.1))=false))/\(be.length<=16/\(∀p∈be,TP n p=true)/\be.Pairwise (fun p q=>decide (q=p)=false)):=by
 rw [chk,Ug,Mx,Mx]
theorem Hd (l w kind): ∀k,k<=l.length->(YO l w kind k).Sublist (l.take k)
 | 0,_=>by simp [YO]
 | k+1,h=>by
  rw [JE,Xm Za];refine (Hd l w kind k Za).append ?_
  split
  ·simp
  ·rw [Zk Za];exact List.Sublist.refl _
theorem Fl (l w kind):(YO l w kind l.length).Sublist l:=by
 have:=Hd l w kind l.length (ZI _);rwa [X3] at this
theorem JZ {n lo hi:Int} :rng n lo hi=true↔lo<=n/\n<=hi:=by simp [rng]
theorem GU {l:List Int} {d:Int} :Vd l d=true↔(1<=l.length/\l.length<=3)/\(l.length:Int)=d/\ ∀n∈l,0<=n/\n<=1000:=by
 simp only [Vd,Zw,Zs,ZC,JZ]
 constructor
 ·rintro ⟨⟨h1,h2⟩,h3⟩;exact ⟨Za,h2,h3⟩
 ·rintro ⟨h1,h2,h3⟩;exact ⟨⟨Za,h2⟩,h3⟩
theorem CL (t a l):(V7 t a l).cap.length=t.cap.length:=by simp only [V7];split<;>simp
theorem PF {t a l d} (h:Vd t.cap d=true):Vd (V7 t a l).cap d=true:=by
 rw [GU] at h ⊢;rw [CL];refine ⟨h.1,h.2.1,fun n hn=> ?_⟩;simp only [V7] at hn
 split at hn
 ·rw [List.eq_of_mem_replicate hn];omega
 ·exact h.2.2 n hn
theorem BE (ts l):dimsOf (Xq ts l)=dimsOf ts:=by
 unfold dimsOf;rw [VL]
 split
 ·rfl
 ·rw [UT Za,CL]
theorem sC {n:Net} {ts:List Typ} {l:List Itm} {i:Nat} (hi:i<ts.length) (h:Jo n ts i):Jo n (Xq ts l) i:=by
 unfold Jo at h ⊢;rw [UT hi,BE];obtain ⟨⟨⟨⟨⟨⟨⟨⟨h1,h2⟩,h3⟩,h4⟩,h5⟩,h6⟩,h7⟩,h8⟩,h9⟩:=h;refine ⟨⟨⟨⟨⟨⟨⟨⟨h1,fun j hj=> ?_⟩,?_⟩,h4⟩,PF h5⟩,h6⟩,?_⟩,?_⟩,h9⟩
 ·rw [UT Za];exact h2 j hj
 ·simp only [V7];split
  ·rfl
  ·exact h3
 ·simp only [JZ,V7] at h7 ⊢
  split<;>omega
 ·simp only [JZ,V7] at h8 ⊢
  split<;>omega
theorem HI {s:Stp} (h:stpOk s=true) (hp:0<=s.place):stpOk { s with cls:=4096 } =true:=by
 rw [bB] at h ⊢;simp only;omega
theorem ME {x:Inst} {k a:Int} (hk:k=1\/k=2\/k=4\/k=10):Yf x ⟨k,a⟩=true↔Uy x a=true/\Df (nth x.orders a.toNat) k=true:=by
 simp only [Yf];rw [if_pos hk,Zw]
theorem mK {np:Nat} {d ty:Int} {os:List Ord} {l:List Itm} {i:Nat} (hi:i<os.length) (h:OrdOk np d ty os i) (h1:(⟨1,i⟩:Itm)∈l->0<=(nth os i).pick.place) (h2:(⟨2,i⟩:Itm)∈l->0<=(nth os i).drp.place):OrdOk np d ty (XH os l) i:=by
 constructor
 ·rw [Yc hi];exact h.name
 ·intro j hj;rw [Yc hi,Yc Za];exact h.twin j hj
 ·rw [Yc hi];exact h.load
 ·rw [Yc hi];exact h.pick
 ·rw [Yc hi];exact h.drp
 ·rw [Yc hi];exact h.one
 ·rw [Yc hi];simp only [QT];split
  ·rename_i hm;exact HI h.pstp (h1 hm)
  ·exact h.pstp
 ·rw [Yc hi];simp only [QT];split
  ·rename_i hm;exact HI h.dstp (h2 hm)
  ·exact h.dstp
 ·rw [Yc hi];have:=h.skills;simp only [QT];split<;>omega
 ·rw [Yc hi];have:=h.arg;simp only [argOk,Zw,Zs,JZ] at this ⊢;refine ⟨⟨?_,this.1.2⟩,this.2⟩;have:=this.1.1;simp only [QT]
  split<;>omega
theorem PL {x:Inst} {l:List Itm} (h:InstOk x) (hI: ∀v∈l,Yf x v=true):InstOk (Wr x l):=by
 have ht:=h.types;have ho:=h.orders;obtain ⟨⟨a1,a2,a3⟩,b1,b2,b3⟩:=It.1 h.rules;refine ⟨h.net,⟨?_,fun i hi=> ?_⟩,⟨?_,fun i hi=> ?_⟩,?_⟩
 ·show rng (Xq x.types l).length 1 6=true
  rw [VL];exact ht.1
 ·have hi2:i<x.types.length:=by simpa [Wr,VL] using hi
  exact sC hi2 (ht.2 i hi2)
 ·show (XH x.orders l).length<=10
  rw [UR];exact ho.1
 ·have hi2:i<x.orders.length:=by simpa [Wr,UR] using hi
  show OrdOk x.net.places.length (dimsOf (Xq x.types l)) (Xq x.types l).length (XH x.orders l) i
  rw [BE,VL];refine mK hi2 (ho.2 i hi2) (fun hm=> ?_) (fun hm=> ?_)
  ·have:=((ME Za).1 (hI _ hm)).2;simpa [Df] using this
  ·have:=((ME Za).1 (hI _ hm)).2;simpa [Df] using this
 ·show chk ((XH x.orders l).length:Int) (YO x.apart l 5 x.apart.length) (YO x.before l 6 x.before.length)= []
  rw [UR,It];have sa:=Fl x.apart l 5;have sb:=Fl x.before l 6;have la:=sa.length_le;have lb:=sb.length_le;exact ⟨⟨Za,fun p hp=>a2 p (sa.subset hp),a3.sublist sa⟩,⟨Za,fun p hp=>b2 p (sb.subset hp),b3.sublist sb⟩⟩
theorem UF {x:Inst} (h:InstOk x):ISz x:=by
 have hf:=X0 h;have ht:=JZ.1 h.types.1;obtain ⟨⟨a1,_,_⟩,b1,_,_⟩:=It.1 h.rules;have:=h.orders.1;exact ⟨hf.plc,Za,Za,Za,Za,Za⟩
theorem MK {x:Inst} (h:InstOk x): ∀t∈x.types,t.cap.length<=1048576:=fun t hm=>by
 obtain ⟨i,hi,rfl⟩:=ZN.1 hm;have:=h.types.2 i hi;have h5:=(GU.1 this.1.1.1.1.2).1;rw [Zk hi] at h5;omega
theorem qW (x:Inst) (hs:ISz x) (hcap: ∀t∈x.types,t.cap.length<=1048576) (l:List Itm) (c:Bool) (hl:l.length<=1048576):PT 32 [.p (Zr x),.p (.list c (l.map Xe))] [.p (Zr (AJ x l)),.p (.int .i64 (WK x l))]:=by
 have s1:=hs.ord;have s2:=hs.typ;have s3:=hs.ap;have s4:=hs.be;have hrl:=V4 hs;refine Ze [27] Tryz.func32 rfl Zhn ?_;simp (disch:=omega) only [Tryz.f32,go_sem,seval];refine (IN x hs).use ?_;simp (disch:=omega) only [go_sem,seval];have zI:Zr zeroI= .agg [.list true [],.list true [],.list true [],.list true [],.list true [],.list true []]:=rfl;refine ZV [10] [1,2,4,6,13,14] (fun k:Nat=> [(15,.p (.int .i64 k))]) (fun _=> [Zf x,Zf zeroI]) (fun k=>k<=l.length/\ ∀j,j<k->Ya x l j=0) (fun k=>l.length-k) 0 Zb (Weak.mk ?_) ?_
 ·simp (disch:=omega) only [Zf,zeroI,Zj,go_sem,seval]
 ·rintro k ⟨hk,hno⟩;simp (disch:=omega) only [Zf,zeroI,Zj,go_sem,seval];refine cD ?_ ?_<;>intro h<;>simp (disch:=omega) only [Sh.out h,go_sem,seval]
  ·have hk2:k<l.length:=Za
   refine (UD (YN x 10) false (nth l k) hrl).use ?_;simp (disch:=omega) only [go_sem,seval];refine cD ?_ ?_<;>intro h2<;>simp (disch:=omega) only [Sh.out h2,zI,go_sem,seval]
   ·have h3:Yf x (nth l k)=false:=by rw [U3] at h2;simpa using h2
    have e0:Ya x l k=7:=by rw [Ya,h3];rfl
    have e:WK x l=7:=by rw [UE hk2 hno (by rw [e0];decide),e0]
    have r:AJ x l=zeroI:=by rw [AJ,e];rfl
    simp only [e,r,zeroI,Zj];exact we
   ·have h3:Yf x (nth l k)=true:=by rw [Z4,U3] at h2;exact h2
    refine Xd ?_;simp (disch:=omega) only [go_sem,seval];refine Zn (UD (l.take k) _ (nth l k) (by simp;omega)) ?_;simp (disch:=omega) only [go_sem,seval];refine cD ?_ ?_<;>intro h4<;>simp (disch:=omega) only [Sh.out h4,go_sem,seval]
    ·have e0:Ya x l k=6:=by rw [Ya,if_pos h3,if_pos h4]
     have e:WK x l=6:=by rw [UE hk2 hno (by rw [e0];decide),e0]
     have r:AJ x l=zeroI:=by rw [AJ,e];rfl
     simp only [e,r,zeroI,Zj];exact we
    ·exact ⟨k+1,⟨Za,Zp.2 ⟨hno,Wh.2 ⟨h3,h4⟩⟩⟩,Za,Weak.mk (by simp (disch:=omega) only [Zf,zeroI,Zj,go_sem,seval])⟩
  ·have hkl:k=l.length:=Za
   subst hkl;have e:WK x l=0:=BH hno
   have r:AJ x l=Wr x l:=by rw [AJ,if_pos e]
   rw [e,r];clear hk h;refine SQ [1,2,4] (fun _:Unit=> []) (fun _=> [.cells [.p (.list x.net.places_c (x.net.places.map eS)),.p (.list x.net.arcs_c (x.net.arcs.map Vs)),.sl 2 0 x.types.length x.types.length,.sl 3 0 x.orders.length x.orders.length,.p (.list x.apart_c (x.apart.map eP)),.p (.list x.before_c (x.before.map eP))],Zf zeroI,.elems 14 (x.types.map XU),.elems 16 (x.orders.map eOrd)]) (fun _=>True) ?_ ?_
   ·refine ER (.cons 0 (.cons 1 (.cons 2 (.cons 3 (.cons 4 (.cons 5 (.cons 6 (.cons 7 (.cons 8 (.cons 9 .nil .nil) .nil) .nil) .nil) (.cons 6 (.cons 5 (.cons 7 (.cons 8 (.cons 9 .nil .nil) .nil) .nil) .nil) .nil)) .nil) .nil) (.cons 3 (.cons 2 (.cons 4 (.cons 5 (.cons 6 (.cons 7 (.cons 8 (.cons 9 .nil .nil) .nil) .nil) .nil) (.cons 6 (.cons 5 (.cons 7 (.cons 8 (.cons 9 .nil .nil) .nil) .nil) .nil) .nil)) .nil) (.cons 4 (.cons 2 (.cons 5 (.cons 6 (.cons 7 (.cons 8 (.cons 9 .nil .nil) .nil) .nil) .nil) (.cons 6 (.cons 5 (.cons 7 (.cons 8 (.cons 9 .nil .nil) .nil) .nil) .nil) .nil)) .nil) .nil)) .nil)) (.cons 3 (.cons 1 (.cons 2 (.cons 4 (.cons 5 (.cons 6 (.cons 7 (.cons 8 (.cons 9 .nil .nil) .nil) .nil) .nil) (.cons 6 (.cons 5 (.cons 7 (.cons 8 (.cons 9 .nil .nil) .nil) .nil) .nil) .nil)) .nil) (.cons 4 (.cons 2 (.cons 5 (.cons 6 (.cons 7 (.cons 8 (.cons 9 .nil .nil) .nil) .nil) .nil) (.cons 6 (.cons 5 (.cons 7 (.cons 8 (.cons 9 .nil .nil) .nil) .nil) .nil) .nil)) .nil) .nil)) (.cons 4 (.cons 1 (.cons 2 (.cons 5 (.cons 6 (.cons 7 (.cons 8 (.cons 9 .nil .nil) .nil) .nil) .nil) (.cons 6 (.cons 5 (.cons 7 (.cons 8 (.cons 9 .nil .nil) .nil) .nil) .nil) .nil)) .nil) .nil) .nil)) .nil)) (.cons 3 (.cons 0 (.cons 1 (.cons 2 (.cons 4 (.cons 5 (.cons 6 (.cons 7 (.cons 8 (.cons 9 .nil .nil) .nil) .nil) .nil) (.cons 6 (.cons 5 (.cons 7 (.cons 8 (.cons 9 .nil .nil) .nil) .nil) .nil) .nil)) .nil) (.cons 4 (.cons 2 (.cons 5 (.cons 6 (.cons 7 (.cons 8 (.cons 9 .nil .nil) .nil) .nil) .nil) (.cons 6 (.cons 5 (.cons 7 (.cons 8 (.cons 9 .nil .nil) .nil) .nil) .nil) .nil)) .nil) .nil)) (.cons 4 (.cons 1 (.cons 2 (.cons 5 (.cons 6 (.cons 7 (.cons 8 (.cons 9 .nil .nil) .nil) .nil) .nil) (.cons 6 (.cons 5 (.cons 7 (.cons 8 (.cons 9 .nil .nil) .nil) .nil) .nil) .nil)) .nil) .nil) .nil)) (.cons 4 (.cons 0 (.cons 1 (.cons 2 (.cons 5 (.cons 6 (.cons 7 (.cons 8 (.cons 9 .nil .nil) .nil) .nil) .nil) (.cons 6 (.cons 5 (.cons 7 (.cons 8 (.cons 9 .nil .nil) .nil) .nil) .nil) .nil)) .nil) .nil) .nil) .nil)) .nil)) mixed Zg ?_
    have cT:ACalls Tryz.prog 63 [.p (.list x.types_c (x.types.map XU))] [] fun y H'=>y= .sl 0 0 x.types.length x.types.length/\H'= [.elems 14 (x.types.map XU)]:=Gw x.types x.types_c Za;have cO:ACalls Tryz.prog 64 [.p (.list x.orders_c (x.orders.map eOrd))] [] fun y H'=>y= .sl 0 0 x.orders.length x.orders.length/\H'= [.elems 16 (x.orders.map eOrd)]:=AN x.orders x.orders_c Za
    repeat' first
     | refine CT ?_ ?_
     | (refine cT.useF ?_;simp (disch:=omega) only [go_sem,seval])
     | (refine cO.useF ?_;simp (disch:=omega) only [go_sem,seval])
     | exact ⟨(),Weak.mk (by simp (disch:=omega) only [Zf,zeroI,Zj,go_sem,seval])⟩
     | simp (disch:=omega) only [go_sem,seval]
   ·rintro _ _;simp (disch:=omega) only [Zf,zeroI,Zj,go_sem,seval];have lT:=VL x.types;have lO:=UR x.orders
    have hcap2: ∀k i,i<x.types.length->(nth (Xq x.types (l.take k)) i).cap.length<=1048576:=fun k i hi=>by
     rw [UT hi];have:=hcap _ (Zu hi);simp only [V7]
     split<;>simp [this]
    refine ZV [26,27] [1,2,4,42,43] (fun k:Nat=> [(44,.p (.int .i64 k))]) (fun k=> [.cells [.p (.list x.net.places_c (x.net.places.map eS)),.p (.list x.net.arcs_c (x.net.arcs.map Vs)),.sl 2 0 x.types.length x.types.length,.sl 3 0 x.orders.length x.orders.length,.p (.list x.apart_c (x.apart.map eP)),.p (.list x.before_c (x.before.map eP))],Zf zeroI,.elems 14 ((Xq x.types (l.take k)).map XU),.elems 16 ((XH x.orders (l.take k)).map eOrd)]) (fun k=>k<=l.length) (fun k=>l.length-k) 0 Zb (Weak.mk ?_) ?_
    ·simp (disch:=omega) only [Zf,zeroI,Zj,QS,bE,TY,go_sem,seval]
    ·rintro k hk;simp (disch:=omega) only [Zf,zeroI,Zj,go_sem,seval];have hhas:k<l.length->Yf x (nth l k)=true:=fun h=>(Wh.1 (hno k h)).1
     have hsn:k<l.length->l.take (k+1)=l.take k++ [nth l k]:=fun h=>by rw [Xm h,Zk h]
     refine cD ?_ ?_<;>intro h<;>simp (disch:=omega) only [Sh.out h,go_sem,seval]
     ·have hk2:k<l.length:=Za
      have hhas:=hhas hk2;have hsn:=hsn hk2
      have hgo: ∀kd a,nth l k=⟨kd,a⟩->(kd=1\/kd=2\/kd=4\/kd=10)/\(0<=a/\a<(x.orders.length:Int))\/(kd=3\/kd=7\/kd=8\/kd=9)/\(0<=a/\a<(x.types.length:Int))\/kd=5\/kd=6:=fun kd a e=>by
       rw [e] at hhas;unfold Yf at hhas;simp only at hhas
       split at hhas
       ·rename_i hq;simp only [Uy,Zw,Zs] at hhas;exact .inl ⟨hq,Za⟩
       ·split at hhas
        ·rename_i hq;simp only [Zw,Zs] at hhas;exact .inr (.inl ⟨hq,Za⟩)
        ·split at hhas
         ·rename_i hq;exact .inr (.inr (.inl hq))
         ·split at hhas
          ·rename_i hq;exact .inr (.inr (.inr hq))
          ·simp at hhas
      generalize hv:nth l k=v at hgo hsn ⊢;obtain ⟨kd,a⟩:=v;rcases hgo kd a rfl with ⟨hkd,ha⟩ | ⟨hkd,ha⟩ | hkd
      ·rcases hkd with rfl | rfl | rfl | rfl
       ·have hmO:((XH x.orders (l.take k)).map eOrd).length=x.orders.length:=by rw [Zy,lO]
        have c9:=Aq (XH x.orders (l.take k)) a.toNat 1 (by rw [lO];omega);rw [Ar Za (v:=⟨1,a⟩) (by simp only;omega),<- hsn,lO,<- hmO] at c9
        have eT:Xq x.types (l.take (k+1))=Xq x.types (l.take k):=by rw [hsn];exact V9 Zb
        simp (disch:=omega) only [Zf,zeroI,Zj,go_sem,seval];refine ZB 7 mixed Zg Zg ?_;simp (disch:=omega) only [go_sem,seval];rw [<- hmO];refine (ACalls.atE (ps:= [.int .i64 1]) (o:=3) rfl c9 (by simp [lO])).useH ?_;simp (disch:=omega) only [ZK,ZY,go_sem,seval];refine ⟨k+1,Za,Za,Weak.mk ?_⟩
        try simp only [Zy,lO]
        simp (disch:=omega) only [Zf,zeroI,Zj,eT,go_sem,seval]
       ·have hmO:((XH x.orders (l.take k)).map eOrd).length=x.orders.length:=by rw [Zy,lO]
        have c9:=Aq (XH x.orders (l.take k)) a.toNat 2 (by rw [lO];omega);rw [Ar Za (v:=⟨2,a⟩) (by simp only;omega),<- hsn,lO,<- hmO] at c9
        have eT:Xq x.types (l.take (k+1))=Xq x.types (l.take k):=by rw [hsn];exact V9 Zb
        simp (disch:=omega) only [Zf,zeroI,Zj,go_sem,seval];refine ZB 7 mixed Zg Zg ?_;simp (disch:=omega) only [go_sem,seval];rw [<- hmO];refine (ACalls.atE (ps:= [.int .i64 2]) (o:=3) rfl c9 (by simp [lO])).useH ?_;simp (disch:=omega) only [ZK,ZY,go_sem,seval];refine ⟨k+1,Za,Za,Weak.mk ?_⟩
        try simp only [Zy,lO]
        simp (disch:=omega) only [Zf,zeroI,Zj,eT,go_sem,seval]
       ·have hmO:((XH x.orders (l.take k)).map eOrd).length=x.orders.length:=by rw [Zy,lO]
        have c9:=Aq (XH x.orders (l.take k)) a.toNat 4 (by rw [lO];omega);rw [Ar Za (v:=⟨4,a⟩) (by simp only;omega),<- hsn,lO,<- hmO] at c9
        have eT:Xq x.types (l.take (k+1))=Xq x.types (l.take k):=by rw [hsn];exact V9 Zb
        simp (disch:=omega) only [Zf,zeroI,Zj,go_sem,seval];refine ZB 7 mixed Zg Zg ?_;simp (disch:=omega) only [go_sem,seval];rw [<- hmO];refine (ACalls.atE (ps:= [.int .i64 4]) (o:=3) rfl c9 (by simp [lO])).useH ?_;simp (disch:=omega) only [ZK,ZY,go_sem,seval];refine ⟨k+1,Za,Za,Weak.mk ?_⟩
        try simp only [Zy,lO]
        simp (disch:=omega) only [Zf,zeroI,Zj,eT,go_sem,seval]
       ·have hmO:((XH x.orders (l.take k)).map eOrd).length=x.orders.length:=by rw [Zy,lO]
        have c9:=Aq (XH x.orders (l.take k)) a.toNat 10 (by rw [lO];omega);rw [Ar Za (v:=⟨10,a⟩) (by simp only;omega),<- hsn,lO,<- hmO] at c9
        have eT:Xq x.types (l.take (k+1))=Xq x.types (l.take k):=by rw [hsn];exact V9 Zb
        simp (disch:=omega) only [Zf,zeroI,Zj,go_sem,seval];refine ZB 7 mixed Zg Zg ?_;simp (disch:=omega) only [go_sem,seval];rw [<- hmO];refine (ACalls.atE (ps:= [.int .i64 10]) (o:=3) rfl c9 (by simp [lO])).useH ?_;simp (disch:=omega) only [ZK,ZY,go_sem,seval];refine ⟨k+1,Za,Za,Weak.mk ?_⟩
        try simp only [Zy,lO]
        simp (disch:=omega) only [Zf,zeroI,Zj,eT,go_sem,seval]
      ·rcases hkd with rfl | rfl | rfl | rfl
       ·have hmT:((Xq x.types (l.take k)).map XU).length=x.types.length:=by rw [Zy,lT]
        have c9:=fun (H:List AM.Obj) (hH:H[2]? =some (.elems 14 ((Xq x.types (l.take k)).map XU)))=>QA (Xq x.types (l.take k)) a.toNat 3 Zb (by rw [lT];omega) (hcap2 k a.toNat Za) hH;rw [AB Za (v:=⟨3,a⟩) (by simp only;omega),<- hsn,lT,<- hmT] at c9
        have eO:XH x.orders (l.take (k+1))=XH x.orders (l.take k):=by rw [hsn];exact V0 Zb
        simp (disch:=omega) only [Zf,zeroI,Zj,go_sem,seval];refine ZB 7 mixed Zg Zg ?_;simp (disch:=omega) only [go_sem,seval];rw [<- hmT];refine (c9 _ rfl).useH ?_;simp (disch:=omega) only [ZK,ZY,go_sem,seval];refine ⟨k+1,Za,Za,Weak.mk ?_⟩
        try simp only [Zy,lT]
        simp (disch:=omega) only [Zf,zeroI,Zj,eO,go_sem,seval]
       ·have hmT:((Xq x.types (l.take k)).map XU).length=x.types.length:=by rw [Zy,lT]
        have c9:=fun (H:List AM.Obj) (hH:H[2]? =some (.elems 14 ((Xq x.types (l.take k)).map XU)))=>QA (Xq x.types (l.take k)) a.toNat 7 Zb (by rw [lT];omega) (hcap2 k a.toNat Za) hH;rw [AB Za (v:=⟨7,a⟩) (by simp only;omega),<- hsn,lT,<- hmT] at c9
        have eO:XH x.orders (l.take (k+1))=XH x.orders (l.take k):=by rw [hsn];exact V0 Zb
        simp (disch:=omega) only [Zf,zeroI,Zj,go_sem,seval];refine ZB 7 mixed Zg Zg ?_;simp (disch:=omega) only [go_sem,seval];rw [<- hmT];refine (c9 _ rfl).useH ?_;simp (disch:=omega) only [ZK,ZY,go_sem,seval];refine ⟨k+1,Za,Za,Weak.mk ?_⟩
        try simp only [Zy,lT]
        simp (disch:=omega) only [Zf,zeroI,Zj,eO,go_sem,seval]
       ·have hmT:((Xq x.types (l.take k)).map XU).length=x.types.length:=by rw [Zy,lT]
        have c9:=fun (H:List AM.Obj) (hH:H[2]? =some (.elems 14 ((Xq x.types (l.take k)).map XU)))=>QA (Xq x.types (l.take k)) a.toNat 8 Zb (by rw [lT];omega) (hcap2 k a.toNat Za) hH;rw [AB Za (v:=⟨8,a⟩) (by simp only;omega),<- hsn,lT,<- hmT] at c9
        have eO:XH x.orders (l.take (k+1))=XH x.orders (l.take k):=by rw [hsn];exact V0 Zb
        simp (disch:=omega) only [Zf,zeroI,Zj,go_sem,seval];refine ZB 7 mixed Zg Zg ?_;simp (disch:=omega) only [go_sem,seval];rw [<- hmT];refine (c9 _ rfl).useH ?_;simp (disch:=omega) only [ZK,ZY,go_sem,seval];refine ⟨k+1,Za,Za,Weak.mk ?_⟩
        try simp only [Zy,lT]
        simp (disch:=omega) only [Zf,zeroI,Zj,eO,go_sem,seval]
       ·have hmT:((Xq x.types (l.take k)).map XU).length=x.types.length:=by rw [Zy,lT]
        have c9:=fun (H:List AM.Obj) (hH:H[2]? =some (.elems 14 ((Xq x.types (l.take k)).map XU)))=>QA (Xq x.types (l.take k)) a.toNat 9 Zb (by rw [lT];omega) (hcap2 k a.toNat Za) hH;rw [AB Za (v:=⟨9,a⟩) (by simp only;omega),<- hsn,lT,<- hmT] at c9
        have eO:XH x.orders (l.take (k+1))=XH x.orders (l.take k):=by rw [hsn];exact V0 Zb
        simp (disch:=omega) only [Zf,zeroI,Zj,go_sem,seval];refine ZB 7 mixed Zg Zg ?_;simp (disch:=omega) only [go_sem,seval];rw [<- hmT];refine (c9 _ rfl).useH ?_;simp (disch:=omega) only [ZK,ZY,go_sem,seval];refine ⟨k+1,Za,Za,Weak.mk ?_⟩
        try simp only [Zy,lT]
        simp (disch:=omega) only [Zf,zeroI,Zj,eO,go_sem,seval]
      ·have eT:Xq x.types (l.take (k+1))=Xq x.types (l.take k):=by rw [hsn];exact V9 (by simp only;omega)
       have eO:XH x.orders (l.take (k+1))=XH x.orders (l.take k):=by rw [hsn];exact V0 (by simp only;omega)
       rcases hkd with rfl | rfl
       ·simp (disch:=omega) only [Zf,zeroI,Zj,go_sem,seval];exact ⟨k+1,Za,Za,Weak.mk (by simp (disch:=omega) only [Zf,zeroI,Zj,eT,eO,go_sem,seval])⟩
       ·simp (disch:=omega) only [Zf,zeroI,Zj,go_sem,seval];exact ⟨k+1,Za,Za,Weak.mk (by simp (disch:=omega) only [Zf,zeroI,Zj,eT,eO,go_sem,seval])⟩
     ·have hkl:k=l.length:=Za
      subst hkl;rw [X3];have cA:=Hu x.apart l 5 x.apart_c c Za hl;have cB:=Hu x.before l 6 x.before_c c Za hl;refine ZB 9 mixed Zg Zg ?_;simp (disch:=omega) only [go_sem,seval];refine Zn (cA) ?_;simp (disch:=omega) only [go_sem,seval];refine Zn (cB) ?_;simp (disch:=omega) only [go_sem,seval];rw [<- lT l,<- lO l];refine Zo (Weak.fz (o:=2) (by rfl)) ?_;refine Zo (Weak.fz (o:=3) (by rfl)) ?_;refine Zh [] _ _ _ _ ?_;simp (disch:=omega) only [Zq,Zj,ZK,ZY,go_sem,seval]
      exact we (by simp (disch:=omega) only [Wr,go_sem,seval])
theorem Ld (o:Ord) (a:Int) (w:List Itm) (d:Bool) (hw:w.length<=1048576):PC 81 [.p (eOrd o),.p (.int .i64 a),.p (.list d (w.map Xe))] (eOrd (QT o a w)):=by
 refine Zc Tryz.func81 rfl Zh3 ?_;have n1:(0<=Lu w ⟨1,a⟩)=((⟨1,a⟩:Itm)∈w):=propext VO;have n2:(0<=Lu w ⟨2,a⟩)=((⟨2,a⟩:Itm)∈w):=propext VO;have n4:(0<=Lu w ⟨4,a⟩)=((⟨4,a⟩:Itm)∈w):=propext VO;have n10:(0<=Lu w ⟨10,a⟩)=((⟨10,a⟩:Itm)∈w):=propext VO
 by_cases h1:(⟨1,a⟩:Itm)∈w<;>by_cases h2:(⟨2,a⟩:Itm)∈w<;>by_cases h4:(⟨4,a⟩:Itm)∈w<;>by_cases h10:(⟨10,a⟩:Itm)∈w
 all_goals
  simp (disch:=omega) only [Tryz.f81,go_sem,seval];refine (XI w d ⟨1,a⟩ hw).use ?_;simp (disch:=omega) only [n1,h1,go_sem,seval];refine (XI w d ⟨2,a⟩ hw).use ?_;simp (disch:=omega) only [n2,h2,go_sem,seval];refine (XI w d ⟨4,a⟩ hw).use ?_;simp (disch:=omega) only [n4,h4,go_sem,seval];refine (XI w d ⟨10,a⟩ hw).use ?_;simp (disch:=omega) only [n10,h10,QT,h1,h2,h4,go_sem,seval]
def Su : Typ:=⟨[],0,0,0,true,[],0,0,0,0,0,0,0,0,0⟩
theorem Nr (t:Typ) (a:Int) (w:List Itm) (d:Bool) (hw:w.length<=1048576) (hc:t.cap.length<=1048576):PC 82 [.p (XU t),.p (.int .i64 a),.p (.list d (w.map Xe))] (XU (V7 t a w)):=by
 refine Ux [3,8] Tryz.func82 rfl Zh4 ?_;have n3:(0<=Lu w ⟨3,a⟩)=((⟨3,a⟩:Itm)∈w):=propext VO;have n7:(0<=Lu w ⟨7,a⟩)=((⟨7,a⟩:Itm)∈w):=propext VO;have n8:(0<=Lu w ⟨8,a⟩)=((⟨8,a⟩:Itm)∈w):=propext VO;have n9:(0<=Lu w ⟨9,a⟩)=((⟨9,a⟩:Itm)∈w):=propext VO
 by_cases h3:(⟨3,a⟩:Itm)∈w
 ·simp (disch:=omega) only [Tryz.f82,go_sem,seval];refine (XI w d ⟨3,a⟩ hw).use ?_;simp (disch:=omega) only [n3,h3,go_sem,seval];refine Zo (Weak.ofNil 7 1 (by simp (disch:=omega) only [go_sem,seval]) Zb (Weak.refl _ _ _)) ?_;refine Zh [] _ _ _ _ ?_;simp (disch:=omega) only [go_sem,seval];refine ZV [] [1,2,3,6] (fun k:Nat=> [(7,.sl 2 0 (List.replicate k (1000:Int)).length (List.replicate k (1000:Int)).length),(8,.p (.int .i64 k))]) (fun k=> [X5 t,X5 Su,.elems 1 ((List.replicate k (1000:Int)).map eI)]) (fun k=>k<=t.cap.length) (fun k=>t.cap.length-k) 0 Zb (Weak.mk ?_) ?_
  ·simp (disch:=omega) only [X5,Su,go_sem,seval]
  ·intro k hk
   have hlr:(List.replicate k (1000:Int)).length=k:=Zb
   have hsn:List.replicate (k+1) (1000:Int)=List.replicate k (1000:Int)++ [1000]:=by rw [En]
   generalize hm:List.replicate k (1000:Int)=m at hlr hsn ⊢;simp (disch:=omega) only [X5,Su,go_sem,seval];refine cD ?_ ?_<;>intro h<;>simp (disch:=omega) only [Sh.out h,go_sem,seval]
   ·exact ⟨k+1,Za,Za,Weak.mk (by rw [hsn];simp (disch:=omega) only [X5,Su,go_sem,seval])⟩
   ·have hk2:k=t.cap.length:=Za
    subst hk2;subst hm;refine Zo (Weak.fz (o:=2) (by rfl)) ?_;refine Zh [] _ _ _ _ ?_;simp (disch:=omega) only [Zq,Zj,ZK,ZY,go_sem,seval]
    by_cases h7:(⟨7,a⟩:Itm)∈w<;>by_cases h8:(⟨8,a⟩:Itm)∈w<;>by_cases h9:(⟨9,a⟩:Itm)∈w
    all_goals
     refine (XI w d ⟨7,a⟩ hw).use ?_;simp (disch:=omega) only [n7,h7,go_sem,seval];refine (XI w d ⟨8,a⟩ hw).use ?_;simp (disch:=omega) only [n8,h8,go_sem,seval];refine (XI w d ⟨9,a⟩ hw).use ?_;simp (disch:=omega) only [n9,h9,V7,h3,h7,h8,go_sem,seval]
 ·simp (disch:=omega) only [Tryz.f82,go_sem,seval];refine (XI w d ⟨3,a⟩ hw).use ?_;simp (disch:=omega) only [n3,h3,go_sem,seval];refine Zh [] _ _ _ _ ?_;simp (disch:=omega) only [go_sem,seval]
  by_cases h7:(⟨7,a⟩:Itm)∈w<;>by_cases h8:(⟨8,a⟩:Itm)∈w<;>by_cases h9:(⟨9,a⟩:Itm)∈w
  all_goals
   refine (XI w d ⟨7,a⟩ hw).use ?_;simp (disch:=omega) only [n7,h7,go_sem,seval];refine (XI w d ⟨8,a⟩ hw).use ?_;simp (disch:=omega) only [n8,h8,go_sem,seval];refine (XI w d ⟨9,a⟩ hw).use ?_;simp (disch:=omega) only [n9,h9,V7,h3,h7,h8,go_sem,seval]
theorem NO {l:List Itm} {k:Nat} (hk:k<l.length):Lu l (nth l k)=(k:Int)↔nth l k ∉ l.take k:=by
 constructor
 ·intro h hm;obtain ⟨j,hj,e⟩:=ZN.1 hm
  have hj2:j<k:=by simp at hj;omega
  have hjl:j<l.length:=Za
  rw [List.getElem_take] at e;unfold Lu at h
  cases hf:l.findIdx? (fun w=>decide (nth l k=w)) with
  | none=>rw [hf] at h;simp only at h;omega
  | some i =>
   rw [hf] at h
   have hik:i=k:=by simp only at h;omega
   subst hik;rw [VC] at hf;obtain ⟨_,_,h3⟩:=hf;exact h3 j hj2 (by simp [e])
 ·intro h;refine PE hk rfl fun j hj e=>h ?_;rw [e,Zk (show j<l.length by omega)];exact ZN.2 ⟨j,by simp;omega,Zb⟩
theorem Ll (x:Inst) (hs:ISz x) (hcap: ∀t∈x.types,t.cap.length<=1048576) (l:List Itm) (c:Bool) (hl:l.length<=1048576):PT 45 [.p (Zr x),.p (.list c (l.map Xe))] [.p (Zr (AJ x l)),.p (.int .i64 (WK x l))]:=by
 have s1:=hs.ord;have s2:=hs.typ;have s3:=hs.ap;have s4:=hs.be;refine Ze [9,13,17] Tryz.func45 rfl Zhw ?_;simp (disch:=omega) only [Tryz.f45,go_sem,seval];have zI:Zr zeroI= .agg [.list true [],.list true [],.list true [],.list true [],.list true [],.list true []]:=rfl;refine Zl [1,2,4] (fun k:Nat=> [(6,.p (.int .i64 k))]) (fun _=> [Zf x,Zf zeroI]) (fun k=>k<=l.length/\ ∀j,j<k->Ya x l j=0) (fun k=>l.length-k) 0 Zb (Weak.mk ?_) ?_
 ·simp (disch:=omega) only [Zf,zeroI,Zj,go_sem,seval]
 ·rintro k ⟨hk,hno⟩;simp (disch:=omega) only [Zf,zeroI,Zj,go_sem,seval];refine cD ?_ ?_<;>intro h<;>simp (disch:=omega) only [Sh.out h,go_sem,seval]
  ·have hk2:k<l.length:=Za
   refine Xd ?_;simp (disch:=omega) only [go_sem,seval];refine Zn (FS x hs (nth l k)) ?_;simp (disch:=omega) only [go_sem,seval];refine cD ?_ ?_<;>intro h2<;>simp (disch:=omega) only [Sh.out h2,go_sem,seval]
   ·have h3:Yf x (nth l k)=false:=by simpa using h2
    have e0:Ya x l k=7:=by rw [Ya,h3];rfl
    have e:WK x l=7:=by rw [UE hk2 hno (by rw [e0];decide),e0]
    have r:AJ x l=zeroI:=by rw [AJ,e];rfl
    simp only [e,r,zeroI,Zj];exact we
   ·have h3:Yf x (nth l k)=true:=by simpa using h2
    refine (XI l c (nth l k) hl).use ?_;simp (disch:=omega) only [go_sem,seval];refine cD ?_ ?_<;>intro h4<;>simp (disch:=omega) only [Sh.out h4,go_sem,seval]
    ·have h5:nth l k∈l.take k:=JQ fun h=>h4 ((NO hk2).2 h)
     have e0:Ya x l k=6:=by rw [Ya,if_pos h3,if_pos h5]
     have e:WK x l=6:=by rw [UE hk2 hno (by rw [e0];decide),e0]
     have r:AJ x l=zeroI:=by rw [AJ,e];rfl
     simp only [e,r,zeroI,Zj];exact we
    ·have h5:nth l k ∉ l.take k:=(NO hk2).1 (Z4.1 h4);exact ⟨k+1,⟨Za,Zp.2 ⟨hno,Wh.2 ⟨h3,h5⟩⟩⟩,Za,Weak.mk (by simp (disch:=omega) only [Zf,zeroI,Zj,go_sem,seval])⟩
  ·have hkl:k=l.length:=Za
   subst hkl;have e:WK x l=0:=BH hno
   have r:AJ x l=Wr x l:=by rw [AJ,if_pos e]
   rw [e,r];clear hk h;refine On 11 12 _ [.cells [.p (.list true []),.p (.list true []),.p (.list true []),.p (.list true []),.p (.list true []),.p (.list true [])]] (.ptr 2 0) mixed Zg Zg (by decide) rfl rfl Zb (fun fr'=>by simp (disch:=omega) only [go_sem,seval]) ?_;simp (disch:=omega) only [go_sem,seval];refine Zn (FU x.apart l 5 x.apart_c c Za hl) ?_;simp (disch:=omega) only [go_sem,seval];refine Zn (FU x.before l 6 x.before_c c Za hl) ?_;simp (disch:=omega) only [go_sem,seval];refine Zo (Weak.nilC (o:=2) (j:=3) 16 rfl rfl Zb) ?_
   refine Zh [13,17] _ _ _ _ ?_;simp (disch:=omega) only [ZK,ZY,ZL,ZD,go_sem,seval];obtain ⟨os,hos⟩: ∃os,os=XH x.orders l:=⟨_,rfl⟩
   have hol:os.length=x.orders.length:=by rw [hos,UR]
   refine ZV [] [1,2,4,7] (fun q:Nat×List Ord=> [(8,.p (.int .i64 q.1))]) (fun q=> [Zf x,Zf zeroI,.cells [.p (.list x.net.places_c (x.net.places.map eS)),.p (.list x.net.arcs_c (x.net.arcs.map Vs)),.p (.list true []),.sl 3 0 q.2.length q.2.length,.p (.list false ((YO x.apart l 5 x.apart.length).map eP)),.p (.list false ((YO x.before l 6 x.before.length).map eP))],.elems 16 (q.2.map eOrd)]) (fun q=>q.1<=x.orders.length/\q.2=os.take q.1) (fun q=>x.orders.length-q.1) (0,[]) ⟨Zb,Zb⟩ (Weak.mk ?_) ?_
   ·simp (disch:=omega) only [Zf,zeroI,Zj,go_sem,seval]
   ·rintro ⟨k,m⟩ ⟨hk,hm⟩;simp only at hk hm
    have hml:m.length=k:=by rw [hm,Z6];omega
    simp (disch:=omega) only [Zf,zeroI,Zj,go_sem,seval];refine cD ?_ ?_<;>intro h<;>simp (disch:=omega) only [Sh.out h,go_sem,seval]
    ·have hk2:k<x.orders.length:=Za
     have htk:os.take (k+1)=os.take k++ [QT (nth x.orders k) k l]:=by
      rw [Xm Za]
      congr 2
      rw [<- Zk Za,hos,Yc hk2]
     refine ZB 11 mixed Zg Zg ?_;simp (disch:=omega) only [go_sem,seval];refine Zn (Ld (nth x.orders k) k l c hl) ?_;simp (disch:=omega) only [go_sem,seval];exact ⟨(k+1,m++ [QT (nth x.orders k) k l]),⟨by simp only;omega,by simp only;rw [htk,hm]⟩,by simp only;omega,Weak.mk (by simp (disch:=omega) only [Zf,zeroI,Zj,go_sem,seval])⟩
    ·have hkl:k=x.orders.length:=Za
     have hmo:m=os:=by rw [hm,hkl,<- hol,X3]
     subst hmo;clear hm hk h;refine Zo (Weak.nilC (o:=2) (j:=2) 14 rfl rfl Zb) ?_;refine Zh [17] _ _ _ _ ?_;simp (disch:=omega) only [ZK,ZY,ZL,ZD,go_sem,seval];obtain ⟨ts,hts⟩: ∃ts,ts=Xq x.types l:=⟨_,rfl⟩
     have htl:ts.length=x.types.length:=by rw [hts,VL]
     refine ZV [] [1,2,4,7] (fun q:Nat×List Typ=> [(9,.p (.int .i64 q.1))]) (fun q=> [Zf x,Zf zeroI,.cells [.p (.list x.net.places_c (x.net.places.map eS)),.p (.list x.net.arcs_c (x.net.arcs.map Vs)),.sl 4 0 q.2.length q.2.length,.sl 3 0 m.length m.length,.p (.list false ((YO x.apart l 5 x.apart.length).map eP)),.p (.list false ((YO x.before l 6 x.before.length).map eP))],.elems 16 (m.map eOrd),.elems 14 (q.2.map XU)]) (fun q=>q.1<=x.types.length/\q.2=ts.take q.1) (fun q=>x.types.length-q.1) (0,[]) ⟨Zb,Zb⟩ (Weak.mk ?_) ?_
     ·simp (disch:=omega) only [Zf,zeroI,Zj,go_sem,seval]
     ·rintro ⟨i,n⟩ ⟨hi,hn⟩;simp only at hi hn
      have hnl:n.length=i:=by rw [hn,Z6];omega
      simp (disch:=omega) only [Zf,zeroI,Zj,go_sem,seval];refine cD ?_ ?_<;>intro h<;>simp (disch:=omega) only [Sh.out h,go_sem,seval]
      ·have hi2:i<x.types.length:=Za
       have htk:ts.take (i+1)=ts.take i++ [V7 (nth x.types i) i l]:=by
        rw [Xm Za]
        congr 2
        rw [<- Zk Za,hts,UT hi2]
       refine ZB 11 mixed Zg Zg ?_;simp (disch:=omega) only [go_sem,seval];refine Zn (Nr (nth x.types i) i l c hl (hcap _ (Zu hi2))) ?_;simp (disch:=omega) only [go_sem,seval];exact ⟨(i+1,n++ [V7 (nth x.types i) i l]),⟨by simp only;omega,by simp only;rw [htk,hn]⟩,by simp only;omega,Weak.mk (by simp (disch:=omega) only [Zf,zeroI,Zj,go_sem,seval])⟩
      ·have hin:i=x.types.length:=Za
       have hnt:n=ts:=by rw [hn,hin,<- htl,X3]
       subst hnt;clear hn hi h;refine Zo (Weak.fz (o:=3) (by rfl)) ?_;refine Zo (Weak.fz (o:=4) (by rfl)) ?_;refine Zh [] _ _ _ _ ?_;simp (disch:=omega) only [Zq,Zj,ZK,ZY,go_sem,seval];exact we (by simp (disch:=omega) only [Wr,hos,hts,go_sem,seval])
set_option maxRecDepth 60000
theorem I1 {α:Type} [Inhabited α] {l:List α} {i j:Nat} {a:α} (h:i<l.length):nth (l.set i a) j=if i=j then a else nth l j:=by
 grind [nth]
theorem pR {α:Type} [Inhabited α] {l:List α} {j:Nat} {a:α} (h:j<l.length):nth (l++ [a]) j=nth l j:=by
 grind [nth]
theorem IZ {α:Type} [Inhabited α] {l:List α} {a:α} :nth (l++ [a]) l.length=a:=by
 grind [nth]
def cfK (a b:Col):Int:=qC [Wv a.typ b.typ,Wv a.set b.set]
theorem eG {a b:Int} :Wv a b<0↔a<b:=by grind [Wv]
theorem eJ {a b:Int} :Wv a b=0↔a=b:=by grind [Wv]
theorem EX {a b:Col} :cfK a b<0↔a.typ<b.typ\/(a.typ=b.typ/\a.set<b.set):=by
 grind [cfK,Eu,eJ,eG]
theorem oB : Go.Sort.SWO (ltOf cfK) where
 irrefl x:=by grind [ltOf,EX]
 trans x y z h1 h2:=by simp only [ltOf,Zs,EX] at *;omega
 ntrans x y z h1 h2:=by grind [ltOf,EX]
theorem Mc (a b:Col):PC 175 [.p (Xj a),.p (Xj b)] (.int .i64 (cfK a b)):=by
 refine Zc Tryz.func175 rfl zL ?_;simp (disch:=omega) only [Tryz.f175,go_sem,seval];refine Xd (Zd ?_);refine Zn (DC a.typ b.typ) (Zd ?_);refine Zn (DC a.set b.set) (Zd ?_);refine Zn (qD [Wv a.typ b.typ,Wv a.set b.set] false Zb) (Zd ?_)
 rfl
theorem rN (xs:List Col) (hl:xs.length<=1048576) {H:List AM.Obj} {o:Nat} (hH:H[o]? =some (.elems 7 (xs.map Xj))) :
  ACalls Tryz.prog 109 [.sl o 0 xs.length xs.length,.fn (.func 175) [] []] H fun y H'=>y= .tup []/\ ∃ys:List Col,ys.Perm xs/\ys.Pairwise (fun a b=> ¬cfK b a<0)/\H'=H.set o (.elems 7 (ys.map Xj)) :=
 ACalls.sortFunc NI gJ 7 Tryz.isAgg121 Tryz.sizeOf121 Xj (fun x=>⟨_,rfl,rfl,rfl⟩) cfK oB 175 Mc xs Za hH
def kd (c:Col):Kd:=⟨c.typ,c.set⟩
def Bst (l:List Col) (k:Nat) (d:Col):Prop:= ∃j,j<k/\nth l j=d/\ ∀i,i<k->kd (nth l i)=kd d->d.price<(nth l i).price\/(d.price=(nth l i).price/\j<=i)
structure Chp (l:List Col) (k:Nat) (m:List (Kd×Int)) (out:List Col):Prop where
 len:out.length<=k
 at1: ∀i,i<out.length->mq m (kd (nth out i))=some (i:Int)
 at2: ∀q v,mq m q=some v-> ∃i,i<out.length/\v=i/\kd (nth out i)=q
 bst: ∀i,i<out.length->Bst l k (nth out i)
 all: ∀j,j<k-> ∃i,i<out.length/\kd (nth out i)=kd (nth l j)
theorem dY (l:List Col):Chp l 0 [] []:=⟨Zb,fun i h=>by simp at h,fun q v h=>by simp [mq] at h,fun i h=>by simp at h,fun j h=>by simp at h⟩
theorem oG {l:List Col} {k:Nat} {m m':List (Kd×Int)} {out:List Col} (h:Chp l k m out) (hn:mq m (kd (nth l k))=none) (hm: ∀q,mq m' q=if q=kd (nth l k) then some (out.length:Int) else mq m q):Chp l (k+1) m' (out++ [nth l k]):=by
 have hno: ∀i,i<out.length->kd (nth out i)≠kd (nth l k):=fun i hi e=>by
  have:=h.at1 i hi
  grind
 have split: ∀i,i<(out++ [nth l k]).length->(i<out.length/\nth (out++ [nth l k]) i=nth out i)\/(i=out.length/\nth (out++ [nth l k]) i=nth l k):=fun i hi=>by
  simp only [Zz,ZA,ZF] at hi;rcases Wm i out.length with h1 | h1
  ·grind [pR]
  ·obtain rfl:i=out.length:=Za
   exact .inr ⟨rfl,IZ⟩
 refine ⟨by have:=h.len;simp;omega,fun i hi=> ?_,fun q v hq=> ?_,fun i hi=> ?_,fun j hj=> ?_⟩
 ·rcases split i hi with ⟨h1,e⟩ | ⟨rfl,e⟩
  ·rw [e,hm,if_neg (hno i h1)];exact h.at1 i h1
  grind
 ·rw [hm] at hq
  split at hq
  ·grind [IZ]
  ·obtain ⟨i,h1,h2,h3⟩:=h.at2 q v hq
   grind
 ·rcases split i hi with ⟨h1,e⟩ | ⟨rfl,e⟩
  ·rw [e];obtain ⟨j,h2,h3,h4⟩:=h.bst i h1;refine ⟨j,Za,h3,fun p hp he=> ?_⟩
   grind
  ·rw [e];refine ⟨k,Za,rfl,fun p hp he=> ?_⟩;rcases BX.1 hp with h5 | rfl
   ·obtain ⟨i,h6,h7⟩:=h.all p h5
    grind
   omega
 ·rcases BX.1 hj with h5 | rfl
  ·obtain ⟨i,h6,h7⟩:=h.all j h5
   grind
  ·exact ⟨out.length,Zb,by rw [IZ]⟩
theorem oH {l:List Col} {k:Nat} {m:List (Kd×Int)} {out:List Col} {i:Nat} (h:Chp l k m out) (hi:i<out.length) (hk:kd (nth out i)=kd (nth l k)):Chp l (k+1) m (if (nth l k).price<(nth out i).price then out.set i (nth l k) else out):=by
 have hun: ∀j,j<out.length->kd (nth out j)=kd (nth l k)->j=i:=fun j hj e=>by
  have h1:=h.at1 j hj;have h2:=h.at1 i hi
  grind
 split
 ·rename_i hp
  have key: ∀j,kd (nth (out.set i (nth l k)) j)=kd (nth out j):=fun j=>by
   grind [I1]
  refine ⟨by have:=h.len;simp;omega,fun j hj=> ?_,fun q v hq=> ?_,fun j hj=> ?_,fun j hj=> ?_⟩
  ·rw [key];exact h.at1 j (by grind)
  ·obtain ⟨j,h1,h2,h3⟩:=h.at2 q v hq
   grind
  ·simp only [Vk] at hj;rw [I1 hi]
   split
   ·rename_i e;subst e;refine ⟨k,Za,rfl,fun p hp2 he=> ?_⟩;rcases BX.1 hp2 with h5 | rfl
    ·obtain ⟨j,h6,h7,h8⟩:=h.bst i hi
     grind
    omega
   ·rename_i e;obtain ⟨p,h2,h3,h4⟩:=h.bst j hj;refine ⟨p,Za,h3,fun p' hp' he=> ?_⟩
    grind
  ·rcases BX.1 hj with h5 | rfl
   ·obtain ⟨p,h6,h7⟩:=h.all j h5
    grind
   grind
 ·rename_i hp;refine ⟨by have:=h.len;omega,h.at1,h.at2,fun j hj=> ?_,fun j hj=> ?_⟩
  ·obtain ⟨p,h2,h3,h4⟩:=h.bst j hj;refine ⟨p,Za,h3,fun p' hp' he=> ?_⟩
   grind
  ·rcases BX.1 hj with h5 | rfl
   ·exact h.all j h5
   grind
structure Cheap (l ys:List Col):Prop where
 asc:ys.Pairwise fun a b=>cfK a b<0
 bst: ∀d∈ys,Bst l l.length d
 all: ∀c∈l,∃d∈ys,kd d=kd c
theorem oF {l:List Col} {m:List (Kd×Int)} {out ys:List Col} (h:Chp l l.length m out) (hp:ys.Perm out) (ha:ys.Pairwise fun a b=> ¬cfK b a<0):Cheap l ys:=by
 have hnd:out.Pairwise fun a b=>kd a≠kd b:=by
  rw [Kv];intro i j hi hj hij e;have h1:=h.at1 i hi;have h2:=h.at1 j hj
  grind [Zk]
 have hnd2:ys.Pairwise fun a b=>kd a≠kd b:=(hp.pairwise_iff fun h e=>h e.symm).2 hnd;refine ⟨(hnd2.and ha).imp fun {a b} hh=> ?_,fun d hd=> ?_,fun c hc=> ?_⟩
 ·rw [EX] at hh ⊢
  grind [kd]
 ·obtain ⟨i,hi,rfl⟩:=ZN.1 (hp.mem_iff.1 hd);rw [<- Zk hi];exact h.bst i hi
 ·obtain ⟨j,hj,rfl⟩:=ZN.1 hc;obtain ⟨i,hi,e⟩:=h.all j hj
  grind [Zk]
theorem OB (l:List Col) (c:Bool) (hl:l.length<=8192):ACalls Tryz.prog 137 [.p (.list c (l.map Xj))] [] fun y H'=> ∃ys:List Col,(Cheap l ys/\ys.length<=l.length)/\y= .p (.list false (ys.map Xj))/\H'= []:=by
 refine Ze [15] Tryz.func137 rfl yF ?_;simp (disch:=omega) only [Tryz.f137,go_sem,seval];refine Zl [3,11,12] (fun q:Nat×List (Kd×Int)×List Col=> [(4,.sl 1 0 q.2.2.length q.2.2.length),(13,.p (.int .i64 q.1))]) (fun q=> [.map (q.2.1.map (Mk bM)),.elems 7 (q.2.2.map Xj)]) (fun q=>q.1<=l.length/\Chp l q.1 q.2.1 q.2.2) (fun q=>l.length-q.1) (0,[],[]) ⟨Zb,dY l⟩ (Weak.ofNil 4 7 (by simp (disch:=omega) only [go_sem,seval]) Zb (Weak.mk ?_)) ?_
 ·simp (disch:=omega) only [Zj,ZF,go_sem,seval]
 ·rintro ⟨k,m,out⟩ ⟨hk,hC⟩;simp only at hk hC;have hol:=hC.len;refine Zd ?_;refine cD ?_ ?_<;>intro h1<;>simp (disch:=omega) only [Sh.out h1,go_sem,seval,↓reduceIte]
  ·have hk2:k<l.length:=Za
   refine iH (l:=m) (k:=kd (nth l k)) iB (fun _ _=>trivial) trivial (by rfl) (Zd ?_)
   cases hq:mq m (kd (nth l k)) with
   | none =>
    simp (disch:=omega) only [K9,Option.getD_none,go_sem,seval];refine Lb (l:=m) (k:=kd (nth l k)) iB (fun _ _=>trivial) trivial (by rfl) fun m' hm' _=> ?_;simp (disch:=omega) only [ZY,go_sem,seval];exact ⟨(k+1,m',out++ [nth l k]),⟨Za,oG hC hq hm'⟩,Za,Weak.mk (by simp (disch:=omega) only [Xn,Zq,Zj,Zz,ZA,ZF,Xh,go_sem,seval])⟩
   | some v =>
    obtain ⟨i,hi,rfl,hkd⟩:=hC.at2 _ _ hq;have hold:=oH hC hi hkd;simp (disch:=omega) only [JU,JK,go_sem,seval];refine Xd ?_;simp (disch:=first | omega | (simp only [ZA,ZF,Zz,Zy,Z6,Xt]<;>omega)) only [Ve hi,hi,go_sem,seval,↓reduceIte];refine ZU ?_ ?_<;>intro h2
    ·rw [if_pos h2] at hold;simp (disch:=first | omega | (simp only [ZA,ZF,Zz,Zy,Z6,Xt]<;>omega)) only [go_sem,seval];exact ⟨(k+1,m,out.set i (nth l k)),⟨Za,hold⟩,Za,Weak.mk (by simp (disch:=omega) only [Up,Vk,go_sem,seval])⟩
    ·rw [if_neg h2] at hold;exact ⟨(k+1,m,out),⟨Za,hold⟩,Za,wk⟩
  ·have hkl:k=l.length:=Za
   subst hkl;refine (rN out Za (H:=_) (o:=1) rfl).mono ?_;rintro y H' ⟨rfl,ys,g1,g2,rfl⟩;have hyl:ys.length=out.length:=g1.length_eq;simp (disch:=omega) only [ZK,ZY,go_sem,seval];rw [<- hyl];refine Zo (Weak.fz (o:=1) (by rfl)) (Zh [] _ _ _ _ (Jl ?_));exact ⟨.p (.list false (ys.map Xj)),[],wk,ys,⟨oF hC g1 g2,Za⟩,rfl,rfl⟩
def Yk (x:Inst):Nat->Nat
 | 0=>0
 | i+1=>if (nth x.orders i).off=true then Yk x i else Yk x i|||pw i
theorem MV (x:Inst): ∀i,Yk x i<2^i
 | 0=>by simp [Yk]
 | i+1=>by
  have:=MV x i
  have h:2^(i+1)=2*2^i:=Za
  rw [Yk]
  split
  ·omega
  ·exact QQ Za (by rw [pw];omega)
theorem UQ (x:Inst): ∀(n i:Nat),(Yk x n).testBit i=(decide (i<n)&& !(nth x.orders i).off)
 | 0,i=>by simp [Yk]
 | n+1,i=>by
  rw [Yk]
  split
  ·rename_i h;rw [UQ x n i]
   by_cases e:i=n
   ·subst e;simp [h]
   ·have:decide (i<n+1)=decide (i<n):=by simp;omega
    rw [this]
  ·rename_i h;rw [Ae,UQ x n i,pw,Nat.testBit_two_pow]
   grind
theorem uZ (o:Ord):PC 173 [.p (eOrd o)] (.bool true):=by
 refine Zc Tryz.func173 rfl zJ ?_;simp (disch:=omega) only [Tryz.f173,go_sem,seval,↓reduceIte]
theorem Zcn (x:Inst) (hn:x.orders.length<=10):PC 172 [.p (Zr x),.fn (.func 173) [] []] (.int .i64 ((Yk x x.orders.length:Nat):Int)):=by
 refine Ze [] Tryz.func172 rfl zH ?_;simp (disch:=omega) only [Tryz.f172,go_sem,seval];refine Zl [1,9,10] (fun k:Nat=> [(5,.p (.int .i64 ((Yk x k:Nat):Int))),(11,.p (.int .i64 k))]) (fun _=> [Zf x]) (fun k=>k<=x.orders.length) (fun k=>x.orders.length-k) 0 Zb (Weak.mk ?_) ?_
 ·have h00:((Yk x 0:Nat):Int)=0:=rfl;simp (disch:=omega) only [h00,Zf,go_sem,seval]
 ·intro k hk;refine YD ?_;refine cD ?_ ?_<;>intro h1<;>simp (disch:=omega) only [Sh.out h1,go_sem,seval,↓reduceIte]
  ·have hk2:k<x.orders.length:=Za
   have hm:=MV x k;have hp:2^k<=2^10:=Yi Za Za;have hpw:pw k<=1024:=hp;refine Q3 ?_ ?_<;>intro h2
   ·refine (uZ (nth x.orders k)).use (Zd ?_)
    have ho:(nth x.orders k).off=false:=by grind
    exact ⟨k+1,Za,Za,Weak.mk (by simp (disch:=omega) only [Yk,ho,YT,go_sem,seval,↓reduceIte])⟩
   ·have ho:(nth x.orders k).off=true:=by grind
    exact ⟨k+1,Za,Za,Weak.mk (by simp (disch:=omega) only [Yk,ho,go_sem,seval,↓reduceIte])⟩
  ·have hkl:k=x.orders.length:=Za
   subst hkl;exact we
theorem ZbY (x:Inst) (hn:x.orders.length<=10):PC 135 [.p (Zr x)] (.int .i64 ((Yk x x.orders.length:Nat):Int)):=by
 refine Zc Tryz.func135 rfl yD ?_;simp (disch:=omega) only [Tryz.f135,go_sem,seval];refine (Zcn x hn).use ?_;simp (disch:=omega) only [go_sem,seval]
def PK (S M:Nat):Bool:=(List.range 63).all fun i=> !S.testBit i||M.testBit i
theorem rG (S M:Nat) (hS:S<9223372036854775808):PC 174 [.p (.int .i64 (S:Int)),.p (.int .i64 (M:Int))] (.bool (PK S M)):=by
 refine Zc Tryz.func174 rfl zK ?_;simp (disch:=omega) only [Tryz.f174,go_sem,seval];have hb:=DA (S:=S) (M:=M) hS
 have hd:decide (IntKind.i64.wrap ((BitVec.ofInt 64 (S:Int)&&& ~~~BitVec.ofInt 64 (M:Int)).toNat:Int)=0)=((List.range 63).all fun i=> !S.testBit i||M.testBit i):=by
  grind
 exact ZT (fun b=>V.p (PV.bool b)) hd
def rightB (x:Inst) (c:Col):Bool:=decide (0<=c.typ)&&(decide (c.typ<x.types.length)&&(decide (0<c.set)&&(PK c.set.toNat (Yk x x.orders.length)&&(decide (0<=c.price)&&decide (c.price<=18014398509481984)))))
theorem S4 (x:Inst) (c:Col) (hs:c.set<9223372036854775808) (ht:x.types.length<=1048576):PC 136 [.p (Zr x),.p (Xj c),.p (.int .i64 ((Yk x x.orders.length:Nat):Int))] (.bool (rightB x c)):=by
 refine Zc Tryz.func136 rfl yE ?_;simp (disch:=omega) only [Tryz.f136,go_sem,seval];refine gT ?_ ?_<;>intro h1<;>simp (disch:=omega) only [Sh.out h1,go_sem,seval,↓reduceIte]
 ·refine gT ?_ ?_<;>intro h2<;>simp (disch:=omega) only [Sh.out h2,go_sem,seval,↓reduceIte]
  ·refine gT ?_ ?_<;>intro h3<;>simp (disch:=omega) only [Sh.out h3,go_sem,seval,↓reduceIte]
   ·obtain ⟨S,hS⟩: ∃S:Nat,c.set=(S:Int):=⟨c.set.toNat,Za⟩
    have e1:rightB x c=(PK S (Yk x x.orders.length)&&(decide (0<=c.price)&&decide (c.price<=18014398509481984))):=by
     simp_all [rightB]
    rw [hS];refine (rG S (Yk x x.orders.length) Za).use (Zd ?_);refine gT ?_ ?_<;>intro h4<;>simp (disch:=omega) only [Sh.out h4,go_sem,seval,↓reduceIte]
    ·refine gT ?_ ?_<;>intro h5<;>simp (disch:=omega) only [Sh.out h5,go_sem,seval,↓reduceIte]
     ·grind
     grind
    grind
   grind [rightB]
  grind [rightB]
 ·simp [rightB,h1]
theorem Zn9 (n:Nat) (h0:0<n) (h:n<16):PC 145 [.p (.int .u64 n)] (.int .i64 (AC n)):=by
 refine Zc Tryz.func145 rfl yM ?_;simp (disch:=omega) only [Tryz.f145,go_sem,seval];refine (Zcs n h0 h).use ?_;simp (disch:=omega) only [go_sem,seval]
theorem NA (n:Nat) (h0:0<n) (h:n<16):PC 111 [.p (.int .i64 n)] (.int .i64 (AC n)):=by
 refine Zc Tryz.func111 rfl xU ?_;simp (disch:=omega) only [Tryz.f111,go_sem,seval];refine cD ?_ ?_<;>intro h1<;>simp (disch:=omega) only [Sh.out h1,go_sem,seval]
 ·omega
 ·refine (Zn9 n h0 h).use ?_;simp (disch:=omega) only [go_sem,seval]
def skpF (x:Inst) (i:Nat):Int:=if (unsF x i).2=0/\(YW (unsF x i).1).2=0 then (YW (unsF x i).1).1 else-1
def Yd (ys:List Col) (i:Nat):List Col:=ys.filter fun c=>decide (AC c.set.toNat=(i:Int))
def fstF (n:Nat) (ys:List Col):List (List Col):=(List.range n).map (Yd ys)
theorem T2 {ys:List Col} {k i:Nat} (h:k<ys.length):Yd (ys.take (k+1)) i=if AC (nth ys k).set.toNat=(i:Int) then Yd (ys.take k) i++ [nth ys k] else Yd (ys.take k) i:=by
 grind [Xm,Yd,nth]
theorem kA (i:Nat):Yd [] i= []:=rfl
theorem Cs (ys:List Col) (k i:Nat):(Yd (ys.take k) i).length<=ys.length:=by
 refine JM (Eh _ _) ?_;simp;omega
theorem JB (ys):fstF 0 ys= []:=rfl
theorem QI (ys):fstF 1 ys= [Yd ys 0]:=rfl
theorem QJ (ys):fstF 2 ys= [Yd ys 0,Yd ys 1]:=rfl
theorem QK (ys):fstF 3 ys= [Yd ys 0,Yd ys 1,Yd ys 2]:=rfl
theorem QL (ys):fstF 4 ys= [Yd ys 0,Yd ys 1,Yd ys 2,Yd ys 3]:=rfl
def Cy : List (List Col)->Nat->List V
 | [],_=> []
 | p::P,o=> .sl o 0 p.length p.length::Cy P (o+1)
def HD (P:List (List Col)):List AM.Obj:=P.map fun p=> .elems 7 (p.map Xj)
theorem TN {n0:Nat} {fr:List V} {a b c:AM.Obj} (h0:n0<=4) (n:Nat):Weak n0 fr [a,b,c,.cells (List.replicate n (.p (.list true [])))] fr (a::b::c:: .cells (Cy (List.replicate n []) 4)::HD (List.replicate n [])):=by
 have hr: ∀(k o:Nat),Cy (List.replicate k []) o=(List.range k).map fun j=>V.sl (o+j) 0 0 0:=fun k=>by
  induction k with
  | zero=>intro o;rfl
  | succ k ih =>
   intro o;rw [A4,Cy,ih,List.range_succ_eq_map,Zq,List.map_map];simp only [ZF,VM,List.cons.injEq,true_and];apply Vi
   grind
 have key: ∀k,k<=n->Weak n0 fr [a,b,c,.cells (List.replicate n (.p (.list true [])))] fr (a::b::c:: .cells (((List.range k).map fun j=>V.sl (4+j) 0 0 0)++List.replicate (n-k) (.p (.list true [])))::List.replicate k (.elems 7 [])):=fun k=>by
  induction k with
  | zero=>grind [Weak.refl]
  | succ k ih =>
   intro hk
   have h1:=(ih Za).trans (Weak.nilC (n0:=n0) (fr:=fr) (o:=3) (j:=k) 7 (by rfl) (by
    grind) (by simp;omega))
   have e1:List.length (a::b::c::AM.Obj.cells (((List.range k).map fun j=>V.sl (4+j) 0 0 0)++List.replicate (n-k) (.p (.list true [])))::List.replicate k (AM.Obj.elems 7 []))=4+k:=by simp;omega
   have e2:(((List.range k).map fun j=>V.sl (4+j) 0 0 0)++List.replicate (n-k) (V.p (.list true []))).set k (.sl (4+k) 0 0 0)=((List.range (k+1)).map fun j=>V.sl (4+j) 0 0 0)++List.replicate (n-(k+1)) (V.p (.list true [])):=by
    rw [Ej _ _ Zb,show n-k=(n-(k+1))+1 by omega,A4,X4,Xn];simp
   grind [En]
 have:=key n (ZI _)
 simp_all [HD]
def skF (x:Inst) (n:Nat):List Int:=(List.range n).map (skpF x)
def nW (x:Inst) (m:Int) (f g:V):AM.Obj:= .cells [.p (.list x.net.places_c (x.net.places.map eS)),.p (.list x.net.arcs_c (x.net.arcs.map Vs)),.p (.list x.types_c (x.types.map XU)),.p (.list x.orders_c (x.orders.map eOrd)),.p (.list x.apart_c (x.apart.map eP)),.p (.list x.before_c (x.before.map eP)),f,g,.mp 1,.p (.int .i64 m)]
theorem U9 {x:Inst} {c:Col} (h:rightB x c=true) (hs:c.set<9223372036854775808): ∃S:Nat,c.set=S/\0<S/\S<2^x.orders.length/\ ∀i,S.testBit i=true->i<x.orders.length/\(nth x.orders i).off=false:=by
 simp only [rightB,Zw,Zs] at h;obtain ⟨_,_,h3,h4,_⟩:=h
 have key: ∀i,c.set.toNat.testBit i=true->i<x.orders.length/\(nth x.orders i).off=false:=fun i hi=>by
  have h63:i<63:=by
   rcases Wm i 63 with h | h
   ·exact h
   ·have:2^63<=2^i:=Yi Za h
    grind [K7]
  have:=ZC.1 h4 i (ZR.2 h63)
  grind [UQ]
 refine ⟨c.set.toNat,Za,Za,?_,key⟩;refine Nat.lt_pow_two_of_testBit _ fun i hi=> ?_
 grind
theorem Zct {S n:Nat} (h0:0<S) (h:S<2^n) (hn:n<=4):AC S<n/\0<=AC S:=by
 have:n=0\/n=1\/n=2\/n=3\/n=4:=Za
 unfold AC
 grind
theorem F4 (x:Inst) (k:Nat):skF x (k+1)=skF x k++ [skpF x k]:=by simp [skF,X4]
theorem J1 (x:Inst) (k:Nat):(skF x k).length=k:=by simp [skF]
theorem Zi1 (x:Inst):skF x 0= []:=rfl
theorem MO {P:Program} {ko:List Nat} {l:List Oper} {n:Nat} {rem:List Nat} {fr:List V} {H:List AM.Obj} {K:List V->List AM.Obj->Prop} (m:Nat) (Y:V) (Z:List AM.Obj) (hr:U8 l rem= [m]) (h:Zv P (Z7 l m) fr H fun y H'=>y=Y/\H'=Z)
  (k:(∀k∈ko,oat Z k=oat H k)/\BU P ko l n (rem.erase m) (Ua fr (Z7 l m).dst Y) Z K):BU P ko l (n+1) rem fr H K :=
 Hh m _ hr h fun y H' hq=>by grind
theorem S1 (x:Inst) (l:List Col) (lc:Bool) (hn:x.orders.length<=4) (ht:x.types.length<=1048576) (hu: ∀i:Nat,scoR 1152921504606846976 (unsF x i).1) (hs: ∀c∈l,c.set<9223372036854775808) (hl:l.length<=1048576) :
  ACalls Tryz.prog 105 [.p (Zr x),.p (.list lc (l.map Xj))] [] fun y H'=>(8192<l.length/\y= .tup [.p .nilp,.p (.int .i64 4)]/\H'= [])\/(l.length<=8192/\(∃c∈l,rightB x c=false)/\y= .tup [.p .nilp,.p (.int .i64 2)]/\H'= []) \/
   (l.length<=8192/\(∀c∈l,rightB x c=true)/\ ∃ys,(Cheap l ys/\ys.length<=l.length)/\y= .tup [.ptr 2 0,.p (.int .i64 0)]/\H'= .cells (List.replicate 6 .junk)::(YL x (.list false ((fstF x.orders.length ys).map Y7)) (.list false ((skF x x.orders.length).map eI)) (Yk x x.orders.length) []).map (shO 1)):=by
 refine Ze [10] Tryz.func105 rfl xP ?_;simp (disch:=omega) only [Tryz.f105,go_sem,seval];refine cD ?_ ?_<;>intro h0<;>simp (disch:=omega) only [Sh.out h0,go_sem,seval]
 ·exact ⟨_,[],wk,.inl ⟨Za,rfl,rfl⟩⟩
 ·refine XR [1] 4 mixed Zg Zg Zg Zb (Zd ?_);refine Zn (ZbY x Za) (Zd ?_);refine Xl 1 _ _ Zg (by refine Zd ?_;exact ⟨rfl,rfl⟩) (Y9 ?_);simp (disch:=omega) only [show ∀(l:List V),QD (V.mp 1::l)=none from fun _=>rfl,Option.map_none,go_sem,seval];refine Zl [1,2,6,27,28] (fun k:Nat=> [(29,.p (.int .i64 k))]) (fun _=> [Zf x,.map [],nW x ((Yk x x.orders.length:Nat):Int) (.p (.list true [])) (.p (.list true []))]) (fun k=>k<=l.length/\ ∀j,j<k->rightB x (nth l j)=true) (fun k=>l.length-k) 0 ⟨Za,fun j hj=>Za⟩ (Weak.mk ?_) ?_
  ·simp (disch:=omega) only [Zf,nW,go_sem,seval]
  ·rintro k ⟨hk,hr⟩;simp (disch:=omega) only [Zf,nW,go_sem,seval];refine cD ?_ ?_<;>intro h1<;>simp (disch:=omega) only [Sh.out h1,go_sem,seval,↓reduceIte]
   ·have hk2:k<l.length:=Za
    refine Xd (Zd ?_);refine Zn (S4 x (nth l k) (hs _ (ZX hk2)) ht) (Zd ?_)
    cases hq:rightB x (nth l k) with
    | false =>
     refine F9 ?_;exact ⟨_,[],wk,.inr (.inl ⟨Za,⟨_,ZX hk2,hq⟩,rfl,rfl⟩)⟩
    | true =>
     refine Ga ?_
     exact ⟨k+1,⟨Za,fun j hj=>by
      grind⟩,Za,wk⟩
   ·have hkl:k=l.length:=Za
    subst hkl
    have hall: ∀c∈l,rightB x c=true:=fun c hc=>by
     obtain ⟨j,hj,rfl⟩:=ZN.1 hc
     grind [Zk]
    clear hr hk h1;generalize ((Yk x x.orders.length:Nat):Int)=m;have hun: ∀i:Nat,PT 138 [.p (Zr x),.p (.int .i64 i)] [.p (DV (unsF x i).1),.p (.int .i64 (unsF x i).2)]:=fun i=>Nk x i Za;refine YP (D6 4 rfl rfl (Zd ?_));refine ⟨_,_,TT 190 84 _ _ x.orders.length 24 (.list true []) rfl Zg Zg Zg Zg (by rfl) Za Za (by simp (disch:=omega) only [go_sem,seval]) (by simp (disch:=omega) only [go_sem,seval]),?_⟩
    refine Zd ?_
    have h5:x.orders.length=0\/x.orders.length=1\/x.orders.length=2\/x.orders.length=3\/x.orders.length=4:=Za
    refine Zo (TN Zb x.orders.length) ?_;refine Zh [17] _ _ _ _ (Zd ?_);refine (OB l lc Za).useV fun ys hC=>Zd ?_;obtain ⟨hC,hyl⟩:=hC;rcases h5 with h5 | h5 | h5 | h5 | h5
    all_goals
     simp (disch:=omega) only [h5,List.replicate,Cy,HD,Zq,Zj,go_sem,seval];refine Zl [2,6,50,51] (fun k:Nat=> [(52,.p (.int .i64 k))]) (fun k=> [Zf x,.map [],nW x m (.sl 3 0 x.orders.length x.orders.length) (.p (.list true [])),.cells (Cy (fstF x.orders.length (ys.take k)) 4)]++HD (fstF x.orders.length (ys.take k))) (fun k=>k<=ys.length) (fun k=>ys.length-k) 0 Za (Weak.mk ?_) ?_
     ·simp (disch:=omega) only [h5,QS,kA,ZF,JB,QI,QJ,QK,QL,Cy,HD,Zq,Zj,ZL,ZD,Zf,nW,go_sem,seval]
     ·intro k hk;simp (disch:=omega) only [h5,JB,QI,QJ,QK,QL,Cy,HD,Zq,Zj,ZL,ZD,Zf,nW,go_sem,seval];refine cD ?_ ?_<;>intro h1<;>simp (disch:=omega) only [Sh.out h1,go_sem,seval,↓reduceIte]
      ·have hk2:k<ys.length:=Za
       obtain ⟨j,hj,hjl,_⟩:=hC.bst _ (ZX hk2)
       have hmem:nth ys k∈l:=by rw [<- hjl];exact ZX hj
       obtain ⟨S,hS,hS0,hS1,hS2⟩:=U9 (hall _ hmem) (hs _ hmem);have hlt:=Zct hS0 hS1 hn;have h16:S<16:=Uh hS1 (by rw [h5];decide)
       have cl:PC 111 [.p (.int .i64 (nth ys k).set)] (.int .i64 (AC (nth ys k).set.toNat)):=by
        rw [hS];exact NA S hS0 h16
       refine (cl).use ?_;simp (disch:=omega) only [go_sem,seval]
       have htz:AC (nth ys k).set.toNat=AC S:=by rw [hS];rfl
       have hi:AC (nth ys k).set.toNat=0\/AC (nth ys k).set.toNat=1\/AC (nth ys k).set.toNat=2\/AC (nth ys k).set.toNat=3:=Za
       rcases hi with hi | hi | hi | hi
       all_goals try omega
       all_goals
        simp (disch:=omega) only [hi,go_sem,seval];refine AY [14] [1,2,3] [2] 15 mixed Zg Zg Zg Zg Zb ?_;simp (disch:=omega) only [go_sem,seval,↓reduceIte];refine ⟨fun q hq p' hp=> ?_,?_⟩
        ·simp only [Z5,W0,Wa] at hq;rcases hq with rfl | rfl | rfl
         ·obtain rfl:59=p':=VE hp;exact VB (by decide)
         ·obtain rfl:60=p':=VE hp;exact VB (by decide)
         ·obtain rfl:61=p':=VE hp;exact VB (by decide)
        ·have q0:=Cs ys k 0;have q1:=Cs ys k 1;have q2:=Cs ys k 2;have q3:=Cs ys k 3;refine MO 14 _ _ Zg (by simp (disch:=omega) only [go_sem,seval,↓reduceIte];exact ⟨rfl,rfl⟩) ?_;refine ⟨fun k hk=>by simp at hk;subst hk;rfl,IS ?_⟩;simp (disch:=omega) only [go_sem,seval];exact ⟨k+1,Za,Za,Weak.mk (by simp (disch:=omega) only [h5,T2 hk2,hi,Xn,Zz,ZA,ZF,Xh,QI,QJ,QK,QL,Cy,Zq,Zj,go_sem,seval,↓reduceIte])⟩
      ·have hkl:k=ys.length:=Za
       subst hkl;clear hk h1
       try refine Zo (Weak.fz (o:=4) (by rfl)) ?_
       try refine Zo (Weak.fz (o:=5) (by rfl)) ?_
       try refine Zo (Weak.fz (o:=6) (by rfl)) ?_
       try refine Zo (Weak.fz (o:=7) (by rfl)) ?_
       refine Zh [17] _ _ _ _ ?_;simp (disch:=omega) only [X3,Zq,Zj,ZK,ZY,eq_self,go_sem,seval,↓reduceIte];refine Zo (Weak.fzC (o:=3) (ys:=(fstF x.orders.length ys).map Y7) (by rw [h5];rfl) (fun y hy=>by obtain ⟨p,_,rfl⟩:=XO.1 hy;rfl)) ?_;refine Zh [17] _ _ _ _ ?_;simp (disch:=omega) only [h5,JB,QI,QJ,QK,QL,Zq,Zj,ZK,ZY,ZA,ZF,Xh,Nat.reduceAdd,eq_self,go_sem,seval,↓reduceIte]
       refine Zh [28] _ _ _ _ ?_;simp (disch:=omega) only [go_sem,seval,↓reduceIte];refine Zl [2,6,78] (fun k:Nat=> [(79,.p (.int .i64 k))]) (fun k=> [Zf x,.map [],nW x m (.p (.list false ((fstF x.orders.length ys).map Y7))) (.sl (4+x.orders.length) 0 k k),.dead]++List.replicate x.orders.length .dead++ [.elems 1 ((skF x k).map eI)]) (fun k=>k<=x.orders.length) (fun k=>x.orders.length-k) 0 Za ((Weak.nilC (o:=2) (j:=7) 1 (by rfl) (by rfl) Zb).trans (Weak.mk ?_)) ?_
       ·simp (disch:=omega) only [h5,Zi1,List.replicate,ZK,ZY,ZA,ZF,Xh,Nat.reduceAdd,JB,QI,QJ,QK,QL,Zq,Zj,ZL,ZD,Zf,nW,go_sem,seval]
       ·intro k hk;simp (disch:=omega) only [h5,List.replicate,Nat.reduceAdd,JB,QI,QJ,QK,QL,Zq,Zj,ZL,ZD,Zf,nW,go_sem,seval];refine cD ?_ ?_<;>intro h1<;>simp (disch:=omega) only [Sh.out h1,go_sem,seval,↓reduceIte]
        ·have hk2:k<x.orders.length:=Za
         refine Y5 (hun k) ?_;simp (disch:=omega) only [go_sem,seval,↓reduceIte];refine cD ?_ ?_<;>intro h2<;>simp (disch:=omega) only [Sh.out h2,go_sem,seval,↓reduceIte]
         ·refine Y5 (Ht _ (hu k)) ?_;simp (disch:=omega) only [go_sem,seval];refine cD ?_ ?_<;>intro h3<;>simp (disch:=omega) only [Sh.out h3,go_sem,seval,↓reduceIte]
          ·have hsk:skpF x k=(YW (unsF x k).1).1:=by simp [skpF,h2,h3]
           simp (disch:=omega) only [J1,go_sem,seval];rw [if_pos ⟨Za,Za⟩];simp (disch:=omega) only [J1,Zy,Zz,ZA,ZF,Xh,eq_self,WU,go_sem,seval];exact ⟨k+1,Za,Za,Weak.mk (by simp (disch:=omega) only [h5,F4,hsk,Xn,List.replicate,Nat.reduceAdd,JB,QI,QJ,QK,QL,Zq,Zj,ZL,ZD,go_sem,seval])⟩
          ·have hsk:skpF x k= -1:=by simp [skpF,h3]
           simp (disch:=omega) only [J1,go_sem,seval];rw [if_pos ⟨Za,Za⟩];simp (disch:=omega) only [J1,Zy,Zz,ZA,ZF,Xh,eq_self,WU,go_sem,seval];exact ⟨k+1,Za,Za,Weak.mk (by simp (disch:=omega) only [h5,F4,hsk,Xn,List.replicate,Nat.reduceAdd,JB,QI,QJ,QK,QL,Zq,Zj,ZL,ZD,go_sem,seval])⟩
         ·have hsk:skpF x k= -1:=by simp [skpF,h2]
          simp (disch:=omega) only [J1,go_sem,seval];rw [if_pos ⟨Za,Za⟩];simp (disch:=omega) only [J1,Zy,Zz,ZA,ZF,Xh,eq_self,WU,go_sem,seval];exact ⟨k+1,Za,Za,Weak.mk (by simp (disch:=omega) only [h5,F4,hsk,Xn,List.replicate,Nat.reduceAdd,JB,QI,QJ,QK,QL,Zq,Zj,ZL,ZD,go_sem,seval])⟩
        ·have hkl:k=x.orders.length:=Za
         clear hk h1;refine Zo (Weak.fz (o:=4+x.orders.length) (S:=1) (xs:=(skF x k).map eI) (by rw [h5];rfl)) ?_;refine Zh [] _ _ _ _ ?_;simp (disch:=omega) only [h5,Zq,Zj,ZK,ZY,Zy,J1,Nat.reduceAdd,eq_self,go_sem,seval,↓reduceIte];exact ⟨.tup [.ptr 2 0,.p (.int .i64 0)],_,Weak.mk (by simp (disch:=omega) only [hkl,h5,YL,Vr,shO,shVs,shV,JB,QI,QJ,QK,QL,Zq,Zj,go_sem,seval]),.inr (.inr ⟨Za,hall,ys,⟨hC,hyl⟩,rfl,rfl⟩)⟩
theorem Zcu : ∀S:Fin 16,0<S.val->sHas (S.val:Int) (AC S.val)=true:=by decide+kernel
theorem NH {x:Inst} (hx:InstOk x) (i:Nat): -1<=skpF x i/\skpF x i<=18014398509481984:=by
 unfold skpF
 split
 ·rename_i h
  have hm:(unsF x i).1.cost<=1000000/\(unsF x i).1.moved<=1/\0<=(unsF x i).1.moved/\(unsF x i).1.other=0/\(unsF x i).1.work=0:=by
   unfold unsF
   split
   ·simp [zSco]
   ·split
    ·simp [zSco]
    ·split
     ·simp [zSco]
     ·have ha:=(hx.orders.2 (i:Int).toNat Za).arg;simp only [argOk,rng,Zw,Zs] at ha
      grind
  obtain ⟨_,h2⟩:=h;unfold YW at h2 ⊢
  grind
 ·omega
theorem Ra {x:Inst} {l ys:List Col} (hx:InstOk x) (hn:x.orders.length<=4) (hC:Cheap l ys) (hr: ∀c∈l,rightB x c=true) (hs: ∀c∈l,c.set<9223372036854775808):ChOk x.orders.length x (fstF x.orders.length ys) (skF x x.orders.length):=by
 refine ⟨fun i hi c hc=> ?_,?_,fun i hi=> ?_⟩
 ·have e:nth (fstF x.orders.length ys) i=Yd ys i:=by
   grind [fstF,Zk]
  rw [e,Yd,JV] at hc;obtain ⟨h1,h2⟩:=hc;simp only [Zs] at h2;obtain ⟨j,hj,hjl,_⟩:=hC.bst c h1
  have hm:c∈l:=by grind [ZX]
  obtain ⟨S,q1,q2,q3,_⟩:=U9 (hr c hm) (hs c hm);have h16:S<16:=Uh q3 (Yi (n:=2) Za hn);have hb:=Zcu ⟨S,h16⟩ q2;have hr1:=hr c hm;simp only [rightB,Zw,Zs] at hr1
  grind
 ·have ht:=hx.types;simp only [typesOk,rng,Zs] at ht;refine ⟨Za,fun t _=> ?_⟩;rcases Wm t x.types.length with h | h
  ·have:=ht.2 t h;unfold Jo at this;have:=this.1.1.1.1.1.1.2;simp only [rng,Zs] at this;omega
  ·rw [show nth x.types t=default from by grind [nth]]
   decide
 simp_all [skF,Zk,NH]
def zSt : St:=⟨0,0,[0,0,0,0,0,0]⟩
def IU (x:Inst) (ys:List Col):Int:=YY x.orders.length ((Yk x x.orders.length:Nat):Int) x (fstF x.orders.length ys) (skF x x.orders.length) 20 (W9 x.orders.length ((Yk x x.orders.length:Nat):Int) zSt)
theorem uK (n:Nat):StV n zSt:=⟨rfl,⟨by decide,by simp [zSt]⟩,⟨0,rfl,Za⟩,fun j hj=>by
 have:nth zSt.used j=0:=by
  have:j=0\/j=1\/j=2\/j=3\/j=4\/j=5:=Za
  rcases this with rfl | rfl | rfl | rfl | rfl | rfl<;>rfl
 omega⟩
theorem F6 {α:Type} {r:α->α->Prop} (irr: ∀a,¬r a a) (asy: ∀a b,r a b-> ¬r b a): ∀ {l l':List α},l.Pairwise r->l'.Pairwise r->(∀a,a∈l↔a∈l')->l=l'
 | [],[],_,_,_=>rfl
 | [],b::_,_,_,h=>by have:=(h b).2 Zb;simp at this
 | a::_,[],_,_,h=>by have:=(h a).1 Zb;simp at this
 | a::l,b::l',h1,h2,h=>by
  rw [List.pairwise_cons] at h1 h2
  have hab:a=b:=by
   rcases Z5.1 ((h a).1 Zb) with e | e
   ·exact e
   ·rcases Z5.1 ((h b).2 Zb) with e' | e'
    ·exact e'.symm
    ·exact absurd (h1.1 b e') (asy _ _ (h2.1 a e))
  subst hab
  rw [F6 irr asy h1.2 h2.2 fun c=>⟨fun hc=>by
   rcases Z5.1 ((h c).1 (X9 _ hc)) with e | e
   ·subst e;exact absurd (h1.1 c hc) (irr c)
   ·exact e,fun hc=>by
   rcases Z5.1 ((h c).2 (X9 _ hc)) with e | e
   ·subst e;exact absurd (h2.1 c hc) (irr c)
   ·exact e⟩]
theorem dT {l ys:List Col} (h:Cheap l ys) {c:Col} (hc:c∈l): ∃d∈ys,kd d=kd c/\d.price<=c.price:=by
 obtain ⟨d,hd,e⟩:=h.all c hc;obtain ⟨j,hj,rfl⟩:=ZN.1 hc;obtain ⟨i,hi,_,h3⟩:=h.bst d hd
 grind [Zk]
theorem dS {l ys:List Col} (h:Cheap l ys) {d:Col} (hd:d∈ys):d∈l:=by
 obtain ⟨j,hj,e,_⟩:=h.bst d hd
 grind [ZX]
theorem M1 {n i:Nat} {ys:List Col} :nth (fstF n ys) i=if i<n then Yd ys i else []:=by
 split
 ·grind [fstF,Zk]
 ·rename_i h;rw [nth,JP,List.getElem?_eq_none (by simp [fstF];omega)];rfl
def bP (a b:Int):Prop:=b<0\/(0<=a/\a<=b)
theorem Rs {x:Inst} {s:St} {r:Col->Int} (hr: ∀c,-1<=r c): ∀ {l:List Col} {a:Int},(∀c∈l,0<=c.price) ->
  bP (l.foldl (fun o c=>if Yz x s c=true then YK o c.price (r c) else o) a) a/\ ∀c∈l,Yz x s c=true->0<=r c->bP (l.foldl (fun o c=>if Yz x s c=true then YK o c.price (r c) else o) a) (c.price+r c)
 | [],a,_=>⟨by grind [bP],fun c hc=>by simp at hc⟩
 | d::l,a,hp=>by
  have hd:=hp d Zb;obtain ⟨g1,g2⟩:=Rs (x:=x) (s:=s) hr (l:=l) (a:=if Yz x s d=true then YK a d.price (r d) else a) fun c hc=>hp c (X9 _ hc);rw [XG];generalize l.foldl (fun o c=>if Yz x s c=true then YK o c.price (r c) else o) (if Yz x s d=true then YK a d.price (r d) else a)=M at g1 g2;refine ⟨?_,fun c hc hy h0=> ?_⟩
  ·grind [bP,YK]
  ·rcases Z5.1 hc with rfl | hc
   ·rw [if_pos hy] at g1
    grind [bP,YK]
   grind
theorem G8 {x:Inst} {s:St} {r:Col->Int} : ∀ {l:List Col} {a:Int},l.foldl (fun o c=>if Yz x s c=true then YK o c.price (r c) else o) a=a\/ ∃c∈l,Yz x s c=true/\0<=r c/\l.foldl (fun o c=>if Yz x s c=true then YK o c.price (r c) else o) a=c.price+r c
 | [],a=> .inl rfl
 | d::l,a=>by
  rw [XG];rcases G8 (x:=x) (s:=s) (r:=r) (l:=l) (a:=if Yz x s d=true then YK a d.price (r d) else a) with h | ⟨c,h1,h2,h3,h4⟩
  ·rw [h]
   split
   ·rename_i hy;unfold YK
    split
    ·grind
    omega
   omega
  grind
abbrev Cm := { c:Col // ∃S:Nat,c.set=S/\0<S/\S<16 }
instance : Inhabited Cm := ⟨⟨⟨0, 1, 0, default⟩, 1, rfl, by decide, by decide⟩⟩
def lo (c:Col):Int:=AC c.set.toNat
def oA (a b:Col):Int:=qC [Wv a.typ b.typ,Wv (lo a) (lo b)]
theorem Jw {a b:Col} :oA a b<0↔a.typ<b.typ\/(a.typ=b.typ/\lo a<lo b):=by
 grind [oA,Eu,eJ,eG]
def wL (a b:Cm):Int:=oA a.val b.val
theorem oC : Go.Sort.SWO (ltOf wL) where
 irrefl x:=by grind [ltOf,wL,Jw]
 trans x y z h1 h2:=by simp only [ltOf,wL,Zs,Jw] at *;omega
 ntrans x y z h1 h2:=by grind [ltOf,wL,Jw]
theorem Zir (c:Cm):PC 111 [.p (.int .i64 c.val.set)] (.int .i64 (lo c.val)):=by
 obtain ⟨c,S,h1,h2,h3⟩:=c
 grind [lo,NA]
theorem S6 (a b:Cm):PC 110 [.p (Xj a.val),.p (Xj b.val)] (.int .i64 (wL a b)):=by
 refine Zc Tryz.func110 rfl xT ?_;simp (disch:=omega) only [Tryz.f110,go_sem,seval];refine Xd (Zd ?_);refine Zn (DC a.val.typ b.val.typ) (Zd ?_);refine Zn (Zir a) (Zd ?_);refine Zn (Zir b) (Zd ?_);refine Zn (DC (lo a.val) (lo b.val)) (Zd ?_);refine Zn (qD [Wv a.val.typ b.val.typ,Wv (lo a.val) (lo b.val)] false Zb) (Zd ?_)
 rfl
theorem rM (xs:List Cm) (hl:xs.length<=1048576) {H:List AM.Obj} {o:Nat} (hH:H[o]? =some (.elems 7 (xs.map fun c=>Xj c.val))) :
  ACalls Tryz.prog 109 [.sl o 0 xs.length xs.length,.fn (.func 110) [] []] H fun y H'=>y= .tup []/\ ∃ys:List Cm,ys.Perm xs/\ys.Pairwise (fun a b=> ¬wL b a<0)/\H'=H.set o (.elems 7 (ys.map fun c=>Xj c.val)) :=
 ACalls.sortFunc NI gJ 7 Tryz.isAgg121 Tryz.sizeOf121 (fun c:Cm=>Xj c.val) (fun x=>⟨_,rfl,rfl,rfl⟩) wL oC 110 S6 xs Za hH
theorem Dj {n:Nat} {m:Int} {x:Inst} {fst:List (List Col)} {sk:List Int} : ∀(d:Nat) (s:St),∀c∈(Ym n m x fst sk d s).1,∃i,i<fst.length/\c∈nth fst i
 | 0,s,c,h=>by simp [Ym] at h
 | d+1,s,c,h=>by
  rw [Ym] at h
  split at h
  ·simp at h
  ·split at h
   ·rename_i c' hf;simp only [Z5] at h;rcases h with rfl | h
    ·refine ⟨s.ix.toNat,?_,QN hf⟩;rcases Wm s.ix.toNat fst.length with h | h
     ·exact h
     ·rw [show nth fst s.ix.toNat= [] from by simp [nth,JP,List.getElem?_eq_none h];rfl] at hf;simp at hf
    ·exact Dj d _ c h
   ·exact Dj d _ c h
def zPlC : Pln:=⟨true,[],true,[]⟩
def mH (x:Inst) (l:List Col) (p:Pln) (c e:Int):Prop:=(8192<l.length/\p=zPlC/\c=0/\e=4)\/(l.length<=8192/\(∃c∈l,rightB x c=false)/\p=zPlC/\c=0/\e=2) \/
 (l.length<=8192/\(∀c∈l,rightB x c=true)/\ ∃ys,Cheap l ys/\ys.length<=l.length/\((IU x ys<0/\p=zPlC/\c=0/\e=24)\/(0<=IU x ys/\c=IU x ys/\e=0 /\
  ∃zs:List Col,zs.Perm (Ym x.orders.length ((Yk x x.orders.length:Nat):Int) x (fstF x.orders.length ys) (skF x x.orders.length) 20 (W9 x.orders.length ((Yk x x.orders.length:Nat):Int) zSt)).1/\zs.Pairwise (fun a b=> ¬oA b a<0) /\
   p=⟨false,zs.map (·.route),false,(Ym x.orders.length ((Yk x x.orders.length:Nat):Int) x (fstF x.orders.length ys) (skF x x.orders.length) 20 (W9 x.orders.length ((Yk x x.orders.length:Nat):Int) zSt)).2⟩)))
theorem Di {n:Nat} {m:Int} {x:Inst} {fst:List (List Col)} {sk:List Int} : ∀(d:Nat) (s:St),(Ym n m x fst sk d s).1.length<=d/\(Ym n m x fst sk d s).2.length<=d
 | 0,s=>by simp [Ym]
 | d+1,s=>by
  rw [Ym]
  split
  ·simp
  ·split
   ·rename_i c' hf;have:=Di (n:=n) (m:=m) (x:=x) (fst:=fst) (sk:=sk) d (Vp n m s c');simp;omega
   ·have:=Di (n:=n) (m:=m) (x:=x) (fst:=fst) (sk:=sk) d (De n m s);simp;omega
theorem T0 (x:Inst) (l:List Col) (lc:Bool) (hx:InstOk x) (hn:x.orders.length<=4) (ht:x.types.length<=1048576) (hs: ∀c∈l,c.set<9223372036854775808) (hl:l.length<=1048576) :
  ACalls Tryz.prog 78 [.p (Zr x),.p (.list lc (l.map Xj))] [] fun y H'=> ∃p c e,mH x l p c e/\y= .tup [.p (Jy p),.p (.int .i64 c),.p (.int .i64 e)]/\H'= []:=by
 refine Ze [16] Tryz.func78 rfl Zh0 ?_;simp (disch:=omega) only [Tryz.f78,go_sem,seval];refine ((S1 x l lc hn ht (fun i=>Ax Za (NS hx _)) hs hl).behind (by rfl) _).mono ?_;rintro y H' ⟨y1,H1,hq,rfl,rfl⟩;rcases hq with ⟨h1,rfl,rfl⟩ | ⟨h1,h2,rfl,rfl⟩ | ⟨h1,h2,ys,⟨hC,hyl⟩,rfl,rfl⟩
 ·simp (disch:=omega) only [shV,shVs,Zj,go_sem,seval];exact ⟨.tup [.p (Jy zPlC),.p (.int .i64 0),.p (.int .i64 4)],[],Weak.mk (by simp (disch:=omega) only [zPlC,Zj,go_sem,seval]),_,_,_,Or.inl ⟨h1,rfl,rfl,rfl⟩,rfl,rfl⟩
 ·simp (disch:=omega) only [shV,shVs,Zj,go_sem,seval];exact ⟨.tup [.p (Jy zPlC),.p (.int .i64 0),.p (.int .i64 2)],[],Weak.mk (by simp (disch:=omega) only [zPlC,Zj,go_sem,seval]),_,_,_,Or.inr (Or.inl ⟨h1,h2,rfl,rfl,rfl⟩),rfl,rfl⟩
 ·have hok:=Ra hx hn hC h2 hs
  have hcl: ∀r∈fstF x.orders.length ys,r.length<=1048576:=fun r hr=>by
   obtain ⟨p,_,rfl⟩:=XO.1 hr
   grind [Yd]
  obtain ⟨m,hm⟩: ∃m:Int,m=((Yk x x.orders.length:Nat):Int):=⟨_,rfl⟩;obtain ⟨B,hB⟩: ∃B,B=IU x ys:=⟨_,rfl⟩;simp (disch:=omega) only [shV,shVs,shO,YL,Vr,Zq,Zj,List.replicate,ZL,ZD,go_sem,seval];rw [<- hm];refine ACalls.mono ((F2 x (.list false ((fstF x.orders.length ys).map Y7)) (.list false ((skF x x.orders.length).map eI)) m [] zSt rfl (by decide) Za (by decide)).back [Zf x,.cells [.p (.list true []),.p (.list true [])],.cells (List.replicate 6 .junk)] (by rfl)) ?_;rintro y H' ⟨y1,H1,⟨rfl,rfl⟩,rfl,rfl⟩;obtain ⟨v1,_⟩:=Lq (m:=m) (uK x.orders.length)
  have hrg:=VW (m:=m) hok 20 _ v1
  have hbb:B=YY x.orders.length m x (fstF x.orders.length ys) (skF x x.orders.length) 20 (W9 x.orders.length m zSt):=by rw [hB,IU,hm]
  rw [<- hbb] at hrg;obtain ⟨R,hR⟩: ∃R,R=Ym x.orders.length m x (fstF x.orders.length ys) (skF x x.orders.length) 20 (W9 x.orders.length m zSt):=⟨_,rfl⟩;obtain ⟨i,w,b0,b1,b2,b3,b4,b5,hw⟩:=YF v1.len;have hRr:=hR;rw [hw] at hbb v1 hR ⊢;simp (disch:=omega) only [shV,shVs,shO,YL,Vr,Zq,Zj,List.replicate,ZL,ZD,go_sem,seval];have c3:=((D8 x (fstF x.orders.length ys) (skF x x.orders.length) false false m Za (by simp [fstF]) (by simp [skF]) hok hcl 20 ⟨i,w,[b0,b1,b2,b3,b4,b5]⟩ [] Za v1 (by have:=v1.ix;omega) (fun p hp=>by simp at hp)).mono (fun y H' hq=>(⟨hq,by obtain ⟨l',_,_,rfl⟩:=hq;rfl⟩:_/\H'.length=(YL x (.list false ((fstF x.orders.length ys).map Y7)) (.list false ((skF x x.orders.length).map eI)) m []).length))).front (by rfl) (by rfl) [Bi ⟨i,w,[b0,b1,b2,b3,b4,b5]⟩]
  refine ACalls.mono (c3.back [Zf x,.cells [.p (.list true []),.p (.list true [])],.cells (List.replicate 6 .junk)] (by rfl)) ?_;rintro y H' ⟨y1,H1,⟨H2,⟨l',hl',rfl,rfl⟩,rfl⟩,rfl,rfl⟩;rw [<- hbb];simp (disch:=omega) only [shV,shVs,shO,YL,Vr,Bi,Zq,Zj,List.replicate,ZL,ZD,go_sem,seval];refine cD ?_ ?_<;>intro h3<;>simp (disch:=omega) only [Sh.out h3,go_sem,seval,↓reduceIte]
  ·exact ⟨.tup [.p (Jy zPlC),.p (.int .i64 0),.p (.int .i64 24)],[],Weak.mk (by simp (disch:=omega) only [zPlC,Zj,go_sem,seval]),_,_,_,Or.inr (Or.inr ⟨h1,h2,ys,hC,hyl,Or.inl ⟨Za,rfl,rfl,rfl⟩⟩),rfl,rfl⟩
  ·refine ACalls.mono ((Zb0 (Bi ⟨i,w,[b0,b1,b2,b3,b4,b5]⟩) (by intro H n;simp (disch:=omega) only [Bi,Zq,Zj,go_sem,seval]) (by intro o xs;rfl) x (fstF x.orders.length ys) (skF x x.orders.length) false false m Za (by simp [fstF]) (by simp [skF]) hok hcl ⟨i,w,[b0,b1,b2,b3,b4,b5]⟩ l' v1 hl').back [Zf x,.cells [.p (.list true []),.p (.list true [])],.cells (List.replicate 6 .junk)] (by rfl)) ?_;rintro y H' ⟨y1,H1,⟨l2,A,U,hl2,hAU,rfl,rfl⟩,rfl,rfl⟩;rw [<- hR] at hAU;have hlen:=Di (n:=x.orders.length) (m:=m) (x:=x) (fst:=fstF x.orders.length ys) (sk:=skF x x.orders.length) 20 (W9 x.orders.length m zSt)
   rw [<- hRr,<- hAU] at hlen
   have hA: ∀c∈A,∃S:Nat,c.set=S/\0<S/\S<16:=fun c hc=>by
    have hc':c∈(Ym x.orders.length m x (fstF x.orders.length ys) (skF x x.orders.length) 20 (W9 x.orders.length m zSt)).1:=by grind
    obtain ⟨j,hj,hm2⟩:=Dj _ _ _ hc'
    have e:nth (fstF x.orders.length ys) j=Yd ys j:=by
     grind [fstF,Zk]
    rw [e,Yd,JV] at hm2;obtain ⟨q,hq,hql,_⟩:=hC.bst c hm2.1
    have hmem:c∈l:=by grind [ZX]
    obtain ⟨S,q1,q2,q3,_⟩:=U9 (h2 c hmem) (hs c hmem);exact ⟨S,q1,q2,Uh q3 (Yi (n:=2) Za hn)⟩
   obtain ⟨L,hL⟩: ∃L:List Cm,L.map Subtype.val=A:=⟨A.pmap (fun c h=>⟨c,h⟩) hA,by simp [List.map_pmap]⟩;subst hL
   have hLl:(L.map Subtype.val).length=L.length:=Zb
   have hLe:(L.map Subtype.val).map Xj=L.map fun c=>Xj c.val:=Zb
   simp only at hlen;rw [hLl] at hlen;simp (disch:=omega) only [shV,shVs,shO,YL,Vr,Bi,Zq,Zj,List.replicate,ZL,ZD,hLl,hLe,go_sem,seval];refine ((rM L Za (H:=_) (o:=7) rfl)).mono ?_;rintro y H' ⟨rfl,zs,hp,hsr,rfl⟩;have hzl:zs.length=L.length:=hp.length_eq;rw [<- hzl] at hlen ⊢;simp (disch:=omega) only [ZK,ZY,go_sem,seval];obtain ⟨Z,hZ⟩: ∃Z,Z=zs.map Subtype.val:=⟨_,rfl⟩
   have hZl:Z.length=zs.length:=by rw [hZ];simp
   have hZe:Z.map Xj=zs.map fun c=>Xj c.val:=by rw [hZ];simp
   rw [<- hZl] at hlen ⊢
   have htl: ∀k,k<=Z.length->(Z.take k).length=k:=fun k hk=>by simp;omega
   refine Zl [4,10,13,45,46] (fun k:Nat=> [(47,.p (.int .i64 k))]) (fun k=> [Zf x,.cells [.p (.list true []),.p (.list true [])],.cells (List.replicate 6 .junk),.map (l2.map (Mk AI)),shO 3 (Vr x (.list false ((fstF x.orders.length ys).map Y7)) (.list false ((skF x x.orders.length).map eI)) m),Bi ⟨i,w,[b0,b1,b2,b3,b4,b5]⟩,.cells (List.replicate 8 .junk),.elems 7 (Z.map Xj),.cells [.sl 9 0 k k,.p (.list false (U.map eI))],.elems 4 ((Z.take k).map fun c=>Wg c.route)]) (fun k=>k<=Z.length) (fun k=>Z.length-k) 0 Za ((Weak.nilC (o:=8) (j:=0) 4 (by rfl) (by rfl) Zb).trans (Weak.mk ?_)) ?_
   ·simp (disch:=omega) only [hZe,QS,ZK,ZY,ZA,ZF,Xh,Nat.reduceAdd,shV,shVs,shO,Vr,Bi,Zq,Zj,List.replicate,ZL,ZD,Zf,go_sem,seval]
   ·intro k hk;simp (disch:=omega) only [shV,shVs,shO,Vr,Bi,Zq,Zj,List.replicate,Zf,go_sem,seval];refine cD ?_ ?_<;>intro h4<;>simp (disch:=omega) only [Sh.out h4,go_sem,seval,↓reduceIte]
    ·have hk2:k<Z.length:=Za
     simp (disch:=first | omega | (simp only [ZA,ZF,Zz,Zy,Z6,Xt]<;>omega)) only [Ve hk2,hk2,go_sem,seval,↓reduceIte]
     have hsc:Z.take (k+1)=Z.take k++ [nth Z k]:=by rw [Xm hk2,Zk hk2]
     rw [if_pos ⟨htl k hk,Za,Za⟩];simp (disch:=omega) only [htl k hk,Zy,Zz,ZA,ZF,Xh,eq_self,WU,go_sem,seval];exact ⟨k+1,Za,Za,Weak.mk (by simp (disch:=omega) only [hsc,Xn,Zq,Zj,go_sem,seval])⟩
    ·have hkl:k=Z.length:=Za
     subst hkl;refine Zo (Weak.fz (o:=9) (by rfl)) ?_;refine Zh [] _ _ _ _ ?_;simp (disch:=omega) only [Zq,Zj,ZK,ZY,X3,go_sem,seval];exact ⟨.tup [.p (Jy ⟨false,Z.map (·.route),false,U⟩),.p (.int .i64 B),.p (.int .i64 0)],[],Weak.mk (by simp (disch:=omega) only [List.map_map,Function.comp_def,go_sem,seval]),_,_,_,Or.inr (Or.inr ⟨h1,h2,ys,hC,hyl,Or.inr ⟨Za,hB,rfl,Z,by grind,by rw [hZ];exact List.pairwise_map.2 hsr,by grind⟩⟩),rfl,rfl⟩
def Zl4 (x:Inst) (l:List Col) (a e:Int):Prop:=(8192<l.length/\a=0/\e=4)\/(l.length<=8192/\(∃c∈l,rightB x c=false)/\a=0/\e=2) \/
 (l.length<=8192/\(∀c∈l,rightB x c=true)/\ ∃ys,Cheap l ys/\a=(if IU x ys<0 then 0 else IU x ys)/\e=(if IU x ys<0 then 24 else 0))
def ky (l:List Col) (a:Int):Int×Int×Int:=if a<0 then (1,0,0) else (0,(nth l a.toNat).typ,(nth l a.toNat).set)
def iC (a b:Int×Int×Int):Prop:=a.1<b.1\/(a.1=b.1/\(a.2.1<b.2.1\/(a.2.1=b.2.1/\a.2.2<b.2.2)))
def KE (n:Nat) (l:List Col) (a b:List Int):Prop:= ∀t,t<n->ky l (nth a t)=ky l (nth b t)/\nth a t<=nth b t
def KL (n:Nat) (l:List Col) (a b:List Int):Prop:=(∃i,i<n/\(∀t,t<i->ky l (nth a t)=ky l (nth b t))/\iC (ky l (nth a i)) (ky l (nth b i)))\/KE n l a b
def mI (x:Inst):Int:=((Yk x x.orders.length:Nat):Int)
theorem Fo {x:Inst} (hn:x.orders.length<=4) {k:Nat} (hk:k<x.orders.length):sHas (mI x) k= !(nth x.orders k).off:=by
 grind [mI,Wo,UQ]
theorem BD {n:Nat} {s:St} (h:StV n s) {k:Nat} (hk:k<=62):sHas s.cov k=s.cov.toNat.testBit k:=by
 obtain ⟨C,hC,_⟩:=h.cov
 grind [Wo]
structure Ctx (x:Inst) (l ys:List Col):Prop where
 n4:x.orders.length<=4
 t6:x.types.length<=6
 ch:Cheap l ys
 rt: ∀c∈l,rightB x c=true
 st: ∀c∈l,c.set<9223372036854775808
 ok:ChOk x.orders.length x (fstF x.orders.length ys) (skF x x.orders.length)
 sk: ∀k,k<x.orders.length->(nth x.orders k).off=false->(0<=(nth x.orders k).penalty↔0<=skpF x k)/\(0<=skpF x k->skpF x k=skR x k)
theorem ZbL : ∀S:Fin 16,0<S.val-> ∀k:Fin 4,(AC S.val=(k.val:Int)↔(S.val.testBit k.val=true/\ ∀i:Fin 4,i.val<k.val->S.val.testBit i.val=false)):=by decide+kernel
theorem PH {S n k:Nat} (hS:0<S) (h:S<2^n) (hn:n<=4) (hk:k<n):AC S=(k:Int)↔(S.testBit k=true/\ ∀i,i<n->S.testBit i=true->k<=i):=by
 have h16:S<16:=Uh h (Yi (n:=2) Za hn);rw [show AC S=(k:Int)↔_ from ZbL ⟨S,h16⟩ hS ⟨k,Za⟩];refine and_congr_right fun _=>⟨fun g i hi hb=> ?_,fun g i hi=> ?_⟩
 ·rcases Wm i k with h1 | h1
  ·have:=g ⟨i,Za⟩ h1
   grind
  ·exact h1
 grind
theorem Ctx.set {x:Inst} {l ys:List Col} (h:Ctx x l ys) {c:Col} (hc:c∈l):c.set=(c.set.toNat:Int)/\0<c.set.toNat/\c.set.toNat<2^x.orders.length/\ ∀i,c.set.toNat.testBit i=true->i<x.orders.length/\(nth x.orders i).off=false:=by
 obtain ⟨S,h1,h2,h3,h4⟩:=U9 (h.rt c hc) (h.st c hc)
 grind
theorem Ctx.typ {x:Inst} {l ys:List Col} (h:Ctx x l ys) {c:Col} (hc:c∈l):(0<=c.typ/\c.typ<x.types.length)/\0<=c.price:=by
 have:=h.rt c hc;simp only [rightB,Zw,Zs] at this;omega
structure Nd (x:Inst) (l:List Col) (a:List Int) (s:St) (k:Nat):Prop where
 len:a.length=x.orders.length
 ix:s.ix=k
 v:StV x.orders.length s
 cov: ∀i,i<x.orders.length->s.cov.toNat.testBit i=decide (0<=nth a i)
 rng: ∀i,i<x.orders.length-> -1<=nth a i/\nth a i<l.length
 used: ∀T:Nat,T<6->nth s.used T=usdI l a T x.orders.length
 grp: ∀i,i<x.orders.length->0<=nth a i-> ∀t,t<x.orders.length->(nth l (nth a i).toNat).set.toNat.testBit t=true->nth a t=nth a i
 old: ∀i,i<x.orders.length->k<=i->0<=nth a i-> ∃t,t<k/\(nth l (nth a i).toNat).set.toNat.testBit t=true
 own: ∀i,i<x.orders.length->0<=nth a i->(nth l (nth a i).toNat).set.toNat.testBit i=true
def Gk (s:St):St:= { s with ix:=s.ix+1 }
def Al (s:St) (c:Col):St:=⟨s.ix+1,((s.cov.toNat|||c.set.toNat:Nat):Int),s.used.set c.typ.toNat (nth s.used c.typ.toNat+1)⟩
theorem Nd.skip {x:Inst} {l:List Col} {a:List Int} {s:St} {k:Nat} (h:Nd x l a s k) (hk:k<x.orders.length) (ho:0<=nth a k-> ∃t,t<k/\(nth l (nth a k).toNat).set.toNat.testBit t=true):Nd x l a (Gk s) (k+1) :=
 ⟨h.len,by simp only [Gk,h.ix];omega,⟨h.v.len,by have:=h.ix;simp only [Gk];omega,h.v.cov,h.v.used⟩,h.cov,h.rng,h.used,h.grp,fun i hi hki h0=>by
  obtain ⟨t,h1,h2⟩:=h.old i hi Za h0
  grind,h.own⟩
theorem Nd.skip' {x:Inst} {l:List Col} {a:List Int} {s:St} {k:Nat} (h:Nd x l a s k) (hk:k<x.orders.length):Nd x l a (Gk s) (k+1):=h.skip hk fun h0=>h.old k hk (ZI _) h0
theorem P9 {x:Inst} {l ys:List Col} (hc:Ctx x l ys) {a:List Int} {s:St} {k j:Nat} (h:Nd x l a s k) (hk:k<x.orders.length) (hj:j<l.length):DQ x l a j k=true↔(Yz x s (nth l j)=true/\AC (nth l j).set.toNat=(k:Int)):=by
 obtain ⟨hS,hS0,hS1,hS2⟩:=hc.set (ZX hj);obtain ⟨⟨ht0,ht1⟩,_⟩:=hc.typ (ZX hj);have ht6:=hc.t6;have hu:=h.used (nth l j).typ.toNat Za;rw [show (((nth l j).typ.toNat:Nat):Int)=(nth l j).typ by omega] at hu;rw [PH hS0 hS1 hc.n4 hk];simp only [DQ,Yz,DW,Zw,Zs,An,h.len,hu]
 constructor
 ·rintro ⟨h1,h2,h3⟩;refine ⟨⟨B3 fun i=> ?_,h2⟩,h1,fun i hi hb=>(h3 i hi hb).2⟩;rw [Nat.testBit_and,Nat.zero_testBit]
  cases hb:(nth l j).set.toNat.testBit i with
  | false=>simp
  | true =>
   have hi:=(hS2 i hb).1;rw [h.cov i hi,Qq,XX]
   grind
 ·rintro ⟨⟨h1,h2⟩,h3,h4⟩;refine ⟨h3,h2,fun i hi hb=>⟨?_,h4 i hi hb⟩⟩;have:=ZT (fun z=>z.testBit i) h1;simp only [Nat.testBit_and,Nat.zero_testBit,hb,Qq] at this;rw [h.cov i hi,XX] at this;omega
theorem HR {x:Inst} {l:List Col} {a:List Int} {k:Nat} {S:Nat} {j:Nat} (hl:a.length=x.orders.length) (hk:k<x.orders.length) (hb:S.testBit k=true) (hneg: ∀i,i<x.orders.length->S.testBit i=true->nth a i<0/\k<=i) (hfr: ∀i,i<x.orders.length->S.testBit i=false->nth a i≠(j:Int)) (T:Int) :
  ∀m,m<=x.orders.length->usdI l (Qc S a j) T m=usdI l a T m+(if k<m/\(nth l j).typ=T then 1 else 0)
 | 0,_=>by simp [usdI]
 | i+1,hm=>by
  have hi:i<a.length:=Za
  rw [usdI,usdI,HR hl hk hb hneg hfr T i Za];have ZJ: ∀t,t<i->nth (Qc S a j) t=if S.testBit t=true then (j:Int) else nth a t:=fun t ht=>XK Za
  cases hs:S.testBit i with
  | false =>
   have e:CM l (Qc S a j) T i=CM l a T i:=by
    rw [CM,CM,XK hi,hs,if_neg Zb]
    by_cases h0:0<=nth a i
    ·have ef:Tm (Qc S a j) i=Tm a i:=by
      rw [Wl,Fc,Fc,XK hi,hs,if_neg Zb]
      grind
     rw [ef]
    ·simp [h0]
   grind
  | true =>
   obtain ⟨hn,hki⟩:=hneg i Za hs
   have e2:CM l a T i=false:=by
    simp_all [CM,U1]
   have e1:CM l (Qc S a j) T i=(decide ((nth l j).typ=T)&&decide (k=i)):=by
    rw [CM,XK hi,hs,if_pos rfl,Un Za,Vl,XS]
    congr 1
    rw [Wl,Fc,XK hi,hs,if_pos rfl,Zs]
    grind
   grind
theorem Nd.child {x:Inst} {l ys:List Col} (hc:Ctx x l ys) {a:List Int} {s:St} {k j:Nat} (h:Nd x l a s k) (hk:k<x.orders.length) (hj:j<l.length) (hcan:DQ x l a j k=true):Nd x l (Qc (nth l j).set.toNat a j) (Al s (nth l j)) (k+1):=by
 obtain ⟨hS,hS0,hS1,hS2⟩:=hc.set (ZX hj);obtain ⟨⟨ht0,ht1⟩,_⟩:=hc.typ (ZX hj);have ht6:=hc.t6;have hl6:s.used.length=6:=h.v.len;have hu:=h.used (nth l j).typ.toNat Za;rw [show (((nth l j).typ.toNat:Nat):Int)=(nth l j).typ by omega] at hu;have hcan':=hcan;simp only [DQ,Zw,Zs,An,h.len] at hcan';obtain ⟨hb,hcnt,hneg⟩:=hcan';rw [<- hu] at hcnt;have hcount:=hc.ok.typ.2 (nth l j).typ.toNat Za;have hak:=(hneg k hk hb).1
 have hfr: ∀i,i<x.orders.length->(nth l j).set.toNat.testBit i=false->nth a i≠(j:Int):=fun i hi _ e=>by
  have:=h.grp i hi Za k hk (by grind [XS]);omega
 obtain ⟨C,hC,hC2⟩:=h.v.cov;have hS10:(nth l j).set.toNat<1024:=Uh hS1 (Yi (n:=2) Za (show x.orders.length<=10 by have:=hc.n4;omega));refine ⟨by rw [Jh];exact h.len,by simp only [Al,h.ix];omega,⟨by simp only [StR,Al,Vk];exact hl6,by have:=h.ix;simp only [Al];omega,⟨_,rfl,?_⟩,fun t ht=> ?_⟩,fun i hi=> ?_,fun i hi=> ?_,fun T hT=> ?_,fun i hi h0 t ht hbt=> ?_,fun i hi hki h0=> ?_,fun i hi h0=> ?_⟩
 ·rw [hC,XS];exact QQ (n:=10) hC2 hS10
 ·simp only [Al];rw [Ci Za]
  split
  ·omega
  ·exact h.v.used t ht
 ·simp only [Al,XS];rw [Ae,h.cov i hi,XK (by rw [h.len];exact hi)]
  grind
 ·rw [XK (by rw [h.len];exact hi)]
  split
  ·omega
  ·exact h.rng i hi
 ·simp only [Al];rw [Ci Za,HR h.len hk hb hneg hfr T _ (ZI _),h.used T hT]
  grind
 ·rw [XK (i:=i) (by rw [h.len];exact hi)] at h0 hbt ⊢;rw [XK (i:=t) (by rw [h.len];exact ht)]
  cases hbi:(nth l j).set.toNat.testBit i with
  | true =>
   rw [hbi,if_pos rfl,XS] at hbt
   grind
  | false =>
   rw [hbi,if_neg Zb] at h0 hbt;have e:=h.grp i hi h0 t ht hbt
   grind
 ·rw [XK (by rw [h.len];exact hi)] at h0 ⊢
  cases hbi:(nth l j).set.toNat.testBit i with
  | true =>
   rw [if_pos rfl,XS]
   grind
  | false =>
   rw [hbi,if_neg Zb] at h0;rw [if_neg Zb];obtain ⟨t,h1,h2⟩:=h.old i hi Za h0
   grind
 ·rw [XK (by rw [h.len];exact hi)] at h0 ⊢
  cases hbi:(nth l j).set.toNat.testBit i with
  | true=>rw [if_pos rfl,XS];exact hbi
  | false =>
   rw [hbi,if_neg Zb] at h0;rw [if_neg Zb];exact h.own i hi h0
def Lx (x:Inst) (ys:List Col) (D:Nat) (s:St):Int:=YY x.orders.length (mI x) x (fstF x.orders.length ys) (skF x x.orders.length) D (W9 x.orders.length (mI x) s)
theorem bV {x:Inst} {ys:List Col} {D:Nat} {s:St} (h:s.ix=x.orders.length):Lx x ys D s=0:=by
 unfold Lx
 cases D with
 | zero=>rfl
 | succ D =>
  simp_all [YY,W9,CE]
theorem Dp {n:Nat} {m:Int} {s:St} {k:Nat} (hk:s.ix=k) (hkn:k<n) (hc:sHas m k=false\/sHas s.cov k=true):W9 n m s=W9 n m (Gk s):=by
 simp_all [W9,Gk,Ey]
theorem Dq {n:Nat} {m:Int} {s:St} {k:Nat} (hk:s.ix=k) (h1:sHas m k=true) (h2:sHas s.cov k=false):W9 n m s=s:=by
 obtain ⟨i,v,u⟩:=s
 simp_all [W9,Dr]
theorem Gg {n:Nat} {m:Int} {s:St} {c:Col} {k:Nat} (hk:s.ix=k) (hkn:k<n) (hn:n<=4) (hb:c.set.toNat.testBit k=true):Vp n m s c=W9 n m (Al s c):=by
 have e:=Dp (n:=n) (m:=m) (s:=⟨s.ix,((s.cov.toNat|||c.set.toNat:Nat):Int),s.used.set c.typ.toNat (nth s.used c.typ.toNat+1)⟩) (k:=k) hk hkn (.inr (by
  simp only
  rw [Wo _ _ Za,Ae,hb,Bool.or_true]))
 exact e
theorem KI {x:Inst} {l ys:List Col} (hc:Ctx x l ys) {k:Nat} (hk:k<x.orders.length) {c:Col} (hm:c∈Yd ys k):c∈ys/\c∈l/\AC c.set.toNat=(k:Int)/\c.set.toNat.testBit k=true:=by
 rw [Yd,JV,Zs] at hm;have hl:=dS hc.ch hm.1;obtain ⟨_,h0,h1,_⟩:=hc.set hl;exact ⟨hm.1,hl,hm.2,((PH h0 h1 hc.n4 hk).1 hm.2).1⟩
theorem Oa {x:Inst} {l ys:List Col} (hc:Ctx x l ys) {D:Nat} (hD:10<D) {s:St} {k:Nat} (hv:StV x.orders.length s) (hk:s.ix=k) (hkn:k<x.orders.length) (ho:(nth x.orders k).off=false) (hcv:s.cov.toNat.testBit k=false) :
  Lx x ys D s=if 0<=skpF x k then YK ((Yd ys k).foldl (fun o c=>if Yz x s c=true then YK o c.price (Lx x ys D (Al s c)) else o) (-1)) (skpF x k) (Lx x ys D (Gk s)) else (Yd ys k).foldl (fun o c=>if Yz x s c=true then YK o c.price (Lx x ys D (Al s c)) else o) (-1):=by
 have hn:=hc.n4
 have e1:Lx x ys D s=YY x.orders.length (mI x) x (fstF x.orders.length ys) (skF x x.orders.length) (D+1) s:=by
  rw [Lx,Dq hk (by grind [Fo]) (by grind [BD])];exact Jc hc.ok _ _ s hv Za Za
 rw [e1,YY,if_neg Za]
 have e2:nth (fstF x.orders.length ys) s.ix.toNat=Yd ys k:=by simp_all [M1]
 have e3:nth (skF x x.orders.length) s.ix.toNat=skpF x k:=by grind [skF,Zk]
 have e4:(Yd ys k).foldl (fun o c=>if Yz x s c=true then YK o c.price (YY x.orders.length (mI x) x (fstF x.orders.length ys) (skF x x.orders.length) D (Vp x.orders.length (mI x) s c)) else o) (-1)=(Yd ys k).foldl (fun o c=>if Yz x s c=true then YK o c.price (Lx x ys D (Al s c)) else o) (-1) :=
  JA fun c hm o=>by rw [Gg hk hkn hn (KI hc hkn hm).2.2.2];rfl
 simp only [e2,e3,e4]
 rfl
def KM (x:Inst) (ys:List Col) (D:Nat) (s:St) (c:Col):Bool:=Yz x s c&&(decide (0<=Lx x ys D (Al s c))&&decide (c.price+Lx x ys D (Al s c)=Lx x ys D s))
noncomputable def A8 (l:List Col) (d:Col):Nat:=open Classical in if h:Bst l l.length d then h.choose else 0
theorem R4 {l:List Col} {d:Col} (h:Bst l l.length d):A8 l d<l.length/\nth l (A8 l d)=d/\ ∀i,i<l.length->kd (nth l i)=kd d->d.price<(nth l i).price\/(d.price=(nth l i).price/\A8 l d<=i):=by
 have e:A8 l d=h.choose:=by rw [A8,dif_pos h]
 grind
noncomputable def gr (x:Inst) (l ys:List Col) (D:Nat):Nat->Nat->St->List Int->List Int
 | 0,_,_,a=>a
 | d+1,k,s,a=>if (nth x.orders k).off=true\/0<=nth a k then gr x l ys D d (k+1) (Gk s) a else
  match (Yd ys k).find? (KM x ys D s) with
  | some c=>gr x l ys D d (k+1) (Al s c) (Qc c.set.toNat a (A8 l c))
  | none=>gr x l ys D d (k+1) (Gk s) a
theorem JW {x:Inst} {l ys:List Col} (hc:Ctx x l ys) {a:List Int} {s:St} {k:Nat} (h:Nd x l a s k) (hk:k<x.orders.length) {c:Col} (hm:c∈Yd ys k) (hy:Yz x s c=true):A8 l c<l.length/\nth l (A8 l c)=c/\DQ x l a (A8 l c) k=true:=by
 obtain ⟨h1,h2,h3,h4⟩:=KI hc hk hm;obtain ⟨p1,p2,_⟩:=R4 (hc.ch.bst c h1)
 grind [P9]
theorem BA {x:Inst} {l:List Col} {a:List Int} {k j:Nat} (hl:a.length=x.orders.length) (hcan:DQ x l a j k=true):(nth l j).set.toNat.testBit k=true/\ ∀t,t<x.orders.length->(t<k\/0<=nth a t)->nth (Qc (nth l j).set.toNat a j) t=nth a t:=by
 simp only [DQ,Zw,An,hl] at hcan
 grind [XK]
theorem C1 {x:Inst} {l ys:List Col} (hc:Ctx x l ys) {D:Nat} : ∀(d k:Nat) (s:St) (a:List Int),k+d=x.orders.length->Nd x l a s k->(gr x l ys D d k s a).length=x.orders.length/\ ∀t,t<x.orders.length->(t<k\/0<=nth a t)->nth (gr x l ys D d k s a) t=nth a t
 | 0,k,s,a,_,h=>⟨h.len,fun _ _ _=>rfl⟩
 | d+1,k,s,a,hd,h=>by
  have hk:k<x.orders.length:=Za
  rw [gr];have skip:=C1 hc (D:=D) d (k+1) (Gk s) a Za (h.skip' hk)
  split
  ·grind
  ·split
   ·rename_i c hf;have hsel:=JL hf;simp only [KM,Zw] at hsel;obtain ⟨p1,p2,p3⟩:=JW hc h hk (QN hf) hsel.1;have hch:=h.child hc hk p1 p3;rw [p2] at hch;have ho:=(BA h.len p3).2;rw [p2] at ho;obtain ⟨g1,g2⟩:=C1 hc (D:=D) d (k+1) (Al s c) _ Za hch;refine ⟨g1,fun t ht hh=> ?_⟩
    rw [g2 t ht (by
     rcases hh with h1 | h1
     ·left;omega
     ·right;rw [ho t ht (.inr h1)];exact h1),ho t ht hh]
   grind
theorem Ca {x:Inst} {l:List Col} : ∀(d:Nat) (a:List Int) (p:Int),d<=x.orders.length->a.length=x.orders.length-> ∀q∈B9 x l d a p,q.1.length=x.orders.length/\ ∀t,t<x.orders.length->(t<x.orders.length-d\/0<=nth a t)->nth q.1 t=nth a t
 | 0,a,p,_,h,q,hq=>by
  simp only [B9,Z5,W0,Wa] at hq
  grind
 | d+1,a,p,hd,h,q,hq=>by
  rw [B9] at hq
  split at hq
  ·obtain ⟨g1,g2⟩:=Ca d a p Za h q hq;exact ⟨g1,fun t ht hh=>g2 t ht (hh.imp Za id)⟩
  ·rw [Xg,X2] at hq;rcases hq with ⟨j,hj,hq⟩ | hq
   ·split at hq
    ·rename_i hcan;have ho:=(BA h hcan).2;obtain ⟨g1,g2⟩:=Ca d _ _ Za (by rw [Jh];exact h) q hq;refine ⟨g1,fun t ht hh=> ?_⟩
     rw [g2 t ht (by
      rcases hh with h1 | h1
      ·left;omega
      ·right;rw [ho t ht (.inr h1)];exact h1),ho t ht hh]
    ·simp at hq
   ·split at hq
    ·obtain ⟨g1,g2⟩:=Ca d a _ Za h q hq;exact ⟨g1,fun t ht hh=>g2 t ht (hh.imp Za id)⟩
    ·simp at hq
theorem KE.refl {n:Nat} {l:List Col} {a:List Int} :KE n l a a:=fun _ _=>⟨rfl,Int.le_refl _⟩
theorem ZbI {l:List Col} {a:Int} (h:a<0):ky l a=(1,0,0):=if_pos h
theorem IQ {l:List Col} {a:Int} (h:0<=a):ky l a=(0,(nth l a.toNat).typ,(nth l a.toNat).set):=if_neg Za
theorem Zij {l:List Col} {i j:Nat} :ky l (i:Int)=ky l (j:Int)↔kd (nth l i)=kd (nth l j):=by
 grind [IQ,kd]
theorem fU {x:Inst} {s:St} {r:Col->Int} {ls:List Col} (hp: ∀c∈ls,0<=c.price) (hr: ∀c∈ls,Yz x s c=true-> -1<=r c) {c:Col} (hc:c∈ls) (hy:Yz x s c=true) (h0:0<=r c) :
  bP (ls.foldl (fun o c=>if Yz x s c=true then YK o c.price (r c) else o) (-1)) (c.price+r c):=by
 have e:=JA (f:=fun o c=>if Yz x s c=true then YK o c.price (r c) else o) (g:=fun o c=>if Yz x s c=true then YK o c.price (max (-1) (r c)) else o) (l:=ls) (b:=(-1:Int)) fun c hc o=>by
  grind
 rw [e];have:=(Rs (x:=x) (s:=s) (r:=fun c=>max (-1) (r c)) (fun c=>Za) (l:=ls) (a:= -1) hp).2 c hc hy Za
 grind
theorem Ob {x:Inst} {l ys:List Col} (hc:Ctx x l ys) {D:Nat} {s:St} (hv:StV x.orders.length s): -1<=Lx x ys D s:=(VW (m:=mI x) hc.ok D _ (Lq hv).1).1
theorem P7 {o p r:Int} (hr: -1<=r) (hp:0<=p):bP (YK o p r) o/\(0<=r->bP (YK o p r) (p+r)):=by
 grind [bP,YK]
theorem uM {x:Inst} {l ys:List Col} (hc:Ctx x l ys) {D:Nat} (hD:10<D) {a:List Int} {s:St} {k:Nat} (h:Nd x l a s k) (hk:k<x.orders.length) (ho:(nth x.orders k).off=false) (hak:nth a k<0) {c:Col} (hm:c∈Yd ys k) (hy:Yz x s c=true) (h0:0<=Lx x ys D (Al s c)) :
  bP (Lx x ys D s) (c.price+Lx x ys D (Al s c)):=by
 have hcv:s.cov.toNat.testBit k=false:=by rw [h.cov k hk];grind
 rw [Oa hc hD h.v h.ix hk ho hcv]
 have nd: ∀e∈Yd ys k,Yz x s e=true->StV x.orders.length (Al s e):=fun e he hye=>by
  obtain ⟨p1,p2,p3⟩:=JW hc h hk he hye;have:=(h.child hc hk p1 p3).v
  grind
 have low:=fU (x:=x) (s:=s) (r:=fun c=>Lx x ys D (Al s c)) (ls:=Yd ys k) (fun e he=>(hc.typ (KI hc hk he).2.1).2) (fun e he hye=>Ob hc (nd e he hye)) hm hy h0
 split
 ·rename_i hs;have b:=(P7 (o:=(Yd ys k).foldl (fun o c=>if Yz x s c=true then YK o c.price (Lx x ys D (Al s c)) else o) (-1)) (Ob hc (D:=D) (h.skip' hk).v) hs).1
  grind [bP]
 ·exact low
theorem mJ {x:Inst} {l ys:List Col} (hc:Ctx x l ys) {D:Nat} (hD:10<D) {a:List Int} {s:St} {k:Nat} (h:Nd x l a s k) (hk:k<x.orders.length) (ho:(nth x.orders k).off=false) (hak:nth a k<0) (hs:0<=skpF x k) (h0:0<=Lx x ys D (Gk s)) :
  bP (Lx x ys D s) (skpF x k+Lx x ys D (Gk s)):=by
 have hcv:s.cov.toNat.testBit k=false:=by rw [h.cov k hk];grind
 rw [Oa hc hD h.v h.ix hk ho hcv,if_pos hs]
 grind [P7]
theorem PN {x:Inst} {l ys:List Col} (hc:Ctx x l ys) {D:Nat} {a:List Int} {s:St} {k:Nat} (h:Nd x l a s k) (hk:k<x.orders.length) (ho:(nth x.orders k).off=true\/0<=nth a k):Lx x ys D s=Lx x ys D (Gk s):=by
 unfold Lx;rw [Dp h.ix hk (ho.imp (fun e=>by rw [Fo hc.n4 hk,e];rfl) fun e=>by rw [BD h.v (by have:=hc.n4;omega),h.cov k hk];grind)]
theorem BN {x:Inst} {l ys:List Col} (hc:Ctx x l ys) {D:Nat} (hD:10<D): ∀(d k:Nat) (s:St) (a b:List Int) (p:Int),k+d=x.orders.length->Nd x l a s k->Nd x l b s k->KE x.orders.length l a b-> ∀q∈B9 x l d b p,
  0<=Lx x ys D s/\p+Lx x ys D s<=q.2/\(q.2=p+Lx x ys D s->KL x.orders.length l (gr x l ys D d k s a) q.1)
 | 0,k,s,a,b,p,hd,ha,hb,he,q,hq=>by
  simp only [B9,Z5,W0,Wa] at hq;subst hq;rw [bV (by rw [ha.ix];omega)];exact ⟨Za,Zb,fun _=> .inr he⟩
 | d+1,k,s,a,b,p,hd,ha,hb,he,q,hq=>by
  have hk:k<x.orders.length:=Za
  have hkd:x.orders.length-(d+1)=k:=Za
  have hneg: ∀t,t<x.orders.length->(0<=nth a t↔0<=nth b t):=fun t ht=>by
   have h1:=ha.cov t ht;rw [hb.cov t ht,decide_eq_decide] at h1;exact h1.symm
  rw [B9,hkd] at hq;rw [gr]
  split at hq
  ·rename_i ho;have ho':(nth x.orders k).off=true\/0<=nth a k:=ho.imp id (hneg k hk).2;rw [if_pos ho',PN hc ha hk ho'];exact BN hc hD d (k+1) (Gk s) a b p Za (ha.skip' hk) (hb.skip' hk) he q hq
  ·rename_i ho;have ho': ¬((nth x.orders k).off=true\/0<=nth a k):=fun g=>ho (g.imp id (hneg k hk).1);rw [if_neg ho']
   have hoff:(nth x.orders k).off=false:=by
    grind
   have hbk:nth b k<0:=Int.not_le.1 fun g=>ho (.inr g);have hak:nth a k<0:=Int.not_le.1 fun g=>ho' (.inr g)
   -- what was picked stands at k
   have hpick: ∀c,(Yd ys k).find? (KM x ys D s)=some c->Yz x s c=true/\c∈ys/\(∀t,t<k->nth (gr x l ys D d (k+1) (Al s c) (Qc c.set.toNat a (A8 l c))) t=nth a t)/\nth (gr x l ys D d (k+1) (Al s c) (Qc c.set.toNat a (A8 l c))) k=A8 l c/\nth l (A8 l c)=c:=fun c hf=>by
    have hsel:=JL hf;simp only [KM,Zw] at hsel;obtain ⟨p1,p2,p3⟩:=JW hc ha hk (QN hf) hsel.1;have hch:=ha.child hc hk p1 p3;obtain ⟨c1,c2⟩:=BA ha.len p3;rw [p2] at hch c1 c2;have g2:=(C1 hc (D:=D) d (k+1) (Al s c) _ Za hch).2;refine ⟨hsel.1,(KI hc hk (QN hf)).1,fun t ht=> ?_,?_,p2⟩
    ·grind
    ·rw [g2 k hk (.inl Za),XK (by rw [ha.len];exact hk),if_pos c1]
   rw [Xg,X2] at hq;rcases hq with ⟨j,hj,hq⟩ | hq
   ·have hj:=ZR.1 hj
    split at hq
    ·rename_i hcan;obtain ⟨hy,htz⟩:=(P9 hc hb hk hj).1 hcan;have hjl:=ZX hj;obtain ⟨d',hd',hkd',hpr⟩:=dT hc.ch hjl
     have hst:d'.set=(nth l j).set/\d'.typ=(nth l j).typ:=by
      grind [kd]
     have hm:d'∈Yd ys k:=by
      simp_all [Yd]
     have hy':Yz x s d'=true:=by grind [Yz]
     have hnx:Al s d'=Al s (nth l j):=by grind [Al]
     have hcb:=hb.child hc hk hj hcan;obtain ⟨cb1,cb2⟩:=BA hb.len hcan;have hqo:=(Ca d _ _ Za (by rw [Jh];exact hb.len) q hq).2
     have hqt: ∀t,t<k->nth q.1 t=nth b t:=fun t ht=>by rw [hqo t Za (.inl Za),cb2 t Za (.inl ht)]
     have hqk:nth q.1 k=j:=by rw [hqo k hk (.inl Za),XK (by rw [hb.len];exact hk),if_pos cb1]
     obtain ⟨i1,i2,_⟩:=BN hc hD d (k+1) _ _ _ _ Za hcb hcb KE.refl q hq;rw [<- hnx] at i1 i2;have hle:=uM hc hD ha hk hoff hak hm hy' i1;have hp0:=(hc.typ (KI hc hk hm).2.1).2
     have hL0:0<=Lx x ys D s/\Lx x ys D s<=d'.price+Lx x ys D (Al s d'):=by
      rcases hle with h | h
      ·-- the least price would be lacking: not so, azs the column leads on
       omega
      ·exact h
     refine ⟨hL0.1,Za,fun hqc=> ?_⟩
     have hpe:d'.price=(nth l j).price:=Za
     have hLe:d'.price+Lx x ys D (Al s d')=Lx x ys D s:=Za
     have hsel:KM x ys D s d'=true:=by simp_all [KM]
     have hpos:=R4 (hc.ch.bst d' hd')
     have hpj:A8 l d'<=j:=by
      rcases hpos.2.2 j hj hkd'.symm with h | h
      ·omega
      ·exact h.2
     cases hf:(Yd ys k).find? (KM x ys D s) with
     | none=>rw [JF] at hf;simp_all
     | some c =>
      obtain ⟨k1,k2,k3,k4,k5⟩:=hpick c hf;simp only
      by_cases hcd:c=d'
      ·subst hcd;obtain ⟨p1,p2,p3⟩:=JW hc ha hk hm hy';have hca:=ha.child hc hk p1 p3;rw [p2] at hca;rw [<- hnx] at hcb;refine (BN hc hD d (k+1) _ _ _ _ Za hca hcb (fun t ht=> ?_) q hq).2.2 Za;rw [hst.1,XK (by rw [ha.len];exact ht),XK (by rw [hb.len];exact ht)]
       cases hbt:(nth l j).set.toNat.testBit t with
       | true =>
        rw [if_pos rfl,if_pos rfl,Zij,p2]
        grind
       | false =>
        rw [if_neg Zb,if_neg Zb];exact he t ht
      ·-- an earlier kind
       have hlt:cfK c d'<0:=by
        have hpw:(Yd ys k).Pairwise fun a b=>cfK a b<0:=hc.ch.asc.filter _;obtain ⟨_,u,w,hab,hno⟩:=List.find?_eq_some_iff_append.1 hf;rw [hab] at hpw hm;rw [Em,List.pairwise_cons] at hpw;rcases Xg.1 hm with h | h
        ·have:=hno d' h
         grind
        ·rcases Z5.1 h with h | h
         ·grind
         ·exact hpw.2.1.1 d' h
       rw [EX] at hlt;refine .inl ⟨k,hk,fun t ht=> ?_,?_⟩
       ·rw [k3 t ht,hqt t ht];exact (he t Za).1
       ·rw [k4,hqk,IQ Za,IQ Za,XS,XS,k5]
        right
        grind
    ·simp at hq
   ·split at hq
    ·rename_i hpen;obtain ⟨s1,s2⟩:=hc.sk k hk hoff;have hs0:=s1.1 hpen;have hse:=s2 hs0;rw [<- hse] at hq;have hqo:=(Ca d _ _ Za hb.len q hq).2;obtain ⟨i1,i2,i3⟩:=BN hc hD d (k+1) (Gk s) a b _ Za (ha.skip' hk) (hb.skip' hk) he q hq;have hle:=mJ hc hD ha hk hoff hak hs0 i1;have hrg:=Ob hc (D:=D) ha.v
     have hL0:0<=Lx x ys D s/\Lx x ys D s<=skpF x k+Lx x ys D (Gk s):=by
      rcases hle with h | h
      ·omega
      ·exact h
     refine ⟨hL0.1,Za,fun hqc=> ?_⟩
     cases hf:(Yd ys k).find? (KM x ys D s) with
     | none=>grind
     | some c =>
      obtain ⟨k1,k2,k3,k4,k5⟩:=hpick c hf;simp only;refine .inl ⟨k,hk,fun t ht=> ?_,?_⟩
      ·rw [k3 t ht,hqo t Za (.inl Za)];exact (he t Za).1
      ·rw [k4,hqo k hk (.inl Za),IQ Za,ZbI hbk]
       left;omega
    ·simp at hq
theorem NZ {x:Inst} {S:Nat} (hn:x.orders.length<=4) (hS:S<9223372036854775808):PK S (Yk x x.orders.length)=(decide (S<2^x.orders.length)&&(List.range x.orders.length).all fun i=> !(S.testBit i&&(nth x.orders i).off)):=by
 rw [Wl,Zw,Zs,PK,ZC,ZC]
 constructor
 ·intro h
  have key: ∀i,S.testBit i=true->i<x.orders.length/\(nth x.orders i).off=false:=fun i hi=>by
   have h63:i<63:=by
    rcases Wm i 63 with h | h
    ·exact h
    ·have:2^63<=2^i:=Yi Za h
     grind [K7]
   grind [UQ]
  refine ⟨Nat.lt_pow_two_of_testBit _ fun i hi=> ?_,fun i _=> ?_⟩
  ·grind
  grind
 ·rintro ⟨h1,h2⟩ i _
  cases hb:S.testBit i with
  | false=>rfl
  | true =>
   have hi:i<x.orders.length:=by
    rcases Wm i x.orders.length with h | h
    ·exact h
    ·have:2^x.orders.length<=2^i:=Yi Za h
     grind [K7]
   have:=h2 i (ZR.2 hi)
   simp_all [UQ]
theorem aF (x:Inst) (c:Col) (hn:x.orders.length<=4) (ht:x.types.length<=1048576) (hs:c.set<9223372036854775808):PC 115 [.p (Zr x),.p (Xj c)] (.bool (rightB x c)):=by
 obtain ⟨B,hB⟩: ∃B,B=rightB x c:=⟨_,rfl⟩;rw [<- hB]
 have h54:((pw 54:Nat):Int)=18014398509481984:=by decide
 refine Zc Tryz.func115 rfl xW ?_;simp (disch:=omega) only [Tryz.f115,go_sem,seval];refine Xd (Zd ?_);refine gF ?_ ?_<;>intro h1<;>simp (disch:=omega) only [Sh.out h1,go_sem,seval,↓reduceIte]
 ·grind [rightB]
 ·refine gF ?_ ?_<;>intro h2<;>simp (disch:=omega) only [Sh.out h2,go_sem,seval,↓reduceIte]
  ·grind [rightB]
  ·refine gF ?_ ?_<;>intro h3<;>simp (disch:=omega) only [Sh.out h3,go_sem,seval,↓reduceIte]
   ·grind [rightB]
   ·obtain ⟨S,hS⟩: ∃S:Nat,c.set=S:=⟨c.set.toNat,Za⟩
    have e0:B=(decide (S<2^x.orders.length)&&((List.range x.orders.length).all fun i=> !(S.testBit i&&(nth x.orders i).off))&&(decide (0<=c.price)&&decide (c.price<=18014398509481984))):=by
     grind [rightB,NZ]
    rw [hS];refine Zn (Ik x.orders.length Za) (Zd ?_);have hpw:pw x.orders.length=2^x.orders.length:=rfl;refine gF ?_ ?_<;>intro h4<;>simp (disch:=omega) only [Sh.out h4,go_sem,seval,↓reduceIte]
    ·grind [U1]
    ·refine gF ?_ ?_<;>intro h5<;>simp (disch:=omega) only [Sh.out h5,go_sem,seval,↓reduceIte]
     ·grind
     ·refine Zn (Ik 54 Za) (Zd ?_);rw [h54];refine cD ?_ ?_<;>intro h6<;>simp (disch:=omega) only [Sh.out h6,go_sem,seval]
      ·grind
      ·have e1:B=((List.range x.orders.length).all fun i=> !(S.testBit i&&(nth x.orders i).off)):=by grind
       refine Zl [2,3] (fun k:Nat=> [(5,.p (.int .i64 k))]) (fun _=> [Zf x,Iv c]) (fun k=>k<=x.orders.length/\ ∀j,j<k->(!(S.testBit j&&(nth x.orders j).off))=true) (fun k=>x.orders.length-k) 0 ⟨Zb,fun j hj=>Za⟩ (Weak.mk ?_) ?_
       ·simp (disch:=omega) only [Zf,Iv,hS,go_sem,seval]
       ·rintro k ⟨hk,hno⟩;simp (disch:=omega) only [Zf,Iv,hS,go_sem,seval];refine cD ?_ ?_<;>intro h7<;>simp (disch:=omega) only [Sh.out h7,go_sem,seval,↓reduceIte]
        ·have hk2:k<x.orders.length:=Za
         refine (IG S k Za Za).use (Zd ?_);refine Q3 ?_ ?_<;>intro h8
         ·refine ZU ?_ ?_<;>intro h9
          ·grind
          ·exact ⟨k+1,⟨Za,Y2 hno (by grind)⟩,Za,Weak.mk (by simp (disch:=omega) only [hS,go_sem,seval])⟩
         ·exact ⟨k+1,⟨Za,Y2 hno (by rw [h8];rfl)⟩,Za,Weak.mk (by simp (disch:=omega) only [hS,go_sem,seval])⟩
        grind
def zCh : Chc:=⟨false,[],0⟩
def Tc (b:Chc):PV:= .agg [.bool b.found,.list (!b.found) (b.places.map eI),.int .i64 b.price]
@[go_sem] theorem Zkn (b:Chc):Tc b= .agg [.bool b.found,.list (!b.found) (b.places.map eI),.int .i64 b.price]:=Zm rfl rfl
def LH (b:Chc):AM.Obj:= .cells [.p (.bool b.found),.p (.list (!b.found) (b.places.map eI)),.p (.int .i64 b.price)]
def DN (x:Inst) (l:List Col):Chc:=(B9 x l x.orders.length (List.replicate x.orders.length (-1)) 0).foldl (YE l) zCh
def bT (x:Inst) (l:List Col) (b:Chc) (e:Int):Prop:=(8192<l.length/\b=zCh/\e=4)\/(l.length<=8192/\(∃c∈l,rightB x c=false)/\b=zCh/\e=2) \/
 (l.length<=8192/\(∀c∈l,rightB x c=true)/\(((DN x l).found=false/\b=zCh/\e=24)\/((DN x l).found=true/\b=DN x l/\e=0)))
theorem I0 {n i:Nat} (h:i<n):nth (List.replicate n (-1:Int)) i= -1:=by
 grind [Zk]
theorem R5 {x:Inst} {l:List Col} :RngA x l (List.replicate x.orders.length (-1)):=⟨Zb,fun i hi=>by rw [I0 hi];omega⟩
theorem Mf {x:Inst} {l:List Col} (h4:x.orders.length<=4) (h6:x.types.length<=6) (hl:l.length<=1048576) (hs: ∀c∈l,c.set<9223372036854775808) (hr: ∀c∈l,rightB x c=true)
  (hsk: ∀k,k<x.orders.length->(nth x.orders k).off=false->0<=(nth x.orders k).penalty->0<=skR x k/\skR x k<=18014398509481984) (hus: ∀i,scoR 1152921504606846976 (unsF x i).1):ColsR x l :=
 ⟨h4,h6,hl,fun c hc=>by
  obtain ⟨S,q1,q2,q3,_⟩:=U9 (hr c hc) (hs c hc);have h:=hr c hc;simp only [rightB,Zw,Zs] at h
  exact ⟨⟨h.1,h.2.1⟩,h.2.2.2.2,S,q1,Uh q3 (Yi (n:=2) Za h4)⟩,hsk,hus⟩
theorem OC (x:Inst) (l:List Col) (lc:Bool) (h4:x.orders.length<=4) (h6:x.types.length<=6) (hl:l.length<=1048576) (hs: ∀c∈l,c.set<9223372036854775808)
  (hsk: ∀k,k<x.orders.length->(nth x.orders k).off=false->0<=(nth x.orders k).penalty->0<=skR x k/\skR x k<=18014398509481984) (hus: ∀i,scoR 1152921504606846976 (unsF x i).1) :
  ACalls Tryz.prog 85 [.p (Zr x),.p (.list lc (l.map Xj))] [] fun y H'=> ∃b e,bT x l b e/\y= .tup [.p (Tc b),.p (.int .i64 e)]/\H'= []:=by
 refine Ze [14] Tryz.func85 rfl Zh7 ?_;simp (disch:=omega) only [Tryz.f85,go_sem,seval];refine cD ?_ ?_<;>intro h1<;>simp (disch:=omega) only [Sh.out h1,go_sem,seval,↓reduceIte]
 ·exact ⟨.tup [.p (Tc zCh),.p (.int .i64 4)],[],Weak.mk (by simp (disch:=omega) only [zCh,WE,Zj,go_sem,seval]),_,_,.inl ⟨Za,rfl,rfl⟩,rfl,rfl⟩
 ·refine Zl [1,2,4] (fun k:Nat=> [(6,.p (.int .i64 k))]) (fun _=> [Zf x,LH zCh]) (fun k=>k<=l.length/\ ∀j,j<k->rightB x (nth l j)=true) (fun k=>l.length-k) 0 ⟨Zb,fun j hj=>Za⟩ (Weak.mk ?_) ?_
  ·simp (disch:=omega) only [Zf,LH,zCh,WE,Zj,go_sem,seval]
  ·rintro k ⟨hk,hno⟩;simp (disch:=omega) only [Zf,LH,zCh,WE,Zj,go_sem,seval];refine cD ?_ ?_<;>intro h2<;>simp (disch:=omega) only [Sh.out h2,go_sem,seval,↓reduceIte]
   ·have hk2:k<l.length:=Za
    refine Xd (Zd ?_);refine Zn (aF x (nth l k) h4 Za (hs _ (ZX hk2))) (Zd ?_)
    cases hr:rightB x (nth l k) with
    | false =>
     refine F9 ?_;exact ⟨.tup [.p (Tc zCh),.p (.int .i64 2)],[],Weak.mk (by simp (disch:=omega) only [zCh,WE,Zj,go_sem,seval]),_,_,.inr (.inl ⟨Za,⟨_,ZX hk2,hr⟩,rfl,rfl⟩),rfl,rfl⟩
    | true =>
     refine Ga ?_;exact ⟨k+1,⟨Za,Y2 hno hr⟩,Za,wk⟩
   ·have hr: ∀c∈l,rightB x c=true:=fun c hc=>by
     obtain ⟨j,hj,rfl⟩:=ZN.1 hc
     grind [Zk]
    have hC:=Mf h4 h6 hl hs hr hsk hus;clear hno hk h2;refine ZV [14] [2,4,7] (fun k:Nat=> [(8,.sl 3 0 k k),(9,.p (.int .i64 k))]) (fun k=> [Zf x,LH zCh,Uv x lc l zCh,.elems 1 ((List.replicate k (-1:Int)).map eI)]) (fun k=>k<=x.orders.length) (fun k=>x.orders.length-k) 0 Zb (Weak.ofNil 8 1 (by simp (disch:=omega) only [go_sem,seval]) Zb (Weak.mk ?_)) ?_
    ·simp (disch:=omega) only [Zf,LH,Uv,zCh,WE,Zj,List.replicate_zero,ZF,go_sem,seval]
    ·intro k hk;simp (disch:=omega) only [Zf,LH,Uv,zCh,WE,Zj,go_sem,seval];refine cD ?_ ?_<;>intro h2<;>simp (disch:=omega) only [Sh.out h2,go_sem,seval,↓reduceIte]
     ·have hk2:k<x.orders.length:=Za
      have hrp:(List.replicate k (-1:Int))++ [-1]=List.replicate (k+1) (-1):=by rw [En]
      simp (disch:=omega) only [Ei,go_sem,seval];rw [if_pos ⟨Za,Za⟩];refine Zd ?_;exact ⟨k+1,Za,Za,Weak.mk (by simp (disch:=omega) only [<- hrp,Xn,Zq,Zj,go_sem,seval])⟩
     ·have hkn:k=x.orders.length:=Za
      subst hkn;refine Zo (Weak.fz (o:=3) (by rfl)) ?_;refine Zh [] _ _ _ _ ?_;simp (disch:=omega) only [Zq,Zj,ZK,ZY,Ei,eq_self,go_sem,seval];have ht:=Sm x lc l hC x.orders.length (List.replicate x.orders.length (-1)) 0 zCh (ZI _) R5 Za Za (fun h=>by cases h);rw [Ai] at ht;obtain ⟨B,hB⟩: ∃B,B=DN x l:=⟨_,rfl⟩;rw [show (B9 x l x.orders.length (List.replicate x.orders.length (-1)) 0).foldl (YE l) zCh=B from hB.symm] at ht;refine ACalls.mono (((ht.mono fun y H' hq=>(⟨hq,by grind⟩:_/\H'.length= [Uv x lc l zCh].length)).front (by rfl) (by rfl) [.dead]).back [Zf x,LH zCh] (by rfl)) ?_
      rintro y H' ⟨y1,H1,⟨H2,⟨rfl,rfl⟩,rfl⟩,rfl,rfl⟩;obtain ⟨f,bp,bc⟩:=B
      cases f with
      | false =>
       simp (disch:=omega) only [shV,shVs,shO,Uv,Zf,LH,zCh,Zq,Zj,ZL,ZD,WE,go_sem,seval];exact ⟨.tup [.p (Tc zCh),.p (.int .i64 24)],[],Weak.mk (by simp (disch:=omega) only [zCh,WE,Zj,go_sem,seval]),_,_,.inr (.inr ⟨Za,hr,.inl ⟨by rw [<- hB],rfl,rfl⟩⟩),rfl,rfl⟩
      | true =>
       simp (disch:=omega) only [shV,shVs,shO,Uv,Zf,LH,zCh,Zq,Zj,ZL,ZD,Yu,go_sem,seval];exact ⟨.tup [.p (Tc ⟨true,bp,bc⟩),.p (.int .i64 0)],[],Weak.mk (by simp (disch:=omega) only [Yu,go_sem,seval]),_,_,.inr (.inr ⟨Za,hr,.inr ⟨by rw [<- hB],hB,rfl⟩⟩),rfl,rfl⟩
theorem iD {l:List Col} {x y:Int} (hx: -1<=x) (hy: -1<=y) (h:ky l x=ky l y):(x<0->x=y)/\(y<0->x=y)/\(0<=x->0<=y/\(nth l x.toNat).typ=(nth l y.toNat).typ/\(nth l x.toNat).set=(nth l y.toNat).set):=by
 unfold ky at h
 grind
theorem CW {l:List Col} : ∀ {a b:List Int},a.length=b.length->(∀t,t<a.length-> -1<=nth a t/\ -1<=nth b t/\ky l (nth a t)=ky l (nth b t))->Kf l a b=none
 | [],[],_,_=>L4
 | [],_::_,h,_=>by simp at h
 | _::_,[],h,_=>by simp at h
 | x::a,y::b,hl,h=>by
  have ih:=CW (l:=l) (a:=a) (b:=b) (by grind) fun t ht=>h (t+1) (by grind);obtain ⟨h1,h2,h3⟩:=h 0 Zb;obtain ⟨k1,k2,k3⟩:=iD (show-1<=x from h1) (show-1<=y from h2) h3;rw [Kf]
  grind
theorem P4 {l:List Col} : ∀ {a b:List Int} {i:Nat},a.length=b.length->i<a.length->(∀t,t<a.length-> -1<=nth a t/\ -1<=nth b t)->(∀t,t<i->ky l (nth a t)=ky l (nth b t))->iC (ky l (nth a i)) (ky l (nth b i))->Kf l a b=some true/\Kf l b a=some false
 | [],_,_,_,h,_,_,_=>by simp at h
 | _::_,[],_,h,_,_,_,_=>by simp at h
 | x::a,y::b,0,_,_,hr,_,h=>by
  obtain ⟨h1,h2⟩:=hr 0 Zb;have h':iC (ky l x) (ky l y):=h
  have hne:x≠y:=fun e=>by grind [iC]
  rw [Kf,Kf,if_neg hne,if_neg (Ne.symm hne)];unfold ky iC at h'
  grind
 | x::a,y::b,i+1,hl,hi,hr,he,h=>by
  have ih:=P4 (l:=l) (a:=a) (b:=b) (i:=i) (by grind) (by grind) (fun t ht=>hr (t+1) (by grind)) (fun t ht=>he (t+1) Za) h;obtain ⟨h1,h2⟩:=hr 0 Zb;have h3:ky l x=ky l y:=he 0 Za;obtain ⟨k1,k2,k3⟩:=iD (show-1<=x from h1) (show-1<=y from h2) h3;rw [Kf,Kf]
  grind
theorem P5 : ∀ {a b:List Int},a.length=b.length->(∀t,t<a.length->nth a t<=nth b t)->a=b\/(DO a b=true/\DO b a=false)
 | [],[],_,_=> .inl rfl
 | [],_::_,h,_=>by simp at h
 | _::_,[],h,_=>by simp at h
 | x::a,y::b,hl,h=>by
  have h0:x<=y:=h 0 Zb;rw [DO,DO]
  by_cases hxy:x=y
  ·subst hxy;rw [if_pos rfl,if_pos rfl];rcases P5 (a:=a) (b:=b) (by grind) (fun t ht=>h (t+1) (by grind)) with e | e
   ·grind
   grind
  grind
theorem uL {x:Inst} {l:List Col} {a b:List Int} (ha:RngA x l a) (hb:RngA x l b) (h:KL x.orders.length l a b):a=b\/(ES l a b=true/\ES l b a=false):=by
 have hl:a.length=b.length:=by rw [ha.1,hb.1]
 have hr: ∀t,t<a.length-> -1<=nth a t/\ -1<=nth b t:=fun t ht=>⟨(ha.2 t (by rw [<- ha.1];exact ht)).1,(hb.2 t (by rw [<- ha.1];exact ht)).1⟩;rcases h with ⟨i,hi,he,hlt⟩ | h
 ·obtain ⟨h1,h2⟩:=P4 hl (by rw [ha.1];exact hi) hr he hlt
  grind [Q1]
 ·have h1:=CW (l:=l) hl fun t ht=>⟨(hr t ht).1,(hr t ht).2,(h t (by rw [<- ha.1];exact ht)).1⟩;have h2:=CW (l:=l) hl.symm fun t ht=>⟨(hr t Za).2,(hr t Za).1,((h t (by rw [<- hb.1];exact ht)).1).symm⟩;rcases P5 hl fun t ht=>(h t (by rw [<- ha.1];exact ht)).2 with e | ⟨e1,e2⟩
  ·exact .inl e
  grind [GP]
def Prf (l:List Col) (P:List Int) (W:Int) (q:List Int×Int):Prop:=W<=q.2/\(q.2=W->P=q.1\/(ES l P q.1=true/\ES l q.1 P=false))
theorem NV {l:List Col} {P:List Int} {W:Int} : ∀ {L:List (List Int×Int)},(∀q∈L,Prf l P W q)->L.foldl (YE l) ⟨true,P,W⟩=⟨true,P,W⟩
 | [],_=>rfl
 | q::L,h=>by
  have e:YE l ⟨true,P,W⟩ q=⟨true,P,W⟩:=by
   obtain ⟨h1,h2⟩:=h q Zb;unfold YE
   split
   ·rename_i hc;rcases hc with hc | hc | ⟨hc,hd⟩
    ·cases hc
    ·simp only at hc;omega
    ·simp only at hc hd;rcases h2 hc with e | ⟨_,e⟩
     ·rw [<- e,hc]
     ·rw [e] at hd;cases hd
   ·rfl
  rw [XG,e];exact NV fun q hq=>h q (X9 _ hq)
theorem HQ {l:List Col} {P:List Int} {W:Int} : ∀ {L:List (List Int×Int)} {b:Chc},(b.found=false\/Prf l P W (b.places,b.price))->(∀q∈L,Prf l P W q)->(P,W)∈L->L.foldl (YE l) b=⟨true,P,W⟩
 | [],_,_,_,hm=>by simp at hm
 | q::L,b,hb,h,hm=>by
  rw [XG];have hq:=h q Zb;have hL: ∀q∈L,Prf l P W q:=fun q hq=>h q (X9 _ hq)
  by_cases e:q=(P,W)
  ·have:YE l b q=⟨true,P,W⟩:=by
    subst e;unfold YE
    split
    ·rfl
    ·rename_i hc;rcases hb with hb | ⟨h1,h2⟩
     ·grind
     ·simp only at h1 h2 hc
      have h3:b.price=W:=by
       omega
      rcases h2 h3 with e | ⟨e,_⟩
      ·obtain ⟨f,bp,bc⟩:=b
       grind
      grind
   grind [NV]
  ·refine HQ ?_ hL (by
    rcases Z5.1 hm with h | h
    ·exact absurd h.symm e
    ·exact h)
   unfold YE
   split
   ·exact .inr hq
   ·exact hb
theorem Ru {x:Inst} {l ys:List Col} (hc:Ctx x l ys) {D:Nat} (hD:10<D): ∀(d k:Nat) (s:St) (a:List Int) (p:Int),k+d=x.orders.length->Nd x l a s k->0<=Lx x ys D s->(gr x l ys D d k s a,p+Lx x ys D s)∈B9 x l d a p
 | 0,k,s,a,p,hd,ha,h0=>by
  rw [bV (by rw [ha.ix];omega),Uo,gr,B9];simp
 | d+1,k,s,a,p,hd,ha,h0=>by
  have hk:k<x.orders.length:=Za
  have hkd:x.orders.length-(d+1)=k:=Za
  rw [B9,hkd,gr]
  split
  ·rename_i ho;rw [PN hc ha hk ho] at h0 ⊢;exact Ru hc hD d (k+1) _ a p Za (ha.skip' hk) h0
  ·rename_i ho
   have hoff:(nth x.orders k).off=false:=by
    cases e:(nth x.orders k).off with
    | false=>rfl
    | true=>exact absurd (.inl e) ho
   have hak:nth a k<0:=Int.not_le.1 fun g=>ho (.inr g)
   have hcv:s.cov.toNat.testBit k=false:=by rw [ha.cov k hk];exact U1 Za
   rw [Xg,X2]
   cases hf:(Yd ys k).find? (KM x ys D s) with
   | some c =>
    left
    have hsel:=JL hf;simp only [KM,Zw,Zs] at hsel;obtain ⟨p1,p2,p3⟩:=JW hc ha hk (QN hf) hsel.1;have hch:=ha.child hc hk p1 p3;rw [p2] at hch;refine ⟨A8 l c,ZR.2 p1,?_⟩;rw [if_pos p3,p2];have:=Ru hc hD d (k+1) _ _ (p+c.price) Za hch hsel.2.1;rw [show p+c.price+Lx x ys D (Al s c)=p+Lx x ys D s by omega] at this;exact this
   | none =>
    right
    rw [JF] at hf;have hdec:=Oa hc hD ha.v ha.ix hk hoff hcv;have hno: ∀c∈Yd ys k,Yz x s c=true->0<=Lx x ys D (Al s c)->c.price+Lx x ys D (Al s c)≠Lx x ys D s:=fun c hm hy hL e=>hf c hm (by simp only [KM,hy,Un hL,Un e,Bool.and_self]);obtain ⟨s1,s2⟩:=hc.sk k hk hoff;have hfold:=G8 (x:=x) (s:=s) (r:=fun c=>Lx x ys D (Al s c)) (l:=Yd ys k) (a:= -1)
    by_cases hs:0<=skpF x k
    ·rw [if_pos (s1.2 hs),<- s2 hs];rw [if_pos hs] at hdec;unfold YK at hdec
     split at hdec
     ·rename_i hb;have:=Ru hc hD d (k+1) _ a (p+skpF x k) Za (ha.skip' hk) hb.1;rw [show p+skpF x k+Lx x ys D (Gk s)=p+Lx x ys D s by omega] at this;exact this
     ·exfalso;rcases hfold with e | ⟨c,h1,h2,h3,h4⟩
      ·unfold YK at e;omega
      ·exact hno c h1 h2 h3 (by rw [hdec];exact h4.symm)
    ·exfalso;rw [if_neg hs] at hdec;rcases hfold with e | ⟨c,h1,h2,h3,h4⟩
     ·omega
     ·exact hno c h1 h2 h3 (by rw [hdec];exact h4.symm)
def R7 (l:List Col) (g:List Int) (T:Nat):Nat->List Col
 | 0=> []
 | i+1=>R7 l g T i++(if 0<=nth g i/\(nth l (nth g i).toNat).typ=T/\(nth l (nth g i).toNat).set%(pw i:Nat)=0 then [nth l (nth g i).toNat] else [])
def LI (l:List Col) (g:List Int) (n:Nat):Nat->List Col
 | 0=> []
 | T+1=>LI l g n T++R7 l g T n
def bS (x:Inst) (g:List Int):Nat->List Int
 | 0=> []
 | i+1=>bS x g i++(if nth g i<0/\(nth x.orders i).off=false then [(i:Int)] else [])
theorem Lh {l:List Col} {g:List Int} {T:Nat} : ∀k,(R7 l g T k).length<=k
 | 0=>ZI _
 | k+1=>by
  have:=Lh (l:=l) (g:=g) (T:=T) k;rw [R7,Zz];split<;>simp<;>omega
theorem Li {l:List Col} {g:List Int} {n:Nat} : ∀T,(LI l g n T).length<=T*n
 | 0=>by simp [LI]
 | T+1=>by
  have:=Li (l:=l) (g:=g) (n:=n) T;have:=Lh (l:=l) (g:=g) (T:=T) n;rw [LI,Zz,Xx];omega
theorem Lz {x:Inst} {g:List Int} : ∀k,(bS x g k).length<=k
 | 0=>ZI _
 | k+1=>by
  have:=Lz (x:=x) (g:=g) k;rw [bS,Zz];split<;>simp<;>omega
def LJ (x:Inst) (l:List Col) (p:Pln) (c e:Int):Prop:= ∃b,bT x l b e/\(e≠0->p=zPlC/\c=0)/\(e=0->c=b.price/\p=⟨false,(LI l b.places b.places.length x.types.length).map (·.route),false,bS x b.places b.places.length⟩)
def bR (v w:V):AM.Obj:= .cells [v,w]
theorem Md (x:Inst) (l:List Col) (lc:Bool) (h4:x.orders.length<=4) (h6:x.types.length<=6) (hl:l.length<=1048576) (hs: ∀c∈l,c.set<9223372036854775808)
  (hsk: ∀k,k<x.orders.length->(nth x.orders k).off=false->0<=(nth x.orders k).penalty->0<=skR x k/\skR x k<=18014398509481984) (hus: ∀i,scoR 1152921504606846976 (unsF x i).1) :
  ACalls Tryz.prog 55 [.p (Zr x),.p (.list lc (l.map Xj))] [] fun y H'=> ∃p c e,LJ x l p c e/\y= .tup [.p (Jy p),.p (.int .i64 c),.p (.int .i64 e)]/\H'= []:=by
 refine Ze [18] Tryz.func55 rfl ZhG ?_;simp (disch:=omega) only [Tryz.f55,go_sem,seval];refine ((OC x l lc h4 h6 hl hs hsk hus).behind (by rfl) _).mono ?_;rintro y H' ⟨y1,H1,⟨b,e,hb,rfl,rfl⟩,rfl,rfl⟩;simp (disch:=omega) only [shV,shVs,Zj,go_sem,seval];refine cD ?_ ?_<;>intro h1<;>simp (disch:=omega) only [Sh.out h1,go_sem,seval,↓reduceIte]
 ·exact ⟨.tup [.p (Jy zPlC),.p (.int .i64 0),.p (.int .i64 e)],[],Weak.mk (by simp (disch:=omega) only [zPlC,Zj,go_sem,seval]),_,_,_,⟨b,hb,fun _=>⟨rfl,rfl⟩,fun h=>absurd h h1⟩,rfl,rfl⟩
 ·have he:e=0:=Za
  subst he;have hcv:=hb;rcases hb with ⟨_,_,h⟩ | ⟨_,_,_,h⟩ | ⟨hl2,hr,⟨_,_,h⟩ | ⟨hf,rfl,_⟩⟩
  ·cases h
  ·cases h
  ·cases h
  ·have hC:=Mf h4 h6 hl hs hr hsk hus;have hrg:RngA x l (DN x l).places:=(LB (x:=x) (l:=l) (b:=zCh) (fun h=>by cases h) (Aj x.orders.length R5)) hf;obtain ⟨⟨f,g,c⟩,hB⟩: ∃B,B=DN x l:=⟨_,rfl⟩;rw [<- hB] at hcv hf hrg ⊢;simp only at hf hrg;subst hf;have hgl:g.length=x.orders.length:=hrg.1;refine Zl [1,2,4,7,9] (fun T:Nat=> [(10,.p (.int .i64 T))]) (fun T=> [Zf x,bR (.p (.list true [])) (.p (.list true [])),LH ⟨true,g,c⟩,bR (.sl 4 0 (LI l g g.length T).length (LI l g g.length T).length) (.p (.list true [])),.elems 4 ((LI l g g.length T).map fun c=>Wg c.route)]) (fun T=>T<=x.types.length) (fun T=>x.types.length-T) 0 Zb ((Weak.nilC (o:=3) (j:=0) 4 (by rfl) (by rfl) Zb).trans (Weak.mk ?_)) ?_
   ·simp (disch:=omega) only [Zf,bR,LH,Yu,LI,Zj,ZF,ZK,ZY,go_sem,seval]
   ·intro T hT;obtain ⟨R,hR⟩: ∃R,R=LI l g g.length T:=⟨_,rfl⟩;have hRl:=Li (l:=l) (g:=g) (n:=g.length) T;rw [<- hR] at hRl ⊢
    have hRs:LI l g g.length (T+1)=R++R7 l g T g.length:=by rw [hR];rfl
    have hTn:T*g.length<=6*4:=Ad Za Za;simp (disch:=omega) only [Zf,bR,LH,Yu,go_sem,seval];refine cD ?_ ?_<;>intro h2<;>simp (disch:=omega) only [Sh.out h2,go_sem,seval,↓reduceIte]
    ·obtain ⟨W,hW⟩: ∃W:Nat->List Col,W=fun i=>R++R7 l g T i:=⟨_,rfl⟩
     have hW0:W 0=R:=by grind [R7]
     have hWn:LI l g g.length (T+1)=W g.length:=by rw [hRs,hW]
     have hWl: ∀i,(W i).length<=R.length+i:=fun i=>by
      grind [Lh]
     have hWs: ∀i,W (i+1)=W i++(if 0<=nth g i/\(nth l (nth g i).toNat).typ=T/\(nth l (nth g i).toNat).set%(pw i:Nat)=0 then [nth l (nth g i).toNat] else []):=fun i=>by grind [R7]
     clear hW hRs;refine Zl [1,2,4,7,9,10] (fun i:Nat=> [(11,.p (.int .i64 i))]) (fun i=> [Zf x,bR (.p (.list true [])) (.p (.list true [])),LH ⟨true,g,c⟩,bR (.sl 4 0 (W i).length (W i).length) (.p (.list true [])),.elems 4 ((W i).map fun c=>Wg c.route)]) (fun i=>i<=g.length) (fun i=>g.length-i) 0 Zb (Weak.mk ?_) ?_
     ·simp (disch:=omega) only [Zf,bR,LH,Yu,hW0,go_sem,seval]
     ·intro i hi
      have hQl:(W i).length<=28:=by grind
      have hQs:=hWs i;simp (disch:=omega) only [Zf,bR,LH,Yu,go_sem,seval];refine ZU ?_ ?_<;>intro h3
      ·have hi2:i<g.length:=Za
       have hri:=hrg.2 i Za;refine Xd (Zd ?_);refine Q3 ?_ ?_<;>intro h5
       ·have hj:(nth g i).toNat<l.length:=Za
        obtain ⟨⟨t0,t1⟩,⟨c0,c1⟩,S,hS,hS2⟩:=hC.col _ (ZX hj);refine Q3 ?_ ?_<;>intro h7
        ·have hpp:0<pw i/\pw i<=pw 4:=⟨FK i,Kc Za⟩;refine Zn (Ik i Za) (Zd ?_);rw [hS];refine ZU ?_ ?_<;>intro h8
         ·rw [if_pos ⟨h5,h7,by grind⟩] at hQs;refine ZB 12 mixed Zg Zg ?_;refine Zd ?_;exact ⟨i+1,Za,Za,Weak.mk (by simp (disch:=omega) only [hQs,Xn,Zq,Zj,Zz,ZA,ZF,Xh,go_sem,seval])⟩
         ·rw [if_neg (fun h=>h8 (by grind)),Yt] at hQs;exact ⟨i+1,Za,Za,Weak.mk (by simp (disch:=omega) only [hQs,go_sem,seval])⟩
        ·rw [if_neg (fun h=>h7 h.2.1),Yt] at hQs;exact ⟨i+1,Za,Za,Weak.mk (by simp (disch:=omega) only [hQs,go_sem,seval])⟩
       ·rw [if_neg (fun h=>h5 h.1),Yt] at hQs;exact ⟨i+1,Za,Za,Weak.mk (by simp (disch:=omega) only [hQs,go_sem,seval])⟩
      ·have hig:i=g.length:=Za
       subst hig;exact ⟨T+1,Za,Za,Weak.mk (by simp (disch:=omega) only [hWn,go_sem,seval])⟩
    ·have hTt:T=x.types.length:=Za
     subst hTt;refine ZV [18] [2,4,7,9] (fun i:Nat=> [(12,.p (.int .i64 i))]) (fun i=> [Zf x,bR (.p (.list true [])) (.p (.list true [])),LH ⟨true,g,c⟩,bR (.sl 4 0 R.length R.length) (.sl 5 0 (bS x g i).length (bS x g i).length),.elems 4 (R.map fun c=>Wg c.route),.elems 1 ((bS x g i).map eI)]) (fun i=>i<=g.length) (fun i=>g.length-i) 0 Zb ((Weak.nilC (o:=3) (j:=1) 1 (by rfl) (by rfl) Zb).trans (Weak.mk ?_)) ?_
     ·simp (disch:=omega) only [Zf,bR,LH,Yu,bS,Zj,ZF,ZK,ZY,go_sem,seval]
     ·intro i hi;obtain ⟨U,hU⟩: ∃U,U=bS x g i:=⟨_,rfl⟩;have hUl:=Lz (x:=x) (g:=g) i
      have hUs:bS x g (i+1)=U++(if nth g i<0/\(nth x.orders i).off=false then [(i:Int)] else []):=by rw [hU];rfl
      rw [<- hU] at hUl ⊢;simp (disch:=omega) only [Zf,bR,LH,Yu,go_sem,seval];refine cD ?_ ?_<;>intro h3<;>simp (disch:=omega) only [Sh.out h3,go_sem,seval,↓reduceIte]
      ·have hi2:i<g.length:=Za
       refine Q3 ?_ ?_<;>intro h5
       ·cases ho:(nth x.orders i).off with
        | true =>
         rw [if_neg (by rw [ho];simp),Yt] at hUs;refine Ga ?_;exact ⟨i+1,Za,Za,Weak.mk (by simp (disch:=omega) only [hUs,go_sem,seval])⟩
        | false =>
         rw [if_pos ⟨h5,ho⟩] at hUs;refine F9 ?_;exact ⟨i+1,Za,Za,Weak.mk (by simp (disch:=omega) only [hUs,Xn,Zq,Zj,Zz,ZA,ZF,Xh,go_sem,seval])⟩
       ·rw [if_neg (fun h=>h5 h.1),Yt] at hUs;exact ⟨i+1,Za,Za,Weak.mk (by simp (disch:=omega) only [hUs,go_sem,seval])⟩
      ·have hig:i=g.length:=Za
       subst hig;refine Zo (Weak.fz (o:=4) (by rfl)) ?_;refine Zo (Weak.fz (o:=5) (by rfl)) ?_;refine Zh [] _ _ _ _ ?_;simp (disch:=omega) only [Zq,Zj,ZK,ZY,eq_self,go_sem,seval];refine AY [3] [1,2] [2] 4 mixed Zg Zg Zg Zg Zb (Zd ?_);refine ⟨fun q hq p' hp=> ?_,?_⟩
       ·simp only [Z5,W0,Wa] at hq;rcases hq with rfl | rfl
        ·obtain rfl:7=p':=VE hp;exact VB (by decide)
        ·obtain rfl:114=p':=VE hp;exact VB (by decide)
       ·refine MO 3 _ _ Zg (by refine Zd ?_;exact ⟨rfl,rfl⟩) ?_;refine ⟨fun k hk=>by simp at hk;subst hk;rfl,IS ?_⟩;refine Zd ?_;exact ⟨.tup [.p (Jy ⟨false,R.map (·.route),false,U⟩),.p (.int .i64 c),.p (.int .i64 0)],[],Weak.mk (by simp (disch:=omega) only [List.map_map,Function.comp_def,go_sem,seval]),_,_,_,⟨_,hcv,fun h=>absurd rfl h,fun _=>⟨rfl,by rw [hR,hU]⟩⟩,rfl,rfl⟩
theorem E8 {α:Type} {p q:α->Bool} : ∀ {l:List α},(∀a∈l,p a=q a)->l.find? p=l.find? q
 | [],_=>rfl
 | a::l,h=>by
  rw [List.find?_cons,List.find?_cons,h a Zb,E8 fun a ha=>h a (X9 _ ha)]
def RA (l:List Col) (g:List Int):Nat->Nat->List Col
 | 0,_=> []
 | d+1,k=>(if 0<=nth g k/\AC (nth l (nth g k).toNat).set.toNat=(k:Int) then [nth l (nth g k).toNat] else [])++RA l g d (k+1)
def UA (x:Inst) (g:List Int):Nat->Nat->List Int
 | 0,_=> []
 | d+1,k=>(if nth g k<0/\(nth x.orders k).off=false then [(k:Int)] else [])++UA x g d (k+1)
theorem rE {x:Inst} {l ys:List Col} (hc:Ctx x l ys) {D:Nat} (hD:D=20) {s:St} {k:Nat} (hv:StV x.orders.length s) (hk:s.ix=k) (hkn:k<x.orders.length) (ho:(nth x.orders k).off=false) (hcv:s.cov.toNat.testBit k=false) {c:Col} (hm:c∈Yd ys k) :
  Lp x.orders.length (mI x) x (fstF x.orders.length ys) (skF x x.orders.length) s c=KM x ys D s c:=by
 have hn:=hc.n4;have e1:=Dq (n:=x.orders.length) hk (m:=mI x) (by grind [Fo]) (by grind [BD]);have e2:=Gg (m:=mI x) hk hkn hn (KI hc hkn hm).2.2.2
 grind [Lp,KM,Lx]
theorem Ew {x:Inst} {l ys:List Col} (hc:Ctx x l ys) {D:Nat} (hD:D=20): ∀(d k:Nat) (s:St) (a:List Int) (f:Nat),k+d=x.orders.length->d<f->Nd x l a s k ->
  Ym x.orders.length (mI x) x (fstF x.orders.length ys) (skF x x.orders.length) f (W9 x.orders.length (mI x) s)=(RA l (gr x l ys D d k s a) d k,UA x (gr x l ys D d k s a) d k)
 | 0,k,s,a,0,_,hf,_=>Za
 | 0,k,s,a,f+1,hd,_,h=>by
  rw [Ym,if_pos,RA,UA];simp only [W9];have:=CE (n:=x.orders.length) (m:=mI x) (cov:=s.cov) (x.orders.length-s.ix.toNat) s.ix.toNat;have:=h.ix;omega
 | d+1,k,s,a,0,_,hf,_=>Za
 | d+1,k,s,a,f+1,hd,hf,h=>by
  have hk:k<x.orders.length:=Za
  have hn:=hc.n4;rw [gr]
  split
  ·rename_i ho;have hsk:=ho.imp (fun e=>show sHas (mI x) k=false by grind [Fo]) (fun e=>show sHas s.cov k=true by rw [BD h.v Za,h.cov k hk];grind);rw [Dp h.ix hk hsk,Ew hc hD d (k+1) (Gk s) a (f+1) Za Za (h.skip' hk)];have hg:=(C1 hc (D:=D) d (k+1) (Gk s) a Za (h.skip' hk)).2 k hk (.inl Za);rw [RA,UA,hg,if_neg,if_neg,ZD,ZD]
   ·grind
   ·rintro ⟨g1,g2⟩;obtain ⟨t,t1,t2⟩:=h.old k hk (ZI _) g1;have hr:=h.rng k hk;obtain ⟨_,s0,s1,_⟩:=hc.set (ZX (l:=l) (i:=(nth a k).toNat) Za);have:=((PH s0 s1 hn hk).1 g2).2 t Za t2;omega
  ·rename_i ho
   have hoff:(nth x.orders k).off=false:=by
    grind
   have hak:nth a k<0:=Int.not_le.1 fun g=>ho (.inr g)
   have hcv:s.cov.toNat.testBit k=false:=by rw [h.cov k hk];grind
   rw [Dq h.ix (by grind [Fo]) (by rw [BD h.v Za,hcv]),Ym,if_neg (by rw [h.ix];omega)]
   have e2:nth (fstF x.orders.length ys) s.ix.toNat=Yd ys k:=by rw [h.ix,XS,M1,if_pos hk]
   rw [e2,E8 (q:=KM x ys D s) fun c hm=>rE hc hD h.v h.ix hk hoff hcv hm]
   cases hfd:(Yd ys k).find? (KM x ys D s) with
   | some c =>
    have hsel:=JL hfd;have hm:=QN hfd;simp only [KM,Zw] at hsel;obtain ⟨p1,p2,p3⟩:=JW hc h hk hm hsel.1;have hch:=h.child hc hk p1 p3;obtain ⟨c1,c2⟩:=BA h.len p3;rw [p2] at hch c1 c2;have hg:=(C1 hc (D:=D) d (k+1) (Al s c) _ Za hch).2 k hk (.inl Za);rw [XK (by rw [h.len];exact hk),if_pos c1] at hg;simp only;rw [Gg h.ix hk hn (KI hc hk hm).2.2.2,Ew hc hD d (k+1) (Al s c) _ f Za Za hch,RA,UA,hg,if_pos ⟨Za,by rw [XS,p2];exact (KI hc hk hm).2.2.1⟩,if_neg Za,XS,p2]
    rfl
   | none =>
    have hg:=(C1 hc (D:=D) d (k+1) (Gk s) a Za (h.skip' hk)).2 k hk (.inl Za);simp only;have e3:De x.orders.length (mI x) s=W9 x.orders.length (mI x) (Gk s):=rfl;rw [e3,Ew hc hD d (k+1) (Gk s) a f Za Za (h.skip' hk),RA,UA,hg,if_neg Za,if_pos ⟨hak,hoff⟩,h.ix]
    rfl
theorem HV {l:List Col} {g:List Int} {c:Col} : ∀(d k:Nat),c∈RA l g d k↔ ∃i,k<=i/\i<k+d/\0<=nth g i/\AC (nth l (nth g i).toNat).set.toNat=(i:Int)/\c=nth l (nth g i).toNat
 | 0,k=>by simp [RA];omega
 | d+1,k=>by
  rw [RA,Xg,HV d (k+1)]
  constructor
  ·rintro (h | ⟨i,h1,h2,h3⟩)
   ·split at h
    ·grind
    ·simp at h
   grind
  grind
theorem bW {l:List Col} {g:List Int} : ∀(d k:Nat),(RA l g d k).Pairwise fun a b=>AC a.set.toNat<AC b.set.toNat
 | 0,k=> .nil
 | d+1,k=>by
  rw [RA,Em];refine ⟨?_,bW d (k+1),fun a ha b hb=> ?_⟩
  ·split<;>simp
  ·split at ha
   ·rename_i hh;obtain ⟨i,h1,h2,h3,h4,rfl⟩:=(HV _ _).1 hb
    grind
   ·simp at ha
theorem PP {x:Inst} {g:List Int} : ∀(d k:Nat),UA x g (d+1) k=UA x g d k++(if nth g (k+d)<0/\(nth x.orders (k+d)).off=false then [((k+d:Nat):Int)] else [])
 | 0,k=>by simp [UA]
 | d+1,k=>by
  rw [UA,PP d (k+1),UA,Vj,show k+1+d=k+(d+1) by omega]
theorem bY {x:Inst} {g:List Int} : ∀n,UA x g n 0=bS x g n
 | 0=>rfl
 | n+1=>by rw [PP,bY n,bS,Xh]
theorem Zb5 : ∀S:Fin 16,0<S.val-> ∀i:Fin 4,S.val.testBit i.val=true->((S.val:Int)%(pw i.val:Nat)=0↔AC S.val=(i.val:Int)):=by decide+kernel
theorem Av {l:List Col} {g:List Int} {T:Nat} {c:Col} : ∀k,c∈R7 l g T k↔ ∃i,i<k/\0<=nth g i/\(nth l (nth g i).toNat).typ=T/\(nth l (nth g i).toNat).set%(pw i:Nat)=0/\c=nth l (nth g i).toNat
 | 0=>by simp [R7]
 | k+1=>by
  rw [R7,Xg,Av k]
  constructor
  ·grind
  grind
theorem Lj {l:List Col} {g:List Int} {n:Nat} {c:Col} : ∀T,c∈LI l g n T↔ ∃t,t<T/\c∈R7 l g t n
 | 0=>by simp [LI]
 | T+1=>by
  rw [LI,Xg,Lj T]
  grind
theorem uH {x:Inst} (hx:InstOk x) {k:Nat} (hk:k<x.orders.length) (ho:(nth x.orders k).off=false):(0<=(nth x.orders k).penalty↔0<=skpF x k)/\(0<=skpF x k->skpF x k=skR x k):=by
 have ha:=(hx.orders.2 k hk).arg;simp only [argOk,rng,Zw,Zs] at ha
 have e:unsF x k=if (nth x.orders k).penalty= -1 then (zSco,23) else (⟨(nth x.orders k).penalty,if (nth x.orders k).now= -1 then 0 else 1,0,0⟩,0):=by
  simp_all [unsF,if_neg]
 by_cases hp:(nth x.orders k).penalty= -1
 ·simp_all [skpF]
 ·have hm:(if (nth x.orders k).now= -1 then (0:Int) else 1)=0\/(if (nth x.orders k).now= -1 then (0:Int) else 1)=1:=Za
  have e2:skpF x k=skR x k/\0<=skR x k:=by
   rw [skpF,skR,e,if_neg hp];generalize (if (nth x.orders k).now= -1 then (0:Int) else 1)=m at hm
   have:YW ⟨(nth x.orders k).penalty,m,0,0⟩=((((nth x.orders k).penalty*16+m)*16+0)*65536+0,0):=by
    rw [YW,if_neg (by grind),if_neg (by grind)]
   grind
  omega
theorem eU {x:Inst} {l ys:List Col} (hx:InstOk x) (hn:x.orders.length<=4) (hC:Cheap l ys) (hr: ∀c∈l,rightB x c=true) (hs: ∀c∈l,c.set<9223372036854775808):Ctx x l ys :=
 have hok:=Ra hx hn hC hr hs
 ⟨hn,hok.typ.1,hC,hr,hs,hok,fun _ hk ho=>uH hx hk ho⟩
theorem So {l:List Col} {n:Nat} {T:Int} : ∀m,m<=n->usdI l (List.replicate n (-1)) T m=0
 | 0,_=>rfl
 | m+1,h=>by
  rw [usdI,So m Za,CM,I0 Za,U1 Za];rfl
theorem RY (x:Inst) (l:List Col):Nd x l (List.replicate x.orders.length (-1)) zSt 0:=by
 have hz: ∀i,i<x.orders.length->nth (List.replicate x.orders.length (-1:Int)) i= -1:=fun i hi=>I0 hi;refine ⟨Zb,rfl,uK _,fun i hi=> ?_,fun i hi=>by grind,fun T hT=> ?_,fun i hi h=>by grind,fun i hi _ h=>by grind,fun i hi h=>by grind⟩
 ·simp_all [zSt]
 ·rw [So _ (ZI _)]
  have:T=0\/T=1\/T=2\/T=3\/T=4\/T=5:=Za
  rcases this with rfl | rfl | rfl | rfl | rfl | rfl<;>rfl
theorem Nd.RngA {x:Inst} {l:List Col} {a:List Int} {s:St} {k:Nat} (h:Nd x l a s k):RngA x l a:=⟨h.len,h.rng⟩
theorem MB {x:Inst} {l ys:List Col} (hc:Ctx x l ys) {D:Nat} : ∀(d k:Nat) (s:St) (a:List Int),k+d=x.orders.length->Nd x l a s k-> ∃s',Nd x l (gr x l ys D d k s a) s' x.orders.length
 | 0,k,s,a,hd,h=>⟨s,by grind [gr]⟩
 | d+1,k,s,a,hd,h=>by
  have hk:k<x.orders.length:=Za
  rw [gr]
  split
  ·exact MB hc d (k+1) _ _ Za (h.skip' hk)
  ·split
   ·rename_i c hf;have hsel:=JL hf;simp only [KM,Zw] at hsel;obtain ⟨p1,p2,p3⟩:=JW hc h hk (QN hf) hsel.1;have hch:=h.child hc hk p1 p3;rw [p2] at hch;exact MB hc d (k+1) _ _ Za hch
   ·exact MB hc d (k+1) _ _ Za (h.skip' hk)
theorem PX {x:Inst} {l ys:List Col} (hc:Ctx x l ys) {D:Nat} (hD:10<D) :
  (Lx x ys D zSt<0->(DN x l).found=false)/\(0<=Lx x ys D zSt->DN x l=⟨true,gr x l ys D x.orders.length 0 zSt (List.replicate x.orders.length (-1)),Lx x ys D zSt⟩):=by
 have hz:=RY x l;have hb:=BN hc hD x.orders.length 0 zSt _ _ 0 Za hz hz KE.refl;obtain ⟨s',hg⟩:=MB hc (D:=D) x.orders.length 0 zSt _ Za hz
 constructor
 ·intro h
  have:B9 x l x.orders.length (List.replicate x.orders.length (-1)) 0= []:=by
   cases e:B9 x l x.orders.length (List.replicate x.orders.length (-1)) 0 with
   | nil=>rfl
   | cons q L=>grind
  rw [DN,this];rfl
 ·intro h;have hin:=Ru hc hD x.orders.length 0 zSt _ 0 Za hz h;rw [Int.zero_add] at hin;refine HQ (.inl rfl) (fun q hq=> ?_) hin;obtain ⟨_,h2,h3⟩:=hb q hq;rw [Int.zero_add] at h2 h3;exact ⟨h2,fun e=>uL hg.RngA (Aj _ hz.RngA q hq) (h3 e)⟩
theorem R8 {l:List Col} {g:List Int} {T n:Nat} (hdv: ∀i,i<n->0<=nth g i->((nth l (nth g i).toNat).set%(pw i:Nat)=0↔AC (nth l (nth g i).toNat).set.toNat=(i:Int))): ∀k,k<=n->(R7 l g T k).Pairwise fun a b=>oA a b<0
 | 0,_=> .nil
 | k+1,hk=>by
  rw [R7,Em];refine ⟨R8 hdv k Za,by split<;>simp,fun a ha b hb=> ?_⟩
  split at hb
  ·rename_i hh
   obtain rfl:b=nth l (nth g k).toNat:=by grind
   obtain ⟨i,h1,h2,h3,h4,rfl⟩:=(Av _).1 ha;rw [Jw,h3,hh.2.1]
   right
   refine ⟨rfl,?_⟩
   show AC _<AC _
   grind
  ·simp at hb
theorem R9 {l:List Col} {g:List Int} {n:Nat} (hdv: ∀i,i<n->0<=nth g i->((nth l (nth g i).toNat).set%(pw i:Nat)=0↔AC (nth l (nth g i).toNat).set.toNat=(i:Int))): ∀T,(LI l g n T).Pairwise fun a b=>oA a b<0
 | 0=> .nil
 | T+1=>by
  rw [LI,Em];refine ⟨R9 hdv T,R8 hdv n (ZI _),fun a ha b hb=> ?_⟩;obtain ⟨t,h1,h2⟩:=(Lj _).1 ha;obtain ⟨i,_,_,h3,_,rfl⟩:=(Av _).1 h2;obtain ⟨j,_,_,h5,_,rfl⟩:=(Av _).1 hb
  simp_all [Jw]
theorem aK {x:Inst} {l ys:List Col} (hc:Ctx x l ys) {g:List Int} {s:St} (hg:Nd x l g s x.orders.length) {zs:List Col} (hp:zs.Perm (RA l g x.orders.length 0)) (ha:zs.Pairwise fun a b=> ¬oA b a<0):zs=LI l g x.orders.length x.types.length:=by
 have hn:=hc.n4;have hin: ∀i,i<x.orders.length->0<=nth g i->nth l (nth g i).toNat∈l:=fun i hi h0=>ZX (by have:=hg.rng i hi;omega)
 have hdv: ∀i,i<x.orders.length->0<=nth g i->((nth l (nth g i).toNat).set%(pw i:Nat)=0↔AC (nth l (nth g i).toNat).set.toNat=(i:Int)):=fun i hi h0=>by
  obtain ⟨e,s0,s1,_⟩:=hc.set (hin i hi h0);have h16:(nth l (nth g i).toNat).set.toNat<16:=Uh s1 (Yi (n:=2) Za hn);have:=Zb5 ⟨_,h16⟩ s0 ⟨i,Za⟩ (hg.own i hi h0)
  grind
 have hne:zs.Pairwise fun a b=>lo a≠lo b:=by
  have h1:(RA l g x.orders.length 0).Pairwise fun a b=>lo a≠lo b:=(bW _ _).imp fun {a b} h e=>by
   have e':AC a.set.toNat=AC b.set.toNat:=e;omega
  exact (hp.pairwise_iff fun h e=>h e.symm).2 h1
 have hz:zs.Pairwise fun a b=>oA a b<0:=(hne.and ha).imp fun {a b} h=>by
  have h1:=h.1;have h2:=h.2;rw [Jw] at h2 ⊢;omega
 refine F6 (r:=fun a b=>oA a b<0) (fun a=>by rw [Jw];omega) (fun a b=>by rw [Jw,Jw];omega) hz (R9 hdv _) fun c=> ?_;rw [hp.mem_iff,HV,Lj]
 constructor
 ·rintro ⟨i,_,h1,h2,h3,rfl⟩;have ht:=(hc.typ (hin i Za h2)).1;exact ⟨(nth l (nth g i).toNat).typ.toNat,Za,(Av _).2 ⟨i,Za,h2,Za,(hdv i Za h2).2 h3,rfl⟩⟩
 ·rintro ⟨t,_,h⟩;obtain ⟨i,h1,h2,h3,h4,rfl⟩:=(Av _).1 h
  grind
theorem L5 {x:Inst} {ys:List Col} {D:Nat} (hD:D=20):IU x ys=Lx x ys D zSt:=by subst hD;rfl
theorem Zil {x:Inst} {l:List Col} {a e e':Int} {b:Chc} (hx:InstOk x) (hn:x.orders.length<=4) (hs: ∀c∈l,c.set<9223372036854775808) (h:Zl4 x l a e) (h':bT x l b e'):a=b.price/\e=e':=by
 rcases h with ⟨g1,rfl,rfl⟩ | ⟨g1,⟨c,gc,g2⟩,rfl,rfl⟩ | ⟨g1,g2,ys,g3,rfl,rfl⟩<;>rcases h' with ⟨k1,rfl,rfl⟩ | ⟨k1,⟨c',kc,k2⟩,rfl,rfl⟩ | ⟨k1,k2,k3⟩
 ·exact ⟨rfl,rfl⟩
 ·omega
 ·omega
 ·omega
 ·exact ⟨rfl,rfl⟩
 ·grind
 ·omega
 ·grind
 ·obtain ⟨D,hD⟩: ∃D:Nat,D=20:=⟨20,rfl⟩;rw [L5 hD];obtain ⟨q1,q2⟩:=PX (eU hx hn g3 g2 hs) (D:=D) Za;rcases k3 with ⟨f,rfl,rfl⟩ | ⟨f,rfl,rfl⟩
  ·have:Lx x ys D zSt<0:=Int.not_le.1 fun h0=>by grind
   rw [if_pos this,if_pos this];exact ⟨rfl,rfl⟩
  grind
theorem dX {x:Inst} {l:List Col} {p q:Pln} {c e c' e':Int} (hx:InstOk x) (hn:x.orders.length<=4) (hs: ∀c∈l,c.set<9223372036854775808) (h:mH x l p c e) (h':LJ x l q c' e'):c=c'/\e=e'/\p.routes=q.routes/\p.unserved=q.unserved/\p.routes.length<=24/\p.unserved.length<=24/\ ∀r∈p.routes,∃c∈l,r=c.route:=by
 obtain ⟨b,hb,h1,h2⟩:=h';have z:zPlC.routes.length<=24/\zPlC.unserved.length<=24/\ ∀r∈zPlC.routes,∃c∈l,r=c.route:=⟨by simp [zPlC],by simp [zPlC],fun r hr=>by simp [zPlC] at hr⟩;rcases h with ⟨g1,rfl,rfl,rfl⟩ | ⟨g1,⟨c,gc,g2⟩,rfl,rfl,rfl⟩ | ⟨g1,g2,ys,g3,g4,g5⟩<;>rcases hb with ⟨k1,rfl,rfl⟩ | ⟨k1,⟨c',kc,k2⟩,rfl,rfl⟩ | ⟨k1,k2,k3⟩
 ·grind
 ·omega
 ·omega
 ·omega
 ·grind
 ·grind
 ·omega
 ·grind
 ·obtain ⟨D,hD⟩: ∃D:Nat,D=20:=⟨20,rfl⟩;have hc:=eU hx hn g3 g2 hs;obtain ⟨q1,q2⟩:=PX hc (D:=D) Za;rw [L5 hD] at g5;rcases g5 with ⟨g6,rfl,rfl,rfl⟩ | ⟨g6,rfl,rfl,zs,hp,ha,rfl⟩
  ·grind
  ·rcases k3 with ⟨f,rfl,rfl⟩ | ⟨f,rfl,rfl⟩
   ·grind
   ·obtain ⟨rfl,rfl⟩:=h2 rfl;have hz:=RY x l;have hpk:=Ew hc hD x.orders.length 0 zSt _ 20 Za Za hz;obtain ⟨s',hg⟩:=MB hc (D:=D) x.orders.length 0 zSt _ Za hz;rw [q2 g6];simp only [mI] at hpk;rw [hpk] at hp ⊢;simp only at hp ⊢;have hzs:=aK hc hg hp ha;rw [hg.len,bY,hzs];have l1:=Li (l:=l) (g:=gr x l ys D x.orders.length 0 zSt (List.replicate x.orders.length (-1))) (n:=x.orders.length) x.types.length;have l2:=Lz (x:=x) (g:=gr x l ys D x.orders.length 0 zSt (List.replicate x.orders.length (-1))) x.orders.length
    have l3:x.types.length*x.orders.length<=6*4:=Ad hc.t6 hn;refine ⟨trivial,trivial,rfl,rfl,by grind,Za,fun r hr=> ?_⟩;obtain ⟨c,hcm,rfl⟩:=XO.1 hr;rw [<- hzs,hp.mem_iff,HV] at hcm;obtain ⟨i,_,i1,i2,_,rfl⟩:=hcm;exact ⟨_,ZX (by have:=hg.rng i Za;omega),rfl⟩
theorem E7 {α:Type} [DecidableEq α] {p q:α->Bool} {a:α} : ∀ {l:List α},l.Nodup->a∈l->p a=false->q a=true->(∀b∈l,b≠a->p b=q b)->(l.filter q).length=(l.filter p).length+1
 | [],_,h,_,_,_=>by simp at h
 | b::l,hn,h,hp,hq,he=>by
  rw [List.nodup_cons] at hn
  by_cases e:b=a
  ·grind [Aa]
  ·have ih:=E7 hn.2 (by
    grind) hp hq fun c hc=>he c (X9 _ hc)
   grind
theorem LC {g:FuncId} {args:List V} {R:Pln->Int->Int->Prop} {H:List AM.Obj} {K:V->List AM.Obj->Prop} (h:ACalls Tryz.prog g args [] fun y H'=> ∃p c e,R p c e/\y= .tup [.p (Jy p),.p (.int .i64 c),.p (.int .i64 e)]/\H'= []) (k: ∀p c e,R p c e->K (.tup [.p (Jy p),.p (.int .i64 c),.p (.int .i64 e)]) H) (ha:Xi 0 args=true:=by rfl):ACalls Tryz.prog g args H K :=
 (h.behind ha H).mono fun x H' hq=>by
  obtain ⟨y,H1,⟨p,c,e,hr,rfl,rfl⟩,rfl,rfl⟩:=hq
  grind [shV,shVs]
theorem HN {ok:List Vis->Bool} {col:List Vis->Col} {better:Col->Col->Bool} : ∀(L:List (List Vis)) (b:Col×Bool),(L.foldl (XW ok col better) b).2=true->(b.2=true/\(L.foldl (XW ok col better) b).1=b.1)\/ ∃m∈L,ok m=true/\(L.foldl (XW ok col better) b).1=col m
 | [],b,h=> .inl ⟨h,rfl⟩
 | l::L,b,h=>by
  rw [XG] at h ⊢;rcases HN L _ h with ⟨h1,h2⟩ | ⟨m,h1,h2,h3⟩
  ·rw [h2];unfold XW at h1 ⊢
   grind
  grind
theorem GS {x:Inst} {k:Int} {S:Nat} (h:(UB x k S).2=0): ∃m,m∈RL x k S (W3 x S) [] (st0 (nth x.types k.toNat))/\I6 x k m=true/\(UB x k S).1=YM x k S m:=by
 unfold UB at h ⊢
 split at h
 ·rename_i hc;rw [if_pos hc];rcases HN _ _ hc.2 with ⟨h1,_⟩ | ⟨m,h1,h2,h3⟩
  ·cases h1
  ·exact ⟨m,h1,h2,h3⟩
 ·cases h
theorem Np {one:Nat->List Col} {c:Col} : ∀q,c∈Bc one q↔ ∃S,1<=S/\S<=q/\c∈one S
 | 0=>by simp [Bc];omega
 | q+1=>by
  rw [Bc,Xg,Np q]
  grind
theorem LQ {one:Nat->Nat->List Col} {N:Nat} {c:Col} : ∀K,c∈VR one N K↔ ∃k S,k<K/\1<=S/\S<=N/\c∈one k S
 | 0=>by simp [VR]
 | K+1=>by
  rw [VR,Xg,LQ K,Np]
  grind
noncomputable def Uc (x:Inst):List Col:=VR (Vm x) (2^x.orders.length-1) x.types.length
theorem LR {x:Inst} {c:Col} :c∈Uc x↔ ∃k S,k<x.types.length/\0<S/\S<2^x.orders.length/\(UB x (k:Int) S).2=0/\c=(UB x (k:Int) S).1:=by
 have hp1:1<=2^x.orders.length:=Nat.one_le_two_pow;rw [Uc,LQ]
 constructor
 ·grind [Vm]
 ·rintro ⟨k,S,h1,h2,h3,h4,h5⟩;exact ⟨k,S,h1,Za,Za,by simp_all [Vm]⟩
theorem cS {x:Inst} {c:Col} (h:c∈Uc x): ∃(k S:Nat) (m:List Vis),k<x.types.length/\0<S/\S<2^x.orders.length/\m.length=W3 x S/\I6 x k m=true/\c=YM x k S m:=by
 obtain ⟨k,S,h1,h2,h3,h4,rfl⟩:=LR.1 h;obtain ⟨m,m1,m2,m3⟩:=GS h4;exact ⟨k,S,m,h1,h2,h3,by have:=IV _ _ _ m m1;grind,m2,m3⟩
theorem D4 {x:Inst} (hn:x.orders.length<=4) (h6:x.types.length<=6):(Uc x).length<=96/\ ∀c∈Uc x,c.set<9223372036854775808/\Zcb c.route:=by
 have hp2:2^x.orders.length<=2^4:=Yi Za hn;refine ⟨?_,fun c hc=> ?_⟩
 ·have h1:=Bs (N:=2^x.orders.length-1) (KF (x:=x)) x.types.length;have h2:x.types.length*(2^x.orders.length-1)<=6*16:=Ad Za Za;unfold Uc;omega
 ·obtain ⟨k,S,m,_,_,h3,h4,_,rfl⟩:=cS hc;have:=CK x S x.orders.length;unfold W3 at h4;exact ⟨by grind [YM],by grind [YM,Be],by simp [YM,Be]⟩
theorem rL (x:Inst) (hx:InstOk x) (hn:x.orders.length<=4) (h6:x.types.length<=6) (hbl:x.before.length<=1048576) (hal:x.apart.length<=1048576) :
  ACalls Tryz.prog 43 [.p (Zr x)] [] fun y H'=> ∃p c e,mH x (Uc x) p c e/\y= .tup [.p (Jy p),.p (.int .i64 c),.p (.int .i64 e)]/\H'= []:=by
 obtain ⟨hl,hc⟩:=D4 hn h6;have ca:=Ni x hx hn h6 hbl hal;have cc:=T0 x (Uc x) false hx hn Za (fun c h=>(hc c h).1) Za;rw [show VR (Vm x) (2^x.orders.length-1) x.types.length=Uc x from rfl] at ca;generalize Uc x=L at ca cc ⊢;refine Ze [] Tryz.func43 rfl Zhu ?_;simp (disch:=omega) only [Tryz.f43,go_sem,seval];refine Y5 ca (Zd ?_);refine LC cc fun p c e hR=>Zd ?_;exact ⟨.tup [.p (Jy p),.p (.int .i64 c),.p (.int .i64 e)],[],wk,p,c,e,hR,rfl,rfl⟩
theorem aU (x:Inst) (hx:InstOk x) (hn:x.orders.length<=4) (h6:x.types.length<=6) (hbl:x.before.length<=1048576)
  (hsk: ∀k,k<x.orders.length->(nth x.orders k).off=false->0<=(nth x.orders k).penalty->0<=skR x k/\skR x k<=18014398509481984) (hus: ∀i,scoR 1152921504606846976 (unsF x i).1) :
  ACalls Tryz.prog 24 [.p (Zr x)] [] fun y H'=> ∃p c e,LJ x (Uc x) p c e/\y= .tup [.p (Jy p),.p (.int .i64 c),.p (.int .i64 e)]/\H'= []:=by
 obtain ⟨hl,hc⟩:=D4 hn h6;have ca:=mO x hx hn h6 hbl;have cc:=Md x (Uc x) false hn h6 Za (fun c h=>(hc c h).1) hsk hus;rw [show VR (Vm x) (2^x.orders.length-1) x.types.length=Uc x from rfl] at ca;generalize Uc x=L at ca cc ⊢;refine Ze [] Tryz.func24 rfl Zhh ?_;simp (disch:=omega) only [Tryz.f24,go_sem,seval];refine Y5 ca (Zd ?_);refine LC cc fun p c e hR=>Zd ?_;exact ⟨.tup [.p (Jy p),.p (.int .i64 c),.p (.int .i64 e)],[],wk,p,c,e,hR,rfl,rfl⟩
end Go.Proofs.YtjkkdmeebhjaiaaGreatDoor.K
