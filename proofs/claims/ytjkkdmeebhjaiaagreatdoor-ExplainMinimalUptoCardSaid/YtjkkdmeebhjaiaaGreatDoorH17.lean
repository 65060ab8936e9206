/- Declarations that the closing texts need, part 17: joined by tools/slim.py. -/
import Derived.Test.YtjkkdmeebhjaiaaGreatDoorH16
import Derived.Shelf.SlSortCmp.NoneTotal
set_option linter.unusedVariables false
set_option linter.unusedSimpArgs false
namespace Go.AM
open Go.RowKit Go.Shelf Go.Lib Go.Sort Go.Proofs
theorem kQ {W w':World} {H':List AM.Obj} {ι':List (Option Nat)} (g:Good Bf [] [] W H' ι' w'): ∃q os',w'=grow (W.drewN q) os':=by
 refine ⟨w'.drawn-W.drawn,w'.heap.extract W.heap.size w'.heap.size,?_⟩
 have h1:w'.heap=W.heap++w'.heap.extract W.heap.size w'.heap.size:=by
  apply Array.ext_getElem?;intro i
  by_cases hi:i<W.heap.size
  ·rw [DO hi];exact g.keep i hi Zb
  ·rw [Array.getElem?_append_right Za];have:=g.size;rw [Array.getElem?_extract]
   split
   ·congr 1;omega
   ·rw [Array.getElem?_eq_none Za]
 have h2:W.drawn<=w'.drawn:=g.tape.2.resolve_right fun h=>h;have h3:=g.tape.1;have h4:=g.os;have h5:=g.output
 cases w'
 simp only [grow,World.drewN] at *
 congr 1
 omega
def Rw (c:Array Value) (k i:Nat):List Value:=(List.range k).map fun j=>c.getD (i*k+j) undef
theorem GF (c k i):(Rw c k i).length=k:=by simp [Rw]
theorem C7 {c k i j} (h:j<k):(Rw c k i)[j]! =c.getD (i*k+j) undef:=by
 rw [List.getElem!_eq_getElem?_getD,Rw,Xr,List.getElem?_range h];rfl
theorem ACalls.sortFunc {P : Program} {ρ : Ren} (L : SlLaysF0.n6 P ρ) (hg : Zj P (ρ.f 6)) (k : Nat) (aE : ∀ w, (isAgg (ρ.t 24)).run P w = .ok true w) (zE : ∀ w, (Go.sizeOf (ρ.t 24)).run P w = .ok k w)
    {β : Type} [Inhabited β] (f : β -> PV) (hf : ∀ x, ∃ cs, f x = .agg cs /\ cs.length = k /\ cs.all (·.one) = true) (cf : β -> β -> Int) (hO : SWO (ltOf cf)) (g : FuncId)
    (hcmp : ∀ x y, ACalls P g [.p (f x), .p (f y)] [] fun r H' => r = .p (.int .i64 (cf x y)) /\ H' = []) (xs : List β) (hlen : xs.length < 4611686018427387904) {H : List AM.Obj} {o : Nat} (hHo : H[o]? = some (.elems k (xs.map f))) :
    ACalls P (ρ.f 6) [.sl o 0 xs.length xs.length, .fn (.func g) [] []] H fun y H' => y = .tup [] /\ ∃ ys : List β, ys.Perm xs /\ ys.Pairwise (fun a b => ¬ cf b a < 0) /\ H' = H.set o (.elems k (ys.map f)) := by
  refine ⟨hg, fun F ι w vs hr hv => ?_⟩;obtain ⟨hv1, hv2⟩ := hv;have h0 := hv2 0 _ rfl;have h1 := hv2 1 _ rfl
  have hvs : vs = #[vs.getD 0 undef, vs.getD 1 undef] := by
    apply Array.ext
    · simpa using hv1
    · intro i h2 h3
      have : i = 0 \/ i = 1 := by simp at hv1; omega
      rcases this with rfl | rfl <;> simp [Array.getD, h2]
  rw [hvs];generalize vs.getD 0 undef = v0 at h0 ⊢;generalize vs.getD 1 undef = v1 at h1 ⊢;clear hvs hv1 hv2
  cases h1 with | fn _ _ _ a e hs ht _ _ =>
  have ea : a = #[] := EU (by simpa using hs);have ee : e = #[] := EU (by simpa using ht);subst ea; subst ee;generalize hL : xs.length = n at h0 hlen
  by_cases hz : n = 0
  · subst hz
    obtain rfl : xs = [] := E0.1 hL
    have e1 : H.set o (.elems k (([] : List β).map f)) = H := by
      apply Kc;intro i;rw [Jh]
      split
      · rename_i hi; subst hi; rw [hHo]; simp [(ZY.1 hHo).1]
      · rfl
    obtain ⟨ad, cap, rfl⟩ : ∃ ad cap, v0 = .slice ad 0 cap := by
      cases h0 with
      | slNil => exact ⟨_, _, rfl⟩
      | sl => exact ⟨_, _, rfl⟩
      | slD _ _ _ _ _ hd => rw [hHo] at hd; cases hd
      | slS _ _ _ _ _ S2 xs2 hd hne => rw [hHo] at hd; simp at hd; obtain ⟨_, rfl⟩ := hd; simp at hne
      | slC _ _ _ _ _ _ hd => rw [hHo] at hd; cases hd
    refine (AnyF.slices_SortFunc_none L ad cap _ w).mono ?_;rintro e w' ⟨rfl, rfl⟩;exact ⟨.tup [], _, ι, _, rfl, ⟨rfl, [], .refl _, .nil, e1.symm⟩, Good.refl hr, .tup [] #[] Zb Zb⟩
  have hn : 0 < n := Za
  cases h0 with
  | slNil => omega
  | slD _ _ _ _ _ hd => rw [hHo] at hd; cases hd
  | slS _ _ _ _ _ S ys hd hlt => rw [hHo] at hd; simp at hd; obtain ⟨_, rfl⟩ := hd; simp at hlt; omega
  | slC _ _ _ _ _ _ hd => rw [hHo] at hd; cases hd
  | sl _ _ _ _ b S cap t ys c hι hH ht2 hw hcap hl hle hm =>
  rw [hHo] at hH;simp at hH;obtain ⟨rfl, rfl⟩ := hH;rcases hr.elm o k (xs.map f) hHo with ⟨e1, _⟩ | ⟨b2, c2, t2, cap2, e1, e2, e3, e4, e5, e6, e7⟩
  · rw [hι] at e1; cases e1
  rw [hι] at e1;simp at e1; subst e1;rw [hw] at e2;simp at e2;obtain ⟨rfl, rfl⟩ := e2;have hbs : b < w.heap.size := (hr.avo o b hι).2;have hbF : ¬ F b := (hr.avo o b hι).1
  -- an index, made one that there is
  let ix : Nat -> Nat := fun i => if i < n then i else 0
  have hix : ∀ i, ix i < n := fun i => by simp only [ix]; split <;> omega
  have hixe : ∀ i, i < n -> ix i = i := fun i hi => by simp only [ix]; rw [if_pos hi]
  let enc : Nat -> List Value := fun i => Rw c k (ix i)
  have hk : ∀ x, (enc x).length = k := fun x => GF _ _ _
  -- one cell of an element
  have cell : ∀ i, i < n -> ∃ cs, f (nth xs i) = .agg cs /\ cs.length = k /\ ∀ (j : Nat) (y : PV), cs[j]? = some y -> y.one = true /\ RP (Own F ι) w y (c.getD (i * k + j) undef) := fun i hi => by
    obtain ⟨cs, q1, q2, q3⟩ := hf (nth xs i);refine ⟨cs, q1, q2, fun j y hj => ⟨ZD.1 q3 y (XF hj), ?_⟩⟩;refine e7 i (f (nth xs i)) j y ?_ (by rw [q1]; exact hj);rw [Xr, Jg Za, Zi Za]; rfl
  have one : ∀ x, ∀ v ∈ enc x, v.oneCell' = true := fun x v hv => by
    obtain ⟨j, hj, rfl⟩ := ZU.1 hv
    have hjk : j < k := by rw [hk] at hj; exact hj
    obtain ⟨cs, q1, q2, q3⟩ := cell (ix x) (hix x);have hg := q3 j (cs[j]'(Za)) Zb
    have e9 : (enc x)[j] = c.getD (ix x * k + j) undef := by
      have := C7 (c := c) (i := ix x) hjk;rw [List.getElem!_eq_getElem?_getD, Jg (by rw [GF]; exact hjk)] at this;exact this
    rw [e9];exact hg.2.oneCell hg.1
  let d : Array Nat := Array.range n
  have hd : d.size = n := by simp [d]
  let cf' : Nat -> Nat -> Int := fun i j => cf (nth xs (ix i)) (nth xs (ix j))
  have hO' : SWO (ltOf cf') := ⟨fun x => hO.irrefl _, fun x y z h1 h2 => hO.trans _ _ _ h1 h2, fun x y z h1 h2 => hO.ntrans _ _ _ h1 h2⟩
  have hsz : n * k <= c.size := by
    rw [e3]; exact Yv k (by simpa [hL] using e4)
  have hcell : ∀ j, j < c.size -> w.cell? ⟨b, j, none⟩ = some (c.getD j undef) := fun j hj => by
    simp [World.cell?, hw, hj]
  have hHolds : HoldsK enc k w b (0 * k) d := fun j hj => by
    have hj2 : j < n * k := by simpa [hd] using hj
    have k0 : 0 < k := by rcases Nat.eq_zero_or_pos k with h | h; · subst h; simp at hj2
                          · exact h
    rw [get_flatK enc k d j (by rw [hd]; exact hj2)];have hdj : j / k < n := Nat.div_lt_of_lt_mul (by rw [AT]; exact hj2)
    have hde : d[j / k]! = j / k := by simp [d, hdj]
    rw [hde]
    have e9 : (enc (j / k))[j % k]! = c.getD j undef := by
      show (Rw c k (ix (j / k)))[j % k]! = _
      rw [hixe _ hdj, C7 (Nat.mod_lt _ k0), Nat.div_add_mod']
    rw [e9, Nat.zero_mul, Xs];exact ⟨hcell j Za, by simp [World.frozen?, hw]⟩
  have hcmp' : CmpLays P g #[] enc k cf' b (0 * k) d.size w := fun m os dk hdk x y => by
    generalize hW : sortWorldK enc k w b (0 * k) m dk os = W
    have hKeep : Keeps (Own F ι) w Bf W := fun b' hb' hs' => by
      have hne : b' ≠ b := fun e => hb' (.inr (e ▸ XF hι));refine ⟨fun h => h, ?_, ?_⟩
      · rw [<- hW]; simp [sortWorldK, grow, putRowK, putRow, mapBlock, ahead]; omega
      · rw [<- hW]
        simp only [sortWorldK, grow, putRowK, putRow, mapBlock, ahead];rw [DO (by simpa using hs'), E1, if_neg (fun e => hne e.symm)]
        rfl
    have heW : Env Bf [] W := (hr.env.of (w' := W) (ι' := ι) (by rw [<- hW]; simp [sortWorldK, grow, putRowK, putRow, mapBlock, ahead]) (fun b' hb' hni => by
      have hne : b' ≠ b := fun e => hni (e ▸ XF hι);rw [<- hW];simp only [sortWorldK, grow, putRowK, putRow, mapBlock, ahead];rw [DO (by simpa using hb'), E1, if_neg (fun e => hne e.symm)]
      rfl) (fun _ _ h => h)).noth
    have arg : ∀ i, RV Bf [] [] W (.p (f (nth xs (ix i)))) (.agg (enc i).toArray) := fun i => by
      obtain ⟨cs, q1, q2, q3⟩ := cell (ix i) (hix i);refine .p _ _ ?_;rw [q1]
      refine (RP.agg cs (enc i).toArray (by simp [hk, q2]) fun j y hj => ?_ : RP Bf W _ _).weaker fun b hb => by
        rcases hb with hb | hb
        · exact hb
        · simp at hb
      have hjk : j < k := by rw [<- q2]; exact (ZY.1 hj).1
      have e9 : (enc i).toArray.getD j undef = c.getD (ix i * k + j) undef := by
        have := C7 (c := c) (i := ix i) hjk;rw [List.getElem!_eq_getElem?_getD, Jg (by rw [GF]; exact hjk)] at this;simp only [XM, CH];rw [Jg (by rw [hk]; exact hjk), Kf];rw [Kf] at this;simpa only [XM] using this
      rw [e9];exact (q3 j y hj).2.ext hKeep
    refine ((hcmp (nth xs (ix x)) (nth xs (ix y))).2 Bf [] W _ (GJ heW) ⟨rfl, fun j q hj => ?_⟩).mono ?_
    · cases j with
      | zero => simp at hj; subst hj; exact arg x
      | succ j => cases j with
        | zero => simp at hj; subst hj; exact arg y
        | succ j => simp at hj
    · rintro e' w' ⟨x', H', ι', v, rfl, ⟨rfl, rfl⟩, gd, rv⟩
      cases rv with | p _ _ rp =>
      rw [rp.int_inv];exact ⟨rfl, kQ gd⟩
  have eg := (hcmp default default).1;have main := AnyQ.slices_SortFunc L k aE zE enc hk one cf' hO' g #[] b (0 * k) cap d w (fun args w => eg args w) hcmp' hHolds hbs (by rw [hd]; exact hlen);rw [hd] at main;refine main.mono ?_;rintro e' w' ⟨rfl, d', m, os, hp, hso, rfl⟩;obtain ⟨p1, _, p3⟩ := hp;rw [hd] at p1
  have hperm : d'.toList.Perm (List.range n) := by
    have e8 : (d'.extract 0 n).toList = d'.toList := by rw [<- p1]; simp
    have e9 : (d.extract 0 n).toList = List.range n := by
      have : d.extract 0 n = d := by rw [<- hd]; simp
      rw [this]; simp [d]
    rw [e8, e9] at p3; exact p3
  have hlt : ∀ i ∈ d'.toList, i < n := fun i hi => by simpa using hperm.mem_iff.1 hi
  have hlt2 : ∀ i, i < n -> d'.toList[i]?.isSome = true := fun i hi => by simp [p1, hi]
  have hget : ∀ i (hi : i < n), d'[i]! = d'.toList[i]'(by simp [p1, hi]) := fun i hi => by
    rw [getElem!_pos d' i Za]; simp
  let ys : List β := d'.toList.map (nth xs)
  have hyl : ys.length = n := by simp [ys, p1]
  have hys : ∀ i (hi : i < n), ys[i]'(Za) = nth xs d'[i]! := fun i hi => by
    simp only [ys, CK]; rw [hget i hi]
  have hdl : ∀ i, i < n -> d'[i]! < n := fun i hi => by rw [hget i hi]; exact hlt _ (Ke _)
  have yperm : ys.Perm xs := by
    have h9 : (List.range n).map (nth xs) = xs := by
      refine Uc (by simp [hL]) fun i h1 h2 => ?_;simp only [CK, List.getElem_range];rw [Zi h2]
    have := hperm.map (nth xs);rw [h9] at this; exact this
  have ysort : ys.Pairwise fun a b => ¬ cf b a < 0 := by
    rw [KX];intro i j hi hj hij;rw [hys i Za, hys j Za];have h9 := hso i j (Kj _) hij Za;simp only [ltOf, cf', Ya] at h9;rwa [hixe _ (hdl j Za), hixe _ (hdl i Za)] at h9
  let c' : Array Value := putCells id (0 * k) (flatK enc k d') c
  have hcs : c'.size = c.size := by simp [c', putCells]
  have hat : (sortWorldK enc k w b (0 * k) m d' os).heap[b]? = some (.cells c' t (0, 0)) := by
    simp only [sortWorldK, grow, putRowK, putRow, mapBlock, ahead];rw [DO (by simpa using hbs), E1, if_pos rfl]
    show Option.map _ w.heap[b]? = _
    rw [hw]; rfl
  have hoth : ∀ q, q < w.heap.size -> q ≠ b -> (sortWorldK enc k w b (0 * k) m d' os).heap[q]? = w.heap[q]? := fun q hq hne => by
    simp only [sortWorldK, grow, putRowK, putRow, mapBlock, ahead];rw [DO (by simpa using hq), E1, if_neg (fun e => hne e.symm)]
    rfl
  have hc' : ∀ i j, i < n -> j < k -> c'.getD (i * k + j) undef = c.getD (d'[i]! * k + j) undef := fun i j hi hj => by
    have hb1 : i * k + j < n * k := by
      have := Yv k (show i + 1 <= n from hi);rw [XO, W1] at this; omega
    have e8 : (flatK enc k d')[i * k + j]! = c.getD (d'[i]! * k + j) undef := by
      rw [get_flatK enc k d' _ (by rw [p1]; exact hb1)]
      have q1 : (i * k + j) / k = i := by rw [AT, Nat.mul_add_div Za, QP hj]; omega
      have q2 : (i * k + j) % k = j := by rw [AT, Nat.mul_add_mod, CL hj]
      rw [q1, q2]
      show (Rw c k (ix d'[i]!))[j]! = _
      rw [C7 hj, hixe _ (hdl i hi)]
    have e9 : c'[i * k + j]? = some ((flatK enc k d')[i * k + j]!) := by
      simp only [c', putCells, Array.getElem?_mapIdx];rw [Array.getElem?_eq_getElem Za];simp only [AN, Nat.zero_mul, Kj, true_and, Xs, size_flatK, p1, hb1, if_true, Nat.sub_zero, id]
    rw [XM, e9, Kf, e8]
  have good := YR (w' := sortWorldK enc k w b (0 * k) m d' os) (c := c') (t := t) (xs' := ys.map f) (cap := cap2) (b' := b) hr (o := o) (S := k) (xs := xs.map f) hHo rfl (Tp.of rfl (by simp [sortWorldK, grow, putRowK, putRow, mapBlock, ahead])) rfl
    (fun c0 t0 h => by rw [hw] at h; simp at h; obtain ⟨rfl, rfl⟩ := h; exact ⟨rfl, hcs⟩) (by simp [sortWorldK, grow, putRowK, putRow, mapBlock, ahead]) hat hoth (.inl ⟨hι, .inl ⟨by simp [hyl, hL], fun c0 t0 h => by rw [hw] at h; simp at h; obtain ⟨rfl, rfl⟩ := h; exact ⟨rfl, hcs⟩⟩⟩)
    (by rw [hcs]; exact e3) (by simp only [ZB, hyl]; simpa [hL] using e4) e5
    (fun i x hi => by
      rw [Xr, ZZ] at hi;obtain ⟨y, _, rfl⟩ := hi;obtain ⟨cs, q1, q2, _⟩ := hf y
      rw [q1]; exact q2)
    (fun i x j y hi hj => by
      rw [Xr, ZZ] at hi;obtain ⟨z, hz, rfl⟩ := hi
      have hin : i < n := by have := (ZY.1 hz).1; omega
      have e8 : z = nth xs d'[i]! := by
        obtain ⟨h9, h10⟩ := ZY.1 hz;rw [<- h10]; exact hys i hin
      obtain ⟨cs, q1, q2, q3⟩ := cell _ (hdl i hin);rw [e8, q1] at hj
      have hjk : j < k := by rw [<- q2]; exact (ZY.1 hj).1
      rw [hc' i j hin hjk]
      exact (q3 j y hj).2)
  have ZP : ι.set o (some b) = ι := by
    refine Kc fun i => ?_;rw [Jh]
    split
    · rename_i e; subst e
      have := (ZY.1 hι).1;rw [if_pos this, hι]
    · rfl
  rw [ZP] at good;exact ⟨.tup [], _, ι, .tuple #[], rfl, ⟨rfl, ys, yperm, ysort, rfl⟩, good, .tup [] #[] rfl (fun j c hj => by simp at hj)⟩
end Go.AM
namespace Go.Proofs.YtjkkdmeebhjaiaaGreatDoor.K
open Go Go.AM Go.Proofs
set_option maxRecDepth 8000
set_option maxHeartbeats 8000000
deriving instance DecidableEq for Itm
theorem XL {v w:Itm} :v=w↔v.kind=w.kind/\v.a=w.a:=by cases v;cases w;simp
def FQ (a b:Itm):Int:=if W0 a.kind b.kind=0 then W0 a.a b.a else W0 a.kind b.kind
theorem Nf (a b:Itm):PC 62 [.p (Xn a),.p (Xn b)] (.int .i64 (FQ a b)):=by
 refine Zc Tryz.func62 rfl ZjJ ?_;simp (disch:=omega) only [Tryz.f62,go_sem,seval];refine Xj ?_;simp (disch:=omega) only [go_sem,seval];refine Zo (En a.kind b.kind) ?_;simp (disch:=omega) only [go_sem,seval];refine Zo (En a.a b.a) ?_;simp (disch:=omega) only [go_sem,seval];refine Zo (uJ [W0 a.kind b.kind,W0 a.a b.a] false Zb) ?_;simp (disch:=omega) only [go_sem,seval];rw [Fg,FQ]
def L8 (x:Inst) (o:Int):Bool:=decide (o<0)||decide ((x.orders.length:Int)<=o)||(nth x.orders o.toNat).off
theorem L7 (x:Inst) (o:Int) (hl:x.orders.length<=1048576):PC 60 [.p (Zs x),.p (.int .i64 o)] (.bool (L8 x o)):=by
 refine Zc Tryz.func60 rfl ZjH ?_;simp (disch:=omega) only [Tryz.f60,go_sem,seval];refine gF ?_ ?_<;>intro h<;>simp (disch:=omega) only [Sh.out h,go_sem,seval]
 ·simp [L8,h]
 ·refine gF ?_ ?_<;>intro h2<;>simp (disch:=omega) only [Sh.out h2,go_sem,seval]
  ·simp [L8,h2]
  ·simp [L8,h,h2]
def lK (x:Inst) (i:Nat):List Itm:=if (nth x.orders i).off=true then [] else
 (if (nth x.orders i).pick.place≠ -1 then [⟨1,i⟩] else [])++(if (nth x.orders i).drp.place≠ -1 then [⟨2,i⟩] else [])++(if (nth x.orders i).skills≠0 then [⟨4,i⟩] else [])++(if (nth x.orders i).penalty= -1 then [⟨10,i⟩] else [])
def DJ (x:Inst) (k:Nat):List Itm:=(List.range k).flatMap (lK x)
theorem H7 (x k):DJ x (k+1)=DJ x k++lK x k:=by simp [DJ,Yh]
theorem tK (x i):(lK x i).length<=4:=by
 unfold lK
 split
 ·simp
 ·simp only [ZA]
  split<;>split<;>split<;>split<;>simp
theorem Cx (x): ∀k,(DJ x k).length<=4*k
 | 0=>by simp [DJ]
 | k+1=>by
  have h1:=Cx x k;have h2:=tK x k;rw [H7,ZA];omega
def hO (x:Inst) (m:List Itm) (i:Nat):List AM.Obj:= [Zf x,.cells [.sl 2 0 m.length m.length],.elems 2 (m.map Xn),.cells [.p (.int .i64 (i:Nat))]]
theorem EL (x:Inst) (m:List Itm) (i:Nat) (has:Bool) (kind:Int) (hm:m.length<=1048576):ACalls Tryz.prog 88 [.p (.bool has),.p (.int .i64 kind),.ptr 1 0,.ptr 3 0] (hO x m i) fun y H'=>y= .tup []/\H'=hO x (if has=true then m++ [⟨kind,i⟩] else m) i:=by
 refine Ze [] Tryz.func88 rfl Zj6 ?_
 cases has with
 | true =>
  simp (disch:=omega) only [Tryz.f88,hO,Zf,go_sem,seval];exact ⟨.tup [],hO x (m++ [⟨kind,i⟩]) i,Weak.mk (by simp (disch:=omega) only [hO,Zf,go_sem,seval]),rfl,by simp [hO,Zf,Xn]⟩
 | false =>
  simp (disch:=omega) only [Tryz.f88,hO,Zf,go_sem,seval];exact ⟨.tup [],hO x m i,Weak.mk (by simp (disch:=omega) only [hO,Zf,go_sem,seval]),rfl,by simp [hO,Zf]⟩
theorem L6 (x:Inst) (hl:x.orders.length<=1000):ACalls Tryz.prog 59 [.p (Zs x)] [] fun y H'=> ∃m:List Itm,m=DJ x x.orders.length/\y= .sl 0 0 m.length m.length/\H'= [.elems 2 (m.map Xn)]:=by
 refine ZI [2] Tryz.func59 rfl ZjG ?_;simp (disch:=omega) only [Tryz.f59,go_sem,seval];refine Zp (Weak.nilC (o:=1) (j:=0) 2 rfl rfl Zb) ?_;refine Zh [] _ _ _ _ ?_;simp (disch:=omega) only [ZQ,ZG,ZR,ZH,go_sem,seval];refine Zl [3,8,9] (fun q:Nat×List Itm=> [(10,.p (.int .i64 q.1))]) (fun q=> [Zf x,.cells [.sl 2 0 q.2.length q.2.length],.elems 2 (q.2.map Xn)]) (fun q=>q.1<=x.orders.length/\q.2=DJ x q.1) (fun q=>x.orders.length-q.1) (0,[]) ⟨Zb,by simp [DJ]⟩ (Weak.mk ?_) ?_
 ·simp (disch:=omega) only [Zf,go_sem,seval]
 ·rintro ⟨i,m⟩ ⟨hi,hm⟩;simp only at hi hm
  have hml:m.length<=4*i:=by rw [hm];exact Cx x i
  have hsc:=H7 x i;simp (disch:=omega) only [Zf,go_sem,seval];refine cD ?_ ?_<;>intro h<;>simp (disch:=omega) only [Sh.out h,go_sem,seval]
  ·have hi2:i<x.orders.length:=Za
   refine cD ?_ ?_<;>intro h2<;>simp (disch:=omega) only [Sh.out h2,go_sem,seval]
   ·exact ⟨(i+1,m),⟨by simp only;omega,by simp only [hsc,lK,h2,if_true,hm,Yp]⟩,by simp only;omega,Weak.mk (by simp (disch:=omega) only [Zf,go_sem,seval])⟩
   ·have c1:=EL x m i (decide ((nth x.orders i).pick.place≠ -1)) 1 Za
    have ifl: ∀ {c:Prop} [Decidable c] (m:List Itm) (v:Itm),(if decide c=true then m++ [v] else m)=m++(if c then [v] else []):=fun {c} _ m v=>by by_cases h:c<;>simp [h]
    have ifn: ∀ {c:Prop} [Decidable c] (v:Itm),(if c then [v] else []).length<=1:=fun {c} _ v=>by split<;>simp
    rw [ifl] at c1;refine c1.useP (L:= [_]) (by rfl) ?_ (by rfl) (by rfl);have n1:=ifn (c:=(nth x.orders i).pick.place≠ -1) ⟨1,i⟩;have n2:=ifn (c:=(nth x.orders i).drp.place≠ -1) ⟨2,i⟩;have n3:=ifn (c:=(nth x.orders i).skills≠0) ⟨4,i⟩;have n4:=ifn (c:=(nth x.orders i).penalty= -1) ⟨10,i⟩
    have hit:lK x i=(if (nth x.orders i).pick.place≠ -1 then [⟨1,i⟩] else [])++(if (nth x.orders i).drp.place≠ -1 then [⟨2,i⟩] else [])++(if (nth x.orders i).skills≠0 then [⟨4,i⟩] else [])++(if (nth x.orders i).penalty= -1 then [⟨10,i⟩] else []):=by rw [lK,if_neg (by rw [h2];simp)]
    generalize hA:(if (nth x.orders i).pick.place≠ -1 then [(⟨1,i⟩:Itm)] else [])=A at hit n1 c1 ⊢;have c2:=EL x (m++A) i (decide ((nth x.orders i).drp.place≠ -1)) 2 (by simp;omega);rw [ifl] at c2;generalize (if (nth x.orders i).drp.place≠ -1 then [(⟨2,i⟩:Itm)] else [])=B at hit n2 c2;have c3:=EL x (m++A++B) i (decide ((nth x.orders i).skills≠0)) 4 (by simp;omega);rw [ifl] at c3;generalize (if (nth x.orders i).skills≠0 then [(⟨4,i⟩:Itm)] else [])=C at hit n3 c3;have c4:=EL x (m++A++B++C) i (decide ((nth x.orders i).penalty= -1)) 10 (by simp;omega)
    rw [ifl] at c4;generalize (if (nth x.orders i).penalty= -1 then [(⟨10,i⟩:Itm)] else [])=D at hit n4 c4;generalize hm1:m++A=m1 at c2 c3 c4 ⊢;generalize hm2:m1++B=m2 at c2 c3 c4 ⊢;generalize hm3:m2++C=m3 at c3 c4 ⊢;generalize hm4:m3++D=m4 at c4;simp (disch:=omega) only [hO,Zf,YO,go_sem,seval];refine c2.useP (L:= [_]) (by rfl) ?_ (by rfl) (by rfl);simp (disch:=omega) only [hO,Zf,YO,go_sem,seval];refine c3.useP (L:= [_]) (by rfl) ?_ (by rfl) (by rfl);simp (disch:=omega) only [hO,Zf,YO,go_sem,seval];refine c4.useP (L:= [_]) (by rfl) ?_ (by rfl) (by rfl)
    simp (disch:=omega) only [hO,Zf,YO,go_sem,seval];refine ⟨(i+1,m4),⟨by simp only;omega,?_⟩,by simp only;omega,Weak.mk (by simp (disch:=omega) only [hO,Zf,YO,go_sem,seval])⟩;simp only [hsc,hit,<- hm4,<- hm3,<- hm2,<- hm1,hm,Vq]
  ·have hin:i=x.orders.length:=Za
   subst hin;exact ⟨m,hm,2,by simp (disch:=omega) only [Zf,go_sem,seval]⟩
def lL (k:Nat):List Itm:=(List.range k).flatMap fun (i:Nat)=> [⟨3,i⟩,⟨7,i⟩,⟨8,i⟩,⟨9,i⟩]
def Hv (x:Inst) (i:Nat):List Itm:=if (!L8 x (nth x.apart i).1&& !L8 x (nth x.apart i).2)=true then [⟨5,i⟩] else []
def lI (x:Inst) (k:Nat):List Itm:=(List.range k).flatMap (Hv x)
def LK (x:Inst) (i:Nat):List Itm:=if (!L8 x (nth x.before i).2)=true then [⟨6,i⟩] else []
def lJ (x:Inst) (k:Nat):List Itm:=(List.range k).flatMap (LK x)
def Hw (x:Inst):List Itm:=DJ x x.orders.length++lL x.types.length++lI x x.apart.length++lJ x x.before.length
theorem NI (k):lL (k+1)=lL k++ [⟨3,k⟩,⟨7,k⟩,⟨8,k⟩,⟨9,k⟩]:=by simp [lL,Yh]
theorem Cw (x k):lI x (k+1)=lI x k++Hv x k:=by simp [lI,Yh]
theorem Gb (x k):lJ x (k+1)=lJ x k++LK x k:=by simp [lJ,Yh]
theorem ER : ∀k,(lL k).length=4*k
 | 0=>by simp [lL]
 | k+1=>by rw [NI,ZA,ER k];simp;omega
theorem LJ (x): ∀k,(lI x k).length<=k
 | 0=>by simp [lI]
 | k+1=>by
  have h1:=LJ x k
  have h2:(Hv x k).length<=1:=by unfold Hv;split<;>simp
  rw [Cw,ZA];omega
theorem LL (x): ∀k,(lJ x k).length<=k
 | 0=>by simp [lJ]
 | k+1=>by
  have h1:=LL x k
  have h2:(LK x k).length<=1:=by unfold LK;split<;>simp
  rw [Gb,ZA];omega
theorem UZ {a b:Itm} :FQ a b<0↔a.kind<b.kind\/(a.kind=b.kind/\a.a<b.a):=by
 unfold FQ
 split
 ·rename_i h;rw [DC] at h;rw [So];omega
 ·rename_i h;rw [DC] at h;rw [So];omega
theorem jC : Go.Sort.SWO (ltOf FQ) where
 irrefl x:=by simp only [ltOf,Ya,UZ];omega
 trans x y z h1 h2:=by simp only [ltOf,Zq,UZ] at *;omega
 ntrans x y z h1 h2:=by simp only [ltOf,Ya,UZ] at *;omega
theorem OL (xs:List Itm) (hne:xs≠ []) (hl:xs.length<=1048576) {H:List AM.Obj} {o:Nat} (hH:H[o]? =some (.elems 2 (xs.map Xn))) :
  ACalls Tryz.prog 61 [.sl o 0 xs.length xs.length,.fn (.func 62) [] []] H fun y H'=>y= .tup []/\ ∃ys:List Itm,ys.Perm xs/\ys.Pairwise (fun a b=> ¬FQ b a<0)/\H'=H.set o (.elems 2 (ys.map Xn)) :=
 ACalls.sortFunc eK ZjI 2 Tryz.isAgg41 Tryz.sizeOf41 Xn (fun x=>⟨_,rfl,rfl,rfl⟩) FQ jC 62 Nf xs Za hH
theorem bR (x:Inst) (ho:x.orders.length<=1000) (ht:0<x.types.length/\x.types.length<=1000) (ha:x.apart.length<=1000) (hb:x.before.length<=1000):ACalls Tryz.prog 31 [.p (Zs x)] [] fun y H'=> ∃m:List Itm,(m.Perm (Hw x)/\m.Pairwise (fun a b=> ¬FQ b a<0))/\y= .sl 0 0 m.length m.length/\H'= [.elems 2 (m.map Xn)]:=by
 refine ZI [] Tryz.func31 rfl Zji ?_;simp (disch:=omega) only [Tryz.f31,go_sem,seval];obtain ⟨os,hos⟩: ∃os,os=DJ x x.orders.length:=⟨_,rfl⟩;have hosl:=Cx x x.orders.length;rw [<- hos] at hosl;refine ACalls.useF (S:=2) (n:=os.length) (xs:=os.map Xn) ((L6 x ho).mono fun y H' ⟨m,hm,h1,h2⟩=>by rw [hos,<- hm];exact ⟨h1,h2⟩) ?_;simp (disch:=omega) only [go_sem,seval];obtain ⟨ks,hks⟩: ∃ks:List Int,ks= [3,7,8,9]:=⟨_,rfl⟩
 have hkl:ks.length=4:=by rw [hks];rfl
 have hke:(ks.map eI).length=ks.length:=Zb
 refine Zl [1,15] (fun q:Nat×List Itm=> [(3,.sl 1 0 q.2.length q.2.length),(16,.p (.int .i64 q.1))]) (fun q=> [Zf x,.elems 2 (q.2.map Xn)]) (fun q=>q.1<=x.types.length/\q.2=os++lL q.1) (fun q=>x.types.length-q.1) (0,os) ⟨Zb,by simp [lL]⟩ (Weak.mk ?_) ?_
 ·simp (disch:=omega) only [Zf,go_sem,seval]
 ·rintro ⟨i,m⟩ ⟨hi,hm⟩;simp only at hi hm
  have hml:m.length=os.length+4*i:=by rw [hm,ZA,ER]
  simp (disch:=omega) only [Zf,go_sem,seval];refine cD ?_ ?_<;>intro h<;>simp (disch:=omega) only [Sh.out h,go_sem,seval]
  ·have hi2:i<x.types.length:=Za
   refine Zl [1,4,15,16,20] (fun q:Nat×List Itm=> [(3,.sl 1 0 q.2.length q.2.length),(19,.sl 2 0 ks.length ks.length),(21,.p (.int .i64 q.1))]) (fun q=> [Zf x,.elems 2 (q.2.map Xn),.elems 1 (ks.map eI)]) (fun q=>q.1<=4/\q.2=m++(ks.take q.1).map fun c=>(⟨c,i⟩:Itm)) (fun q=>4-q.1) (0,m) ⟨Zb,Zb⟩ (Weak.mk ?_) ?_
   ·rw [hks];simp (disch:=omega) only [Zf,Zt,Zk,ZE,ZJ,go_sem,seval]
   ·rintro ⟨k,m2⟩ ⟨hk,hm2⟩;simp only at hk hm2
    have hm2l:m2.length=m.length+k:=by rw [hm2];simp;omega
    simp (disch:=omega) only [Zf,go_sem,seval];refine cD ?_ ?_<;>intro h2<;>simp (disch:=omega) only [Sh.out h2,VJ,go_sem,seval]
    ·have hk2:k<ks.length:=Za
     have htk:ks.take (k+1)=ks.take k++ [nth ks k]:=by rw [X3 hk2,Zi hk2]
     simp (disch:=omega) only [hk2,go_sem,seval];exact ⟨(k+1,m2++ [⟨nth ks k,i⟩]),⟨by simp only;omega,by simp only [htk,hm2,Xy,Vq];rfl⟩,by simp only;omega,Weak.mk (by simp (disch:=omega) only [Zf,go_sem,seval])⟩
    ·have hk4:k=4:=Za
     subst hk4;refine ⟨(i+1,m2),⟨by simp only;omega,?_⟩,by simp only;omega,Weak.mk (by simp (disch:=omega) only [Zf,go_sem,seval])⟩;simp only [NI,hm2,hm,Vq];rw [hks];rfl
  ·have hin:i=x.types.length:=Za
   subst hin;clear hi h;refine Zl [1,34,35] (fun q:Nat×List Itm=> [(3,.sl 1 0 q.2.length q.2.length),(36,.p (.int .i64 q.1))]) (fun q=> [Zf x,.elems 2 (q.2.map Xn)]) (fun q=>q.1<=x.apart.length/\q.2=m++lI x q.1) (fun q=>x.apart.length-q.1) (0,m) ⟨Zb,by simp [lI]⟩ (Weak.mk ?_) ?_
   ·simp (disch:=omega) only [Zf,go_sem,seval]
   ·rintro ⟨i,m2⟩ ⟨hi,hm2⟩;simp only at hi hm2
    have hm2l:m2.length<=m.length+i:=by have:=LJ x i;rw [hm2,ZA];omega
    simp (disch:=omega) only [Zf,go_sem,seval];refine cD ?_ ?_<;>intro h<;>simp (disch:=omega) only [Sh.out h,go_sem,seval]
    ·have hi2:i<x.apart.length:=Za
     refine (L7 x (nth x.apart i).1 Za).use ?_;simp (disch:=omega) only [go_sem,seval];refine gT ?_ ?_<;>intro h2<;>simp (disch:=omega) only [Sh.out h2,go_sem,seval]
     ·refine (L7 x (nth x.apart i).2 Za).use ?_;simp (disch:=omega) only [go_sem,seval];refine cD ?_ ?_<;>intro h3<;>simp (disch:=omega) only [Sh.out h3,go_sem,seval]
      ·exact ⟨(i+1,m2++ [⟨5,i⟩]),⟨by simp only;omega,by simp only [Cw,Hv,h2,h3,Bool.and_self,if_true,hm2,Vq]⟩,by simp only;omega,Weak.mk (by simp (disch:=omega) only [Zf,go_sem,seval])⟩
      ·exact ⟨(i+1,m2),⟨by simp only;omega,by simp [Cw,Hv,h2,h3,hm2]⟩,by simp only;omega,Weak.mk (by simp (disch:=omega) only [Zf,go_sem,seval])⟩
     ·exact ⟨(i+1,m2),⟨by simp only;omega,by simp [Cw,Hv,h2,hm2]⟩,by simp only;omega,Weak.mk (by simp (disch:=omega) only [Zf,go_sem,seval])⟩
    ·have hin:i=x.apart.length:=Za
     subst hin;clear hi h;refine Zl [1,60,61] (fun q:Nat×List Itm=> [(3,.sl 1 0 q.2.length q.2.length),(62,.p (.int .i64 q.1))]) (fun q=> [Zf x,.elems 2 (q.2.map Xn)]) (fun q=>q.1<=x.before.length/\q.2=m2++lJ x q.1) (fun q=>x.before.length-q.1) (0,m2) ⟨Zb,by simp [lJ]⟩ (Weak.mk ?_) ?_
     ·simp (disch:=omega) only [Zf,go_sem,seval]
     ·rintro ⟨i,m3⟩ ⟨hi,hm3⟩;simp only at hi hm3
      have hm3l:m3.length<=m2.length+i:=by have:=LL x i;rw [hm3,ZA];omega
      simp (disch:=omega) only [Zf,go_sem,seval];refine cD ?_ ?_<;>intro h<;>simp (disch:=omega) only [Sh.out h,go_sem,seval]
      ·have hi2:i<x.before.length:=Za
       refine (L7 x (nth x.before i).2 Za).use ?_;simp (disch:=omega) only [go_sem,seval];refine cD ?_ ?_<;>intro h2<;>simp (disch:=omega) only [Sh.out h2,go_sem,seval]
       ·exact ⟨(i+1,m3++ [⟨6,i⟩]),⟨by simp only;omega,by simp only [Gb,LK,h2,if_true,hm3,Vq]⟩,by simp only;omega,Weak.mk (by simp (disch:=omega) only [Zf,go_sem,seval])⟩
       ·exact ⟨(i+1,m3),⟨by simp only;omega,by simp [Gb,LK,h2,hm3]⟩,by simp only;omega,Weak.mk (by simp (disch:=omega) only [Zf,go_sem,seval])⟩
      ·have hin:i=x.before.length:=Za
       subst hin
       have hpre:m3=Hw x:=by rw [hm3,hm2,hm,hos];rfl
       have hne:m3≠ []:=fun e=>by have:=ZS List.length hpre;rw [e] at this;simp [Hw,ER] at this;omega
       refine (OL m3 hne Za (H:=_) (o:=1) rfl).mono ?_;rintro y H' ⟨rfl,ys,h1,h2,rfl⟩;have hyl:ys.length=m3.length:=h1.length_eq;simp (disch:=omega) only [ZQ,ZG,go_sem,seval];rw [<- hyl];exact ⟨ys,⟨by rw [<- hpre];exact h1,h2⟩,1,by simp (disch:=omega) only [go_sem,seval]⟩
def Vl (x:Inst) (i:Int):Bool:=decide (0<=i)&&decide (i<(x.orders.length:Int))&& !(nth x.orders i.toNat).off
theorem N3 {x o} :L8 x o= !Vl x o:=by
 unfold L8 Vl
 by_cases h1:o<0
 ·have: ¬ 0<=o:=Za
  simp [h1,this]
 ·by_cases h2:(x.orders.length:Int)<=o
  ·have: ¬o<(x.orders.length:Int):=Za
   simp [h2,this]
  ·have h3:0<=o:=Za
   have h4:o<(x.orders.length:Int):=Za
   simp [h1,h2,h3,h4]
def K7 (o:Ord) (kind:Int):Bool:=if kind=1 then decide (0<=o.pick.place) else if kind=2 then decide (0<=o.drp.place) else if kind=4 then decide (o.skills≠0) else decide (o.penalty= -1)
def XI (x:Inst) (v:Itm):Bool :=
 if v.kind=1\/v.kind=2\/v.kind=4\/v.kind=10 then Vl x v.a&&K7 (nth x.orders v.a.toNat) v.kind
 else if v.kind=3\/v.kind=7\/v.kind=8\/v.kind=9 then decide (0<=v.a)&&decide (v.a<(x.types.length:Int))
 else if v.kind=5 then decide (0<=v.a)&&decide (v.a<(x.apart.length:Int))&&Vl x (nth x.apart v.a.toNat).1&&Vl x (nth x.apart v.a.toNat).2
 else if v.kind=6 then decide (0<=v.a)&&decide (v.a<(x.before.length:Int))&&Vl x (nth x.before v.a.toNat).2
 else false
theorem S9 {x i} {v:Itm} :v∈lK x i↔(nth x.orders i).off=false/\v.a=(i:Int)/\((v.kind=1/\(nth x.orders i).pick.place≠ -1)\/(v.kind=2/\(nth x.orders i).drp.place≠ -1)\/(v.kind=4/\(nth x.orders i).skills≠0)\/(v.kind=10/\(nth x.orders i).penalty= -1)):=by
 have one: ∀(c:Prop) [Decidable c] (w:Itm),v∈(if c then [w] else [])↔c/\v.kind=w.kind/\v.a=w.a:=fun c _ w=>by
  split<;>simp_all [XL]
 unfold lK
 split
 ·rename_i h;simp [h]
 ·rename_i h;simp only [Xe,one]
  have h2:(nth x.orders i).off=false:=by simpa using h
  simp only [h2,true_and]
  constructor
  ·rintro (((⟨h1,h2,h3⟩ | ⟨h1,h2,h3⟩) | ⟨h1,h2,h3⟩) | ⟨h1,h2,h3⟩)
   ·exact ⟨h3,.inl ⟨h2,h1⟩⟩
   ·exact ⟨h3,.inr (.inl ⟨h2,h1⟩)⟩
   ·exact ⟨h3,.inr (.inr (.inl ⟨h2,h1⟩))⟩
   ·exact ⟨h3,.inr (.inr (.inr ⟨h2,h1⟩))⟩
  ·rintro ⟨h3,(⟨h2,h1⟩ | ⟨h2,h1⟩ | ⟨h2,h1⟩ | ⟨h2,h1⟩)⟩
   ·exact .inl (.inl (.inl ⟨h1,h2,h3⟩))
   ·exact .inl (.inl (.inr ⟨h1,h2,h3⟩))
   ·exact .inl (.inr ⟨h1,h2,h3⟩)
   ·exact .inr ⟨h1,h2,h3⟩
theorem E9 {n} {v:Itm} :v∈lL n↔(v.kind=3\/v.kind=7\/v.kind=8\/v.kind=9)/\0<=v.a/\v.a<(n:Int):=by
 simp only [lL,X0,ZO,Z7,Vd,Wi,XL]
 constructor
 ·rintro ⟨i,hi,h⟩;rcases h with ⟨h1,h2⟩ | ⟨h1,h2⟩ | ⟨h1,h2⟩ | ⟨h1,h2⟩<;>refine ⟨by simp [h1],Za,Za⟩
 ·rintro ⟨h,h1,h2⟩;refine ⟨v.a.toNat,Za,?_⟩
  have:v.a=(v.a.toNat:Int):=Za
  rcases h with h | h | h | h<;>simp [h,<- this]
theorem LX {x n} {v:Itm} :v∈lI x n↔v.kind=5/\0<=v.a/\v.a<(n:Int)/\Vl x (nth x.apart v.a.toNat).1=true/\Vl x (nth x.apart v.a.toNat).2=true:=by
 simp only [lI,X0,ZO,Hv,N3,Bool.not_not,Zv]
 constructor
 ·rintro ⟨i,hi,h⟩
  split at h
  ·rename_i h3;simp only [Z7,Vd,Wi,XL] at h
   have e:v.a.toNat=i:=Za
   rw [e];exact ⟨h.1,Za,Za,h3⟩
  ·simp at h
 ·rintro ⟨h,h1,h2,h3⟩;refine ⟨v.a.toNat,Za,?_⟩;rw [if_pos h3];simp only [Z7,Vd,Wi,XL];exact ⟨h,Za⟩
theorem S8 {x n} {v:Itm} :v∈lJ x n↔v.kind=6/\0<=v.a/\v.a<(n:Int)/\Vl x (nth x.before v.a.toNat).2=true:=by
 simp only [lJ,X0,ZO,LK,N3,Bool.not_not]
 constructor
 ·rintro ⟨i,hi,h⟩
  split at h
  ·rename_i h3;simp only [Z7,Vd,Wi,XL] at h
   have e:v.a.toNat=i:=Za
   rw [e];exact ⟨h.1,Za,Za,h3⟩
  ·simp at h
 ·rintro ⟨h,h1,h2,h3⟩;refine ⟨v.a.toNat,Za,?_⟩;rw [if_pos h3];simp only [Z7,Vd,Wi,XL];exact ⟨h,Za⟩
theorem CQ {x:Inst} (hp:Plc x) {v:Itm} :v∈DJ x x.orders.length↔(v.kind=1\/v.kind=2\/v.kind=4\/v.kind=10)/\Vl x v.a=true/\K7 (nth x.orders v.a.toNat) v.kind=true:=by
 simp only [DJ,X0,ZO,S9]
 constructor
 ·rintro ⟨i,hi,h0,ha,h⟩
  have e:v.a.toNat=i:=Za
  have hpl:=hp _ (Zu hi);rw [e];refine ⟨?_,by simp only [Vl,e,h0,WS,QR,Zv,Zq];omega,?_⟩
  ·rcases h with h | h | h | h<;>simp [h.1]
  ·rcases h with h | h | h | h<;>simp only [K7,h.1]<;>simp [h.2]<;>omega
 ·rintro ⟨hk,ha,ho⟩;simp only [Vl,Zv,Zq,XN] at ha;refine ⟨v.a.toNat,Za,ha.2,Za,?_⟩;rcases hk with h | h | h | h<;>simp only [K7,h] at ho<;>simp at ho<;>simp [h]<;>first | exact ho | omega
theorem NV {x:Inst} (hp:Plc x) {v:Itm} :v∈Hw x↔XI x v=true:=by
 simp only [Hw,Xe,CQ hp,E9,LX,S8,XI]
 by_cases h1:v.kind=1\/v.kind=2\/v.kind=4\/v.kind=10
 ·rw [if_pos h1]
  have h2: ¬(v.kind=3\/v.kind=7\/v.kind=8\/v.kind=9):=Za
  have h3: ¬v.kind=5:=Za
  have h4: ¬v.kind=6:=Za
  simp [h1,h2,h3,h4]
 ·rw [if_neg h1]
  by_cases h2:v.kind=3\/v.kind=7\/v.kind=8\/v.kind=9
  ·rw [if_pos h2]
   have h3: ¬v.kind=5:=Za
   have h4: ¬v.kind=6:=Za
   simp [h1,h2,h3,h4]
  ·rw [if_neg h2]
   by_cases h3:v.kind=5
   ·rw [if_pos h3];simp [h1,h2,h3,QS]
   ·rw [if_neg h3]
    by_cases h4:v.kind=6
    ·rw [if_pos h4];simp [h1,h2,h3,h4,QS]
    ·simp [h1,h2,h3,h4]
theorem bP (x i):(lK x i).Nodup:=by
 unfold lK
 split
 ·simp
 ·split<;>split<;>split<;>split<;>simp
theorem J5 {f:Nat->List Itm} {n:Nat} (h: ∀i,(f i).Nodup) (ha: ∀i,∀v∈f i,v.a=(i:Int)):((List.range n).flatMap f).Nodup:=by
 rw [List.Nodup,List.pairwise_flatMap];refine ⟨fun i _=>h i,List.Pairwise.imp ?_ (List.nodup_range (n:=n))⟩;intro i j hij v hv w hw e;have h1:=ha i v hv;have h2:=ha j w hw;rw [e] at h1;omega
theorem GC {x:Inst} (hp:Plc x):(Hw x).Nodup:=by
 have n1:(DJ x x.orders.length).Nodup:=J5 (bP x) fun i v hv=>(S9.1 hv).2.1
 have n2:(lL x.types.length).Nodup:=J5 (fun i=>Zb) fun i v hv=>by
  simp only [Z7,Vd,Wi] at hv;rcases hv with rfl | rfl | rfl | rfl<;>rfl
 have n3:(lI x x.apart.length).Nodup:=J5 (fun i=>by unfold Hv;split<;>simp) fun i v hv=>by
  unfold Hv at hv;split at hv
  ·simp at hv;rw [hv]
  ·simp at hv
 have n4:(lJ x x.before.length).Nodup:=J5 (fun i=>by unfold LK;split<;>simp) fun i v hv=>by
  unfold LK at hv;split at hv
  ·simp at hv;rw [hv]
  ·simp at hv
 rw [Hw,CJ,CJ,CJ];refine ⟨⟨⟨n1,n2,fun v hv w hw e=> ?_⟩,n3,fun v hv w hw e=> ?_⟩,n4,fun v hv w hw e=> ?_⟩
 ·subst e;have h1:=(CQ hp).1 hv;have h2:=E9.1 hw;omega
 ·subst e;have h2:=LX.1 hw;rcases Xe.1 hv with hv | hv
  ·have h1:=(CQ hp).1 hv;omega
  ·have h1:=E9.1 hv;omega
 ·subst e;have h2:=S8.1 hw;rcases Xe.1 hv with hv | hv
  ·rcases Xe.1 hv with hv | hv
   ·have h1:=(CQ hp).1 hv;omega
   ·have h1:=E9.1 hv;omega
  ·have h1:=LX.1 hv;omega
def Me (x:Inst) (k:Nat) (a:Nat):List Itm:=if XI x ⟨k+1,a⟩=true then [⟨k+1,a⟩] else []
def D2 (x:Inst) (k n:Nat):List Itm:=(List.range n).flatMap (Me x k)
def JH (x:Inst):Nat:=max (max (max x.orders.length x.types.length) x.apart.length) x.before.length
def YF (x:Inst) (n:Nat):List Itm:=(List.range n).flatMap fun k=>D2 x k (JH x)
theorem IB (x k n):D2 x k (n+1)=D2 x k n++Me x k n:=by simp [D2,Yh]
theorem IA (x n):YF x (n+1)=YF x n++D2 x n (JH x):=by simp [YF,Yh]
theorem CR {x k a} {v:Itm} :v∈Me x k a↔XI x v=true/\v.kind=(k:Int)+1/\v.a=(a:Int):=by
 unfold Me
 constructor
 ·intro h
  split at h
  ·simp at h;subst h;rename_i h2;exact ⟨h2,rfl,rfl⟩
  ·simp at h
 ·rintro ⟨h1,h2,h3⟩;have:v=⟨(k:Int)+1,a⟩:=XL.2 ⟨h2,h3⟩;subst this;rw [if_pos h1];simp
theorem Qs {x:Inst} {v:Itm} :v∈YF x 10↔XI x v=true:=by
 simp only [YF,D2,X0,ZO,CR]
 constructor
 ·rintro ⟨k,_,a,_,h,_⟩;exact h
 ·intro h
  have hk:1<=v.kind/\v.kind<=10/\0<=v.a/\v.a<(JH x:Int):=by
   unfold XI at h;unfold JH
   split at h
   ·simp only [Vl,Zv,Zq] at h;omega
   ·split at h
    ·simp only [Zv,Zq] at h;omega
    ·split at h
     ·simp only [Zv,Zq] at h;omega
     ·split at h
      ·simp only [Zv,Zq] at h;omega
      ·simp at h
  exact ⟨(v.kind-1).toNat,Za,v.a.toNat,Za,h,Za,Za⟩
theorem Ad (x:Inst) (n:Nat):(YF x n).Pairwise fun a b=>FQ a b<0:=by
 rw [YF,List.pairwise_flatMap];refine ⟨fun k _=> ?_,List.Pairwise.imp ?_ (List.pairwise_lt_range (n:=n))⟩
 ·rw [D2,List.pairwise_flatMap];refine ⟨fun a _=>by unfold Me;split<;>simp,List.Pairwise.imp ?_ (List.pairwise_lt_range (n:=_))⟩;intro i j hij v hv w hw;have h1:=CR.1 hv;have h2:=CR.1 hw;rw [UZ];omega
 ·intro i j hij v hv w hw;simp only [D2,X0,CR] at hv hw;obtain ⟨_,_,h1⟩:=hv;obtain ⟨_,_,h2⟩:=hw;rw [UZ];omega
theorem Ew {α:Type} {R:α->α->Prop} (asym: ∀a b,R a b-> ¬R b a): ∀ {l m:List α},l.Pairwise R->m.Pairwise R->(∀v,v∈l↔v∈m)->l=m
 | [],[],_,_,_=>rfl
 | [],b::m,_,_,h=>absurd ((h b).2 Zb) Zb
 | a::l,[],_,_,h=>absurd ((h a).1 Zb) Zb
 | a::l,b::m,hl,hm,h=>by
  rw [List.pairwise_cons] at hl hm
  have e:a=b:=by
   rcases Z7.1 ((h a).1 Zb) with e | e
   ·exact e
   ·rcases Z7.1 ((h b).2 Zb) with e2 | e2
    ·exact e2.symm
    ·exact absurd (hl.1 b e2) (asym _ _ (hm.1 a e))
  subst e;have irr: ¬R a a:=fun h=>asym a a h h;rw [Ew asym hl.2 hm.2 fun v=>⟨fun hv=> ?_,fun hv=> ?_⟩]
  ·rcases Z7.1 ((h v).1 (by simp [hv])) with e | e
   ·subst e;exact absurd (hl.1 _ hv) irr
   ·exact e
  ·rcases Z7.1 ((h v).2 (by simp [hv])) with e | e
   ·subst e;exact absurd (hm.1 _ hv) irr
   ·exact e
theorem lM {x:Inst} (hp:Plc x) {m:List Itm} (h1:m.Perm (Hw x)) (h2:m.Pairwise fun a b=> ¬FQ b a<0):m=YF x 10:=by
 refine Ew (R:=fun a b=>FQ a b<0) (fun a b h k=> ?_) ?_ (Ad x 10) fun v=> ?_
 ·rw [UZ] at h k;omega
 ·have h3:m.Nodup:=h1.nodup_iff.2 (GC hp);have h4:=List.Pairwise.and h2 h3;refine h4.imp ?_;rintro a b ⟨h5,h6⟩;rw [UZ] at h5 ⊢;have: ¬(a.kind=b.kind/\a.a=b.a):=fun h=>h6 (XL.2 h);omega
 ·rw [h1.mem_iff,NV hp,Qs]
theorem tL (x:Inst) (hp:Plc x) (ho:x.orders.length<=1000) (ht:0<x.types.length/\x.types.length<=1000) (ha:x.apart.length<=1000) (hb:x.before.length<=1000):PC 31 [.p (Zs x)] (.list false ((YF x 10).map Xn)):=by
 refine ACalls.frozen (S:=2) (n:=(YF x 10).length) Zb ?_;refine (bR x ho ht ha hb).mono ?_;rintro y H' ⟨m,⟨h1,h2⟩,h3,h4⟩;rw [lM hp h1 h2] at h3 h4;exact ⟨h3,h4⟩
def Mu (l:List Itm) (v:Itm):Int:=match l.findIdx? (fun w=>decide (v=w)) with | some i=>(i:Int) | none=> -1
theorem RO {l:List Itm} {v:Itm} {k:Nat} (hk:k<l.length) (h:v=nth l k) (hno: ∀j,j<k-> ¬v=nth l j):Mu l v=(k:Int):=by
 have:l.findIdx? (fun w=>decide (v=w))=some k:=by
  rw [V9];refine ⟨hk,by rw [<- Zi hk];simpa using h,fun j hj=> ?_⟩;have h2:=hno j hj;rw [Zi Za] at h2;simpa using h2
 simp [Mu,this]
theorem pM {l:List Itm} {v:Itm} (hno: ∀j,j<l.length-> ¬v=nth l j):Mu l v= -1:=by
 have:l.findIdx? (fun w=>decide (v=w))=none:=by
  rw [EY];intro x hx;obtain ⟨j,hj,rfl⟩:=ZU.1 hx;have:=hno j hj;rw [Zi hj] at this;simpa using this
 simp [Mu,this]
theorem Ul {l:List Itm} {v:Itm} :0<=Mu l v↔v∈l:=by
 unfold Mu
 cases h:l.findIdx? (fun w=>decide (v=w)) with
 | none =>
  rw [EY] at h
  have:v ∉ l:=fun hm=>by simpa using h v hm
  simp [this]
 | some i =>
  rw [V9] at h;obtain ⟨h1,h2,_⟩:=h
  have h3:v=l[i]:=by simpa using h2
  have:v∈l:=by rw [h3];exact Ke _
  simp [this]
theorem bN (l:List Itm) (c:Bool) (v:Itm) (hl:l.length<=1048576):PC 87 [.p (.list c (l.map Xn)),.p (Xn v)] (.int .i64 (Mu l v)):=by
 refine Zc Tryz.func87 rfl Zj5 ?_;simp (disch:=omega) only [Tryz.f87,go_sem,seval];refine Zl [0,3,7] (fun k:Nat=> [(8,.p (.int .i64 k))]) (fun _=> [.cells [.p (.int .i64 v.kind),.p (.int .i64 v.a)]]) (fun k=>k<=l.length/\ ∀j,j<k-> ¬v=nth l j) (fun k=>l.length-k) 0 Zb (Weak.mk ?_) ?_
 ·simp (disch:=omega) only [go_sem,seval]
 ·rintro k ⟨hk,hno⟩;simp (disch:=omega) only [go_sem,seval];refine cD ?_ ?_<;>intro h<;>simp (disch:=omega) only [Sh.out h,go_sem,seval]
  ·have hk2:k<l.length:=Za
   refine Xj ?_;simp (disch:=omega) only [go_sem,seval];refine cD ?_ ?_<;>intro h2<;>simp (disch:=omega) only [Sh.out h2,go_sem,seval]
   ·have:v=nth l k:=by rw [XL];simpa using h2
    rw [RO hk2 this hno]
   ·have: ¬v=nth l k:=by rw [XL];simpa using h2
    exact ⟨k+1,⟨Za,Zr.2 ⟨hno,this⟩⟩,Za,wk⟩
  ·have hkl:k=l.length:=Za
   subst hkl;rw [pM hno]
theorem U0 (l:List Itm) (c:Bool) (v:Itm) (hl:l.length<=1048576):PC 58 [.p (.list c (l.map Xn)),.p (Xn v)] (.bool (decide (v∈l))):=by
 refine Zc Tryz.func58 rfl ZjF ?_;simp (disch:=omega) only [Tryz.f58,go_sem,seval];refine (bN l c v hl).use ?_;simp (disch:=omega) only [go_sem,seval];simp only [Ul]
theorem Ho (l:List Typ) (c:Bool) (hl:l.length<=1048576):ACalls Tryz.prog 63 [.p (.list c (l.map X7))] [] fun y H'=>y= .sl 0 0 l.length l.length/\H'= [.elems 14 (l.map X7)]:=by
 refine Ze [1] Tryz.func63 rfl ZjK ?_;simp (disch:=omega) only [Tryz.f63,go_sem,seval];refine Wf (FH (e:=63) (cl:=c) (xs:=l.map X7) Tryz.underlying26 (by rfl) Zb fun b hb=> ?_);refine Zh [] _ _ _ _ ?_;simp (disch:=omega) only [go_sem,seval];refine cD ?_ ?_<;>intro h<;>simp (disch:=omega) only [Sh.out h,go_sem,seval]
 ·have:l= []:=by simpa using hb h
  subst this;exact ⟨_,_,Weak.nil 0 14 rfl Zb,rfl,rfl⟩
 ·refine Zh [] _ _ _ _ ?_;simp (disch:=omega) only [go_sem,seval];exact we
theorem Bl (l:List Ord) (c:Bool) (hl:l.length<=1048576):ACalls Tryz.prog 64 [.p (.list c (l.map eOrd))] [] fun y H'=>y= .sl 0 0 l.length l.length/\H'= [.elems 16 (l.map eOrd)]:=by
 refine Ze [1] Tryz.func64 rfl ZjL ?_;simp (disch:=omega) only [Tryz.f64,go_sem,seval];refine Wf (FH (e:=67) (cl:=c) (xs:=l.map eOrd) Tryz.underlying27 (by rfl) Zb fun b hb=> ?_);refine Zh [] _ _ _ _ (Zd ?_);refine cD ?_ ?_<;>intro h<;>simp (disch:=omega) only [Sh.out h,go_sem,seval]
 ·have:l= []:=by simp_all
  subst this;exact ⟨_,_,Weak.nil 0 16 rfl Zb,rfl,rfl⟩
 ·refine Zh [] _ _ _ _ (Zd ?_);exact we
def Xc (l:List (Int×Int)) (w:List Itm) (kind:Int) (k:Nat):List (Int×Int):=(List.range k).flatMap fun (i:Nat)=>if (⟨kind,i⟩:Itm)∈w then [] else [nth l i]
theorem Yg (l w kind k):Xc l w kind (k+1)=Xc l w kind k++if (⟨kind,k⟩:Itm)∈w then [] else [nth l k]:=by simp [Xc,Yh]
theorem DK (l w kind): ∀k,(Xc l w kind k).length<=k
 | 0=>by simp [Xc]
 | k+1=>by
  have:=DK l w kind k;rw [Yg,ZA]
  split<;>simp<;>omega
theorem Iv (l:List (Int×Int)) (w:List Itm) (kind:Int) (c d:Bool) (hl:l.length<=1048576) (hw:w.length<=1048576):PC 67 [.p (.list c (l.map eP)),.p (.list d (w.map Xn)),.p (.int .i64 kind)] (.list false ((Xc l w kind l.length).map eP)):=by
 refine ACalls.frozen (S:=2) (n:=(Xc l w kind l.length).length) Zb ?_
 suffices hh:ACalls Tryz.prog 67 [.p (.list c (l.map eP)),.p (.list d (w.map Xn)),.p (.int .i64 kind)] [] fun y H'=> ∃m:List (Int×Int),m=Xc l w kind l.length/\y= .sl 0 0 m.length m.length/\H'= [.elems 2 (m.map eP)] by
  refine hh.mono ?_;rintro x H' ⟨m,rfl,h1,h2⟩;exact ⟨h1,h2⟩
 refine ZI [2] Tryz.func67 rfl ZjN ?_;simp (disch:=omega) only [Tryz.f67,go_sem,seval];refine Zp (Weak.ofNil 7 2 (by simp (disch:=omega) only [go_sem,seval]) Zb (Weak.refl _ _ _)) ?_;refine Zh [] _ _ _ _ ?_;simp (disch:=omega) only [go_sem,seval];refine Zl [1,2,10,11] (fun q:Nat×List (Int×Int)=> [(7,.sl 0 0 q.2.length q.2.length),(12,.p (.int .i64 q.1))]) (fun q=> [.elems 2 (q.2.map eP)]) (fun q=>q.1<=l.length/\q.2=Xc l w kind q.1) (fun q=>l.length-q.1) (0,[]) ⟨Zb,by simp [Xc]⟩ (Weak.mk ?_) ?_
 ·simp (disch:=omega) only [go_sem,seval]
 ·rintro ⟨k,m⟩ ⟨hk,hm⟩;simp only at hk hm;have hml:=DK l w kind k;rw [<- hm] at hml;have hs:=Yg l w kind k;simp (disch:=omega) only [go_sem,seval];refine cD ?_ ?_<;>intro h<;>simp (disch:=omega) only [Sh.out h,go_sem,seval]
  ·have hk2:k<l.length:=Za
   refine (U0 w d ⟨kind,k⟩ hw).use ?_;simp (disch:=omega) only [go_sem,seval];refine cD ?_ ?_<;>intro h2<;>simp (disch:=omega) only [Sh.out h2,go_sem,seval]
   ·have h3: ¬(⟨kind,k⟩:Itm)∈w:=by simpa using h2
    exact ⟨(k+1,m++ [nth l k]),⟨by simp only;omega,by simp only [hs,h3,Yb,hm]⟩,by simp only;omega,wk⟩
   ·have h3:(⟨kind,k⟩:Itm)∈w:=by simpa using h2
    exact ⟨(k+1,m),⟨by simp only;omega,by simp only [hs,h3,if_true,hm,Yp]⟩,by simp only;omega,wk⟩
  ·have hkl:k=l.length:=Za
   subst hkl;exact ⟨m,hm,0,by simp (disch:=omega) only [go_sem,seval]⟩
def CY (o:Ord) (kind:Int):Ord :=
 if kind=1 then { o with pick:= { o.pick with cls:=4096 } }
 else if kind=2 then { o with drp:= { o.drp with cls:=4096 } }
 else if kind=4 then { o with skills:=0 }
 else if kind=10 then { o with penalty:=0 }
 else o
theorem A8 {α β:Type} {f:α->β} {l:List α} {i:Nat} {a:α} :(l.map f).set i (f a)=(l.set i a).map f:=by rw [Vk]
theorem uE (os:List Ord) (i:Nat) (hi:i<os.length):ACalls Tryz.prog 93 [.ep 0 i 2 os.length] [.elems 16 (os.map eOrd)] fun y H'=>y= .tup []/\H'= [.elems 16 ((os.set i (CY (nth os i) 1)).map eOrd)]:=by
 refine Ze [] Tryz.func93 rfl xY ?_;simp (disch:=omega) only [Tryz.f93,go_sem,seval];exact ⟨_,_,Weak.refl _ _ _,rfl,by rw [<- A8];rfl⟩
theorem uD (os:List Ord) (i:Nat) (hi:i<os.length):ACalls Tryz.prog 93 [.ep 0 i 6 os.length] [.elems 16 (os.map eOrd)] fun y H'=>y= .tup []/\H'= [.elems 16 ((os.set i (CY (nth os i) 2)).map eOrd)]:=by
 refine Ze [] Tryz.func93 rfl xY ?_;simp (disch:=omega) only [Tryz.f93,go_sem,seval];exact ⟨_,_,Weak.refl _ _ _,rfl,by rw [<- A8];rfl⟩
theorem mO {α:Type} [Inhabited α] {l:List α} {i:Nat} (h:i<l.length):l.set i (nth l i)=l:=by
 rw [Zi h];exact List.set_getElem_self h
theorem A2 (os:List Ord) (i:Nat) (k:Int) (hi:i<os.length):ACalls Tryz.prog 65 [.ep 0 i 0 os.length,.p (.int .i64 k)] [.elems 16 (os.map eOrd)] fun y H'=>y= .tup []/\H'= [.elems 16 ((os.set i (CY (nth os i) k)).map eOrd)]:=by
 refine Ze [] Tryz.func65 rfl ZjM ?_;simp (disch:=omega) only [Tryz.f65,go_sem,seval];refine cD ?_ ?_<;>intro h1<;>simp (disch:=omega) only [Sh.out h1,go_sem,seval]
 ·subst h1;refine (uE os i hi).useH ?_;simp (disch:=omega) only [go_sem,seval];exact ⟨_,_,Weak.refl _ _ _,rfl,rfl⟩
 ·refine cD ?_ ?_<;>intro h2<;>simp (disch:=omega) only [Sh.out h2,go_sem,seval]
  ·subst h2;refine (uD os i hi).useH ?_;simp (disch:=omega) only [go_sem,seval];exact ⟨_,_,Weak.refl _ _ _,rfl,rfl⟩
  ·refine cD ?_ ?_<;>intro h3<;>simp (disch:=omega) only [Sh.out h3,go_sem,seval]
   ·subst h3;exact ⟨_,_,Weak.refl _ _ _,rfl,by rw [<- A8];rfl⟩
   ·refine cD ?_ ?_<;>intro h4<;>simp (disch:=omega) only [Sh.out h4,go_sem,seval]
    ·subst h4;exact ⟨_,_,Weak.refl _ _ _,rfl,by rw [<- A8];rfl⟩
    ·have:CY (nth os i) k=nth os i:=by rw [CY,if_neg h1,if_neg h2,if_neg h3,if_neg h4]
     rw [this,mO hi];exact ⟨_,_,Weak.refl _ _ _,rfl,rfl⟩
theorem Eb {α:Type} {cs:List α} {j:Nat} {v:α} (h:j<cs.length):List.take 1 (List.drop j (cs.set j v))= [v]:=by
 rw [Ua (by simpa using h)];simp
theorem pN {α:Type} {cs:List α} {j:Nat} {v:α} (h:cs[j]? =some v):List.take 1 (List.drop j cs)= [v]:=by
 obtain ⟨h1,h2⟩:=ZY.1 h;rw [Ua h1,h2];simp
theorem Mt {α:Type} : ∀ {cs:List α} {j:Nat},Jp cs j []=cs
 | [],_=>rfl
 | _::_,0=>rfl
 | _::_,_+1=>by simp [Jp,Mt]
theorem Dj {α:Type} : ∀ {cs:List α} {j:Nat} {v:α},Jp cs j [v]=cs.set j v
 | [],_,_=>rfl
 | x::l,0,v=>by simp [Jp,Mt]
 | x::l,j+1,v=>by simp [Jp,Dj (cs:=l)]
theorem Fs {H:List AM.Obj} {n:Nat} {x x':V} (hx:Ei H n x x'): ∀ {cs:List V} {j:Nat},(∀v∈cs,refB n v=true)->Pb H n (cs.set j x) (cs.set j x')
 | [],_,_=>by simp [Pb]
 | y::l,0,h=>⟨hx,Hc l fun j c hc=>h c (Yo _ (XF hc))⟩
 | y::l,j+1,h=>⟨.inr (.inl ⟨rfl,h y Zb⟩),Fs hx fun v hv=>h v (Yo _ hv)⟩
theorem fA (cs:List V) (b:Nat) (l:List Int) (c:Bool) (hb:b+14<=cs.length) (hp: ∀n,∀v∈cs,refB n v=true) (h4:cs[b+4]? =some (.p (.list c (l.map eI)))) (hl:l.length<=1048576):ACalls Tryz.prog 66 [.ptr 0 b,.p (.int .i64 3)] [.cells cs] fun y H'=>y= .tup []/\H'= [.cells (cs.set (b+4) (.p (.list false ((List.replicate l.length (1000:Int)).map eI))))]:=by
 refine Ze [] Tryz.func66 rfl xX ?_;have h5:=pN h4
 have h6:b+4+1<=cs.length:=Za
 simp (disch:=omega) only [Tryz.f66,h5,h6,go_sem,seval];refine ACalls.useF (S:=1) (n:=l.length) (xs:=l.map eI) (Hn l c hl) ?_;simp (disch:=omega) only [h6,Dj,Eb,VO,go_sem,seval];refine Zl [0,20] (fun q:Nat×List Int=> [(21,.p (.int .i64 q.1))]) (fun q=> [.cells (cs.set (b+4) (.sl 1 0 l.length l.length)),.elems 1 (q.2.map eI)]) (fun q=>q.1<=l.length/\q.2=List.replicate q.1 (1000:Int)++l.drop q.1) (fun q=>l.length-q.1) (0,l) Zb (Weak.mk ?_) ?_
 ·simp (disch:=omega) only [h6,Dj,Eb,VO,go_sem,seval];exact Fs (by simp (disch:=omega) only [go_sem,seval]) (hp 2)
 ·rintro ⟨k,m⟩ ⟨hk,hm⟩;simp only at hk hm
  have hml:m.length=l.length:=by rw [hm];simp;omega
  rw [<- hml] at hk ⊢
  have hme:(m.map eI).length=m.length:=Zb
  simp (disch:=omega) only [go_sem,seval];refine cD ?_ ?_<;>intro h<;>simp (disch:=omega) only [Sh.out h,go_sem,seval]
  ·have hk2:k<m.length:=Za
   simp (disch:=omega) only [h6,Dj,Eb,VO,go_sem,seval];refine ⟨(k+1,m.set k 1000),⟨by simp only;omega,?_⟩,by simp only;omega,Weak.mk ?_⟩
   ·rw [hm]
    have hkl:k<l.length:=Za
    simp only;rw [E3 _ _ Zb,Ua hkl,E7,Vq];simp only [AF,AU,ZG,ZR,ZH]
   ·simp (disch:=omega) only [lZ,ZG,List.headD_cons,go_sem,seval];refine ⟨Fs ?_ (hp 2),?_⟩
    ·simp (disch:=omega) only [go_sem,seval]
    ·exact A8 (f:=eI)
  ·have hkl:k=m.length:=Za
   subst hkl
   have hm2:m=List.replicate m.length (1000:Int):=by rw [hml,UO,Yp] at hm;rw [hml];exact hm
   rw [<- hm2];refine ⟨_,_,?_,rfl,rfl⟩;refine Weak.mk ?_;simp (disch:=omega) only [go_sem,seval];refine Fs ?_ (hp 1);simp (disch:=omega) only [go_sem,seval]
theorem G8 (cs:List V) (b:Nat) (k:Int) (j:Nat) (v:Int) (hk:(k=7/\j=8/\v=4096)\/(k=8/\j=9/\v=4096)\/(k=9/\j=1/\v=10)) (hb:b+14<=cs.length) (hp: ∀n,∀v∈cs,refB n v=true):ACalls Tryz.prog 66 [.ptr 0 b,.p (.int .i64 k)] [.cells cs] fun y H'=>y= .tup []/\H'= [.cells (cs.set (b+j) (.p (.int .i64 v)))]:=by
 refine Ze [] Tryz.func66 rfl xX ?_
 have h6:b+j+1<=cs.length:=Za
 rcases hk with ⟨rfl,rfl,rfl⟩ | ⟨rfl,rfl,rfl⟩ | ⟨rfl,rfl,rfl⟩ <;>
 ·simp (disch:=omega) only [Tryz.f66,h6,Dj,go_sem,seval];exact ⟨_,_,Weak.refl _ _ _,rfl,rfl⟩
def Ec (t:Typ) (kind:Int):Typ :=
 if kind=3 then { t with cap_c:=false,cap:=List.replicate t.cap.length 1000 }
 else if kind=7 then { t with cls:=4096 }
 else if kind=8 then { t with drive:=4096 }
 else if kind=9 then { t with count:=10 }
 else t
theorem HV {S:Nat} {x' v:PV} {j:Nat} : ∀ {xs:List PV} {i:Nat} (h:i<xs.length),(∀x∈xs,x.cells.length=S)->j<S->x'.cells=(xs[i]).cells.set j v->V3 (xs.set i x')=(V3 xs).set (i*S+j) v
 | [],_,h,_,_,_=>absurd h Zb
 | x::xs,0,_,hS,hj,he=>by
  have hx:=hS x Zb
  simp only [V3,ZG,UM,Nat.zero_mul,Xs,List.getElem_cons_zero] at *
  rw [he,List.set_append_left _ _ Za]
 | x::xs,i+1,h,hS,hj,he=>by
  have hx:=hS x Zb;have:=HV (xs:=xs) (i:=i) (by simpa using h) (fun y hy=>hS y (by simp [hy])) hj (by simpa using he)
  simp only [V3,ZQ,UM] at *
  rw [this,E3 _ _ (by rw [hx,XO];omega),hx]
  congr 2
  rw [XO];omega
theorem Q1 (ts:List Typ) (i:Nat) (k:Int) (hk:k=3\/k=7\/k=8\/k=9) (hi:i<ts.length) (hc:(nth ts i).cap.length<=1048576) {H:List AM.Obj} {o:Nat} (hH:H[o]? =some (.elems 14 (ts.map X7))):ACalls Tryz.prog 66 [.ep o i 0 ts.length,.p (.int .i64 k)] H fun y H'=>y= .tup []/\H'=H.set o (.elems 14 ((ts.set i (Ec (nth ts i) k)).map X7)):=by
 have hS: ∀(us:List Typ),∀x∈us.map X7,x.cells.length=14:=fun us x hx=>by
  obtain ⟨t,_,rfl⟩:=XH.1 hx
  rfl
 have hlen:(ts.map X7).length=ts.length:=Zb
 have hg:=Zi hi
 have main: ∀(j:Nat) (v:PV),j<14->(X7 (Ec (nth ts i) k)).cells=(X7 (nth ts i)).cells.set j v->(∀cs:List V,i*14+14<=cs.length->(∀n,∀v∈cs,refB n v=true)->cs[i*14+4]? =some (.p (.list (nth ts i).cap_c ((nth ts i).cap.map eI)))->ACalls Tryz.prog 66 [.ptr 0 (i*14),.p (.int .i64 k)] [.cells cs] fun y H'=>y= .tup []/\H'= [.cells (cs.set (i*14+j) (.p v))]) ->
   ACalls Tryz.prog 66 [.ep o i 0 ts.length,.p (.int .i64 k)] H fun y H'=>y= .tup []/\H'=H.set o (.elems 14 ((ts.set i (Ec (nth ts i) k)).map X7)):=fun j v hj he h=>by
  rw [<- hlen];refine ACalls.atF (S:=14) (ps:= [.int .i64 k]) hH (hS _) (hS _) (fun sp=> ?_) Zb;have hfl:=Ay (hS ts);have h4:(V3 (ts.map X7))[i*14+4]? =some (.list (nth ts i).cap_c ((nth ts i).cap.map eI)):=DE (S:=14) (hS ts) i (X7 (nth ts i)) 4 _ (by rw [Xr,Jg hi,hg];rfl) rfl;have h4l:=(ZY.1 h4).1;refine (h _ (by simp [hfl];omega) (fun n v hv=> ?_) ?_).mono ?_
  ·rcases Xe.1 hv with hv | hv
   ·obtain ⟨y,_,rfl⟩:=XH.1 hv
    rfl
   ·rw [List.eq_of_mem_replicate hv];rfl
  ·rw [Wj (by simpa using h4l),Xr,h4];rfl
  ·rintro y H' ⟨h1,rfl⟩;refine ⟨h1,List.replicate sp .junk,Zb,?_⟩;have hf:=HV (S:=14) (x':=X7 (Ec (nth ts i) k)) (v:=v) (j:=j) (xs:=ts.map X7) (i:=i) (by simpa using hi) (hS ts) hj (by rw [CK,<- hg];exact he);rw [A8] at hf;rw [hf,Vk,List.set_append_left _ _ (by simp [hfl];omega)]
 rcases hk with rfl | rfl | rfl | rfl
 ·exact main 4 _ Za rfl fun cs h1 h2 h3=>fA cs _ _ _ h1 h2 h3 hc
 ·exact main 8 _ Za rfl fun cs h1 h2 _=>G8 cs _ 7 8 4096 Zb h1 h2
 ·exact main 9 _ Za rfl fun cs h1 h2 _=>G8 cs _ 8 9 4096 Zb h1 h2
 ·exact main 1 _ Za rfl fun cs h1 h2 _=>G8 cs _ 9 1 10 Zb h1 h2
structure ISz (x:Inst):Prop where
 plc:Plc x
 ord:x.orders.length<=1000
 typ0:0<x.types.length
 typ:x.types.length<=1000
 ap:x.apart.length<=1000
 be:x.before.length<=1000
theorem UB {x:Inst} (h:ISz x):(YF x 10).length<=1048576:=by
 have e:(YF x 10).Perm (Hw x):=by
  refine (List.perm_ext_iff_of_nodup ?_ (GC h.plc)).2 fun v=>by rw [Qs,NV h.plc]
  exact (Ad x 10).imp fun {a b} hh e=>by subst e;rw [UZ] at hh;omega
 rw [e.length_eq];have h1:=Cx x x.orders.length;have h2:=ER (k:=x.types.length);have h3:=LJ x x.apart.length;have h4:=LL x x.before.length;have:=h.ord;have:=h.typ;have:=h.ap;have:=h.be;simp only [Hw,ZA];omega
theorem LM (x:Inst) (h:ISz x):PC 31 [.p (Zs x)] (.list false ((YF x 10).map Xn)):=tL x h.plc h.ord ⟨h.typ0,h.typ⟩ h.ap h.be
theorem SJ (x:Inst) (h:ISz x) (v:Itm):PC 29 [.p (Zs x),.p (Xn v)] (.bool (XI x v)):=by
 refine Zc Tryz.func29 rfl Zjg ?_;simp (disch:=omega) only [Tryz.f29,go_sem,seval];refine Xj ?_;simp (disch:=omega) only [go_sem,seval];refine Zo (LM x h) ?_;simp (disch:=omega) only [go_sem,seval];refine Zo (U0 (YF x 10) false v (UB h)) ?_;simp (disch:=omega) only [go_sem,seval];simp [Qs]
theorem Kr (o:Ord) (k:Int) (hk:k=1\/k=2\/k=4\/k=10):PC 57 [.p (eOrd o),.p (.int .i64 k)] (.bool (K7 o k)):=by
 refine Zc Tryz.func57 rfl ZjE ?_;rcases hk with rfl | rfl | rfl | rfl
 ·simp (disch:=omega) only [Tryz.f57,K7,go_sem,seval]
 ·simp (disch:=omega) only [Tryz.f57,K7,go_sem,seval]
 ·simp (disch:=omega) only [Tryz.f57,K7,go_sem,seval]
 ·simp (disch:=omega) only [Tryz.f57,K7,go_sem,seval]
theorem Qw (x:Inst) (i:Int) (hl:x.orders.length<=1048576):PC 56 [.p (Zs x),.p (.int .i64 i)] (.bool (Vl x i)):=by
 refine Zc Tryz.func56 rfl ZjD ?_;simp (disch:=omega) only [Tryz.f56,go_sem,seval];refine gT ?_ ?_<;>intro h<;>simp (disch:=omega) only [Sh.out h,go_sem,seval]
 ·refine gT ?_ ?_<;>intro h2<;>simp (disch:=omega) only [Sh.out h2,go_sem,seval]
  ·simp [Vl,h,h2]
  ·simp [Vl,h2]
 ·simp [Vl,h]
theorem GL (x:Inst) (h:ISz x) (v:Itm):PC 28 [.p (Zs x),.p (Xn v)] (.bool (XI x v)):=by
 have s1:=h.ord;have s2:=h.typ;have s3:=h.ap;have s4:=h.be;refine Zc Tryz.func28 rfl Zjf ?_;obtain ⟨k,a⟩:=v
 have gO: ∀k:Int,(k=1\/k=2\/k=4\/k=10)->XI x ⟨k,a⟩=(Vl x a&&K7 (nth x.orders a.toNat) k):=fun k h=>by simp only [XI];rw [if_pos h]
 by_cases h1:k=1\/k=2\/k=4\/k=10
 ·rw [gO k h1];rcases h1 with rfl | rfl | rfl | rfl
  ·simp (disch:=omega) only [Tryz.f28,go_sem,seval];refine Xj ?_;simp (disch:=omega) only [go_sem,seval];refine Zo (Qw x a Za) ?_;simp (disch:=omega) only [go_sem,seval];refine gT ?_ ?_<;>intro h<;>simp (disch:=omega) only [Sh.out h,go_sem,seval]
   ·have h2:0<=a/\a<(x.orders.length:Int):=by simp only [Vl,Zv,Zq] at h;omega
    simp (disch:=omega) only [go_sem,seval];refine Zo (Kr (nth x.orders a.toNat) 1 Za) ?_;simp (disch:=omega) only [go_sem,seval];simp [h]
  ·simp (disch:=omega) only [Tryz.f28,go_sem,seval];refine Xj ?_;simp (disch:=omega) only [go_sem,seval];refine Zo (Qw x a Za) ?_;simp (disch:=omega) only [go_sem,seval];refine gT ?_ ?_<;>intro h<;>simp (disch:=omega) only [Sh.out h,go_sem,seval]
   ·have h2:0<=a/\a<(x.orders.length:Int):=by simp only [Vl,Zv,Zq] at h;omega
    simp (disch:=omega) only [go_sem,seval];refine Zo (Kr (nth x.orders a.toNat) 2 Za) ?_;simp (disch:=omega) only [go_sem,seval];simp [h]
  ·simp (disch:=omega) only [Tryz.f28,go_sem,seval];refine Xj ?_;simp (disch:=omega) only [go_sem,seval];refine Zo (Qw x a Za) ?_;simp (disch:=omega) only [go_sem,seval];refine gT ?_ ?_<;>intro h<;>simp (disch:=omega) only [Sh.out h,go_sem,seval]
   ·have h2:0<=a/\a<(x.orders.length:Int):=by simp only [Vl,Zv,Zq] at h;omega
    simp (disch:=omega) only [go_sem,seval];refine Zo (Kr (nth x.orders a.toNat) 4 Za) ?_;simp (disch:=omega) only [go_sem,seval];simp [h]
  ·simp (disch:=omega) only [Tryz.f28,go_sem,seval];refine Xj ?_;simp (disch:=omega) only [go_sem,seval];refine Zo (Qw x a Za) ?_;simp (disch:=omega) only [go_sem,seval];refine gT ?_ ?_<;>intro h<;>simp (disch:=omega) only [Sh.out h,go_sem,seval]
   ·have h2:0<=a/\a<(x.orders.length:Int):=by simp only [Vl,Zv,Zq] at h;omega
    simp (disch:=omega) only [go_sem,seval];refine Zo (Kr (nth x.orders a.toNat) 10 Za) ?_;simp (disch:=omega) only [go_sem,seval];simp [h]
 ·by_cases h2:k=3\/k=7\/k=8\/k=9
  ·rcases h2 with rfl | rfl | rfl | rfl
   ·simp (disch:=omega) only [Tryz.f28,go_sem,seval];refine gT ?_ ?_<;>intro hq<;>simp (disch:=omega) only [Sh.out hq,go_sem,seval]
    ·simp [XI,hq]
    ·simp [XI,hq]
   ·simp (disch:=omega) only [Tryz.f28,go_sem,seval];refine gT ?_ ?_<;>intro hq<;>simp (disch:=omega) only [Sh.out hq,go_sem,seval]
    ·simp [XI,hq]
    ·simp [XI,hq]
   ·simp (disch:=omega) only [Tryz.f28,go_sem,seval];refine gT ?_ ?_<;>intro hq<;>simp (disch:=omega) only [Sh.out hq,go_sem,seval]
    ·simp [XI,hq]
    ·simp [XI,hq]
   ·simp (disch:=omega) only [Tryz.f28,go_sem,seval];refine gT ?_ ?_<;>intro hq<;>simp (disch:=omega) only [Sh.out hq,go_sem,seval]
    ·simp [XI,hq]
    ·simp [XI,hq]
  ·by_cases h3:k=5
   ·subst h3;simp (disch:=omega) only [Tryz.f28,go_sem,seval];refine Xj ?_;simp (disch:=omega) only [go_sem,seval];refine gT ?_ ?_<;>intro hq<;>simp (disch:=omega) only [Sh.out hq,go_sem,seval]
    ·refine gT ?_ ?_<;>intro hq2<;>simp (disch:=omega) only [Sh.out hq2,go_sem,seval]
     ·refine Zo (Qw x (nth x.apart a.toNat).1 Za) ?_;simp (disch:=omega) only [go_sem,seval];refine gT ?_ ?_<;>intro hq3<;>simp (disch:=omega) only [Sh.out hq3,go_sem,seval]
      ·refine Zo (Qw x (nth x.apart a.toNat).2 Za) ?_;simp (disch:=omega) only [go_sem,seval];simp [XI,hq,hq2,hq3]
      ·simp [XI,hq3]
     ·simp [XI,hq2]
    ·simp [XI,hq]
   ·by_cases h4:k=6
    ·subst h4;simp (disch:=omega) only [Tryz.f28,go_sem,seval];refine Xj ?_;simp (disch:=omega) only [go_sem,seval];refine gT ?_ ?_<;>intro hq<;>simp (disch:=omega) only [Sh.out hq,go_sem,seval]
     ·refine gT ?_ ?_<;>intro hq2<;>simp (disch:=omega) only [Sh.out hq2,go_sem,seval]
      ·refine Zo (Qw x (nth x.before a.toNat).2 Za) ?_;simp (disch:=omega) only [go_sem,seval];simp [XI,hq,hq2]
      ·simp [XI,hq2]
     ·simp [XI,hq]
    ·have e1: ¬k=1:=Za
     have e2: ¬k=2:=Za
     have e3: ¬k=3:=Za
     have e4: ¬k=4:=Za
     have e7: ¬k=7:=Za
     have e8: ¬k=8:=Za
     have e9: ¬k=9:=Za
     have e10: ¬k=10:=Za
     simp (disch:=omega) only [Tryz.f28,XI,e1,e2,e3,e4,h3,h4,e7,e8,e9,e10,go_sem,seval]
theorem XX (l:List Itm) (c:Bool) (v:Itm) (hl:l.length<=1048576):PC 79 [.p (.list c (l.map Xn)),.p (Xn v)] (.int .i64 (Mu l v)):=by
 refine Zc Tryz.func79 rfl ZjX ?_;simp (disch:=omega) only [Tryz.f79,go_sem,seval];refine Zl [0,3] (fun k:Nat=> [(5,.p (.int .i64 k))]) (fun _=> [.cells [.p (.int .i64 v.kind),.p (.int .i64 v.a)]]) (fun k=>k<=l.length/\ ∀j,j<k-> ¬v=nth l j) (fun k=>l.length-k) 0 Zb (Weak.mk ?_) ?_
 ·simp (disch:=omega) only [go_sem,seval]
 ·rintro k ⟨hk,hno⟩;simp (disch:=omega) only [go_sem,seval];refine cD ?_ ?_<;>intro h<;>simp (disch:=omega) only [Sh.out h,go_sem,seval]
  ·have hk2:k<l.length:=Za
   refine Xj ?_;simp (disch:=omega) only [go_sem,seval];refine cD ?_ ?_<;>intro h2<;>simp (disch:=omega) only [Sh.out h2,go_sem,seval]
   ·have:v=nth l k:=by rw [XL];first | omega | (simp at h2;omega)
    rw [RO hk2 this hno]
   ·have: ¬v=nth l k:=by rw [XL];first | omega | (simp at h2;omega)
    exact ⟨k+1,⟨Za,Zr.2 ⟨hno,this⟩⟩,Za,wk⟩
  ·have hkl:k=l.length:=Za
   subst hkl;rw [pM hno]
theorem TI {l:List Itm} {v:Itm} :Mu l v<0↔ ¬v∈l:=by rw [<- Ul];omega
theorem GO (l:List (Int×Int)) (w:List Itm) (kind:Int) (c d:Bool) (hl:l.length<=1048576) (hw:w.length<=1048576):PC 80 [.p (.list c (l.map eP)),.p (.list d (w.map Xn)),.p (.int .i64 kind)] (.list false ((Xc l w kind l.length).map eP)):=by
 refine ACalls.frozen (S:=2) (n:=(Xc l w kind l.length).length) Zb ?_
 suffices hh:ACalls Tryz.prog 80 [.p (.list c (l.map eP)),.p (.list d (w.map Xn)),.p (.int .i64 kind)] [] fun y H'=> ∃m:List (Int×Int),m=Xc l w kind l.length/\y= .sl 0 0 m.length m.length/\H'= [.elems 2 (m.map eP)] by
  refine hh.mono ?_;rintro x H' ⟨m,rfl,h1,h2⟩;exact ⟨h1,h2⟩
 refine ZI [2] Tryz.func80 rfl ZjY ?_;simp (disch:=omega) only [Tryz.f80,go_sem,seval];refine Zp (Weak.ofNil 7 2 (by simp (disch:=omega) only [go_sem,seval]) Zb (Weak.refl _ _ _)) ?_;refine Zh [] _ _ _ _ ?_;simp (disch:=omega) only [go_sem,seval];refine Zl [0,1,2] (fun q:Nat×List (Int×Int)=> [(7,.sl 0 0 q.2.length q.2.length),(8,.p (.int .i64 q.1))]) (fun q=> [.elems 2 (q.2.map eP)]) (fun q=>q.1<=l.length/\q.2=Xc l w kind q.1) (fun q=>l.length-q.1) (0,[]) ⟨Zb,by simp [Xc]⟩ (Weak.mk ?_) ?_
 ·simp (disch:=omega) only [go_sem,seval]
 ·rintro ⟨k,m⟩ ⟨hk,hm⟩;simp only at hk hm;have hml:=DK l w kind k;rw [<- hm] at hml;have hs:=Yg l w kind k;simp (disch:=omega) only [go_sem,seval];refine cD ?_ ?_<;>intro h<;>simp (disch:=omega) only [Sh.out h,go_sem,seval]
  ·have hk2:k<l.length:=Za
   refine (XX w d ⟨kind,k⟩ hw).use ?_;simp (disch:=omega) only [go_sem,seval];refine cD ?_ ?_<;>intro h2<;>simp (disch:=omega) only [Sh.out h2,go_sem,seval]
   ·have h3: ¬(⟨kind,k⟩:Itm)∈w:=TI.1 h2;exact ⟨(k+1,m++ [nth l k]),⟨by simp only;omega,by simp only [hs,h3,Yb,hm]⟩,by simp only;omega,wk⟩
   ·have h3:(⟨kind,k⟩:Itm)∈w:=by rw [TI,Z1] at h2;exact h2
    exact ⟨(k+1,m),⟨by simp only;omega,by simp only [hs,h3,if_true,hm,Yp]⟩,by simp only;omega,wk⟩
  ·have hkl:k=l.length:=Za
   subst hkl;exact ⟨m,hm,0,by simp (disch:=omega) only [go_sem,seval]⟩
theorem GI (x k): ∀n,(D2 x k n).length<=n
 | 0=>by simp [D2]
 | n+1=>by
  have h1:=GI x k n
  have h2:(Me x k n).length<=1:=by unfold Me;split<;>simp
  rw [IB,ZA];omega
theorem D1 (x): ∀n,(YF x n).length<=n*JH x
 | 0=>by simp [YF]
 | n+1=>by
  have h1:=D1 x n;have h2:=GI x n (JH x);rw [IA,ZA,XO];omega
theorem Ol (x:Inst) (h:ISz x):PC 10 [.p (Zs x)] (.list false ((YF x 10).map Xn)):=by
 have s1:=h.ord;have s2:=h.typ;have s3:=h.ap;have s4:=h.be;have hrl:=UB h;refine ACalls.frozen (S:=2) (n:=(YF x 10).length) Zb ?_
 suffices hh:ACalls Tryz.prog 10 [.p (Zs x)] [] fun y H'=> ∃m:List Itm,m=YF x 10/\y= .sl 0 0 m.length m.length/\H'= [.elems 2 (m.map Xn)] by
  refine hh.mono ?_;rintro x H' ⟨m,rfl,h1,h2⟩;exact ⟨h1,h2⟩
 have hm1:JH x<=1000:=by unfold JH;omega
 have hmost:max (max (max (x.orders.length:Int) x.types.length) x.apart.length) x.before.length=(JH x:Int):=by unfold JH;omega
 refine ZI [1] Tryz.func10 rfl Zi1 ?_;simp (disch:=omega) only [Tryz.f10,go_sem,seval];refine Wf (rX 12 (by rfl) (by rfl) ?_);simp (disch:=omega) only [go_sem,seval];refine ⟨_,dJ rfl rfl rfl rfl rfl,?_⟩;rw [hmost];have hrn:=D1 x;have hsK:=IB x;have hsI:=IA x;have hlK:=GI x;generalize JH x=M at hm1 hrn hsI;refine Zh [3] _ _ _ _ ?_;simp (disch:=omega) only [go_sem,seval];refine Zp (Weak.ofNil 4 2 (by simp (disch:=omega) only [go_sem,seval]) Zb (Weak.refl _ _ _)) ?_;refine Zh [] _ _ _ _ ?_
 simp (disch:=omega) only [go_sem,seval];refine Zl [1,3] (fun q:Nat×List Itm=> [(4,.sl 1 0 q.2.length q.2.length),(5,.p (.int .i64 (q.1+1)))]) (fun q=> [Zf x,.elems 2 (q.2.map Xn)]) (fun q=>q.1<=10/\q.2=YF x q.1) (fun q=>10-q.1) (0,[]) ⟨Zb,by simp [YF]⟩ (Weak.mk ?_) ?_
 ·simp (disch:=omega) only [Zf,go_sem,seval]
 ·rintro ⟨k,m⟩ ⟨hk,hm⟩;simp only at hk hm;have hml:=hrn k;rw [<- hm] at hml;have hml2:k*M<=10*1000:=AO hk hm1;simp (disch:=omega) only [Zf,go_sem,seval];refine cD ?_ ?_<;>intro hq<;>simp (disch:=omega) only [Sh.out hq,go_sem,seval]
  ·have hk2:k<10:=Za
   refine Zl [1,3,5] (fun q:Nat×List Itm=> [(4,.sl 1 0 q.2.length q.2.length),(6,.p (.int .i64 q.1))]) (fun q=> [Zf x,.elems 2 (q.2.map Xn)]) (fun q=>q.1<=M/\q.2=m++D2 x k q.1) (fun q=>M-q.1) (0,m) ⟨Zb,by simp [D2]⟩ (Weak.mk ?_) ?_
   ·simp (disch:=omega) only [Zf,go_sem,seval]
   ·rintro ⟨a,m2⟩ ⟨ha,hm2⟩;simp only at ha hm2;have hm2l:=hlK k a
    have hm2l2:m2.length=m.length+(D2 x k a).length:=by rw [hm2,ZA]
    have hs:=hsK k a;simp (disch:=omega) only [Zf,go_sem,seval];refine cD ?_ ?_<;>intro h2<;>simp (disch:=omega) only [Sh.out h2,go_sem,seval]
    ·have ha2:a<M:=Za
     refine (GL x h ⟨(k:Int)+1,a⟩).use ?_;simp (disch:=omega) only [go_sem,seval];refine cD ?_ ?_<;>intro h3<;>simp (disch:=omega) only [Sh.out h3,go_sem,seval]
     ·exact ⟨(a+1,m2++ [⟨(k:Int)+1,a⟩]),⟨by simp only;omega,by simp only [hs,Me,h3,if_true,hm2,Vq]⟩,by simp only;omega,Weak.mk (by simp (disch:=omega) only [Zf,go_sem,seval])⟩
     ·exact ⟨(a+1,m2),⟨by simp only;omega,by simp [hs,Me,h3,hm2]⟩,by simp only;omega,Weak.mk (by simp (disch:=omega) only [Zf,go_sem,seval])⟩
    ·have haM:a=M:=Za
     subst haM;exact ⟨(k+1,m2),⟨by simp only;omega,by simp only [hsI,hm2,hm]⟩,by simp only;omega,Weak.mk (by simp (disch:=omega) only [Zf,go_sem,seval])⟩
  ·have hk10:k=10:=Za
   subst hk10;exact ⟨m,hm,1,by simp (disch:=omega) only [Zf,go_sem,seval]⟩
def Ws (o:Ord) (at':Int) (l:List Itm):Ord:= { o with
 pick:= { o.pick with cls:=if (⟨1,at'⟩:Itm)∈l then 4096 else o.pick.cls }
 drp:= { o.drp with cls:=if (⟨2,at'⟩:Itm)∈l then 4096 else o.drp.cls }
 skills:=if (⟨4,at'⟩:Itm)∈l then 0 else o.skills
 penalty:=if (⟨10,at'⟩:Itm)∈l then 0 else o.penalty }
def Y8 (t:Typ) (at':Int) (l:List Itm):Typ:= { t with
 cap_c:=if (⟨3,at'⟩:Itm)∈l then false else t.cap_c
 cap:=if (⟨3,at'⟩:Itm)∈l then List.replicate t.cap.length 1000 else t.cap
 cls:=if (⟨7,at'⟩:Itm)∈l then 4096 else t.cls
 drive:=if (⟨8,at'⟩:Itm)∈l then 4096 else t.drive
 count:=if (⟨9,at'⟩:Itm)∈l then 10 else t.count }
theorem mZ (o a):Ws o a []=o:=by simp [Ws]
theorem pP (o a):Y8 o a []=o:=by simp [Y8]
theorem Ir (o a l) (v:Itm):Ws o a (l++ [v])=if v.a=a then CY (Ws o a l) v.kind else Ws o a l:=by
 obtain ⟨k,b⟩:=v
 by_cases h:b=a
 ·subst h
  by_cases h1:k=1
  ·subst h1;simp [Ws,CY,XL]
  ·by_cases h2:k=2
   ·subst h2;simp [Ws,CY,XL]
   ·by_cases h4:k=4
    ·subst h4;simp [Ws,CY,XL]
    ·by_cases h10:k=10
     ·subst h10;simp [Ws,CY,XL]
     ·have e1: ¬ 1=k:=fun h=>h1 h.symm;have e2: ¬ 2=k:=fun h=>h2 h.symm;have e4: ¬ 4=k:=fun h=>h4 h.symm;have e10: ¬ 10=k:=fun h=>h10 h.symm;simp [Ws,CY,XL,h1,h2,h4,h10,e1,e2,e4,e10]
 ·have e: ¬a=b:=fun h2=>h h2.symm;simp [Ws,XL,h,e]
theorem IM (o a l) (v:Itm):Y8 o a (l++ [v])=if v.a=a then Ec (Y8 o a l) v.kind else Y8 o a l:=by
 obtain ⟨k,b⟩:=v
 by_cases h:b=a
 ·subst h
  by_cases h1:k=3
  ·subst h1;simp [Y8,Ec,XL];split<;>simp
  ·by_cases h2:k=7
   ·subst h2;simp [Y8,Ec,XL]
   ·by_cases h4:k=8
    ·subst h4;simp [Y8,Ec,XL]
    ·by_cases h10:k=9
     ·subst h10;simp [Y8,Ec,XL]
     ·have e1: ¬ 3=k:=fun h=>h1 h.symm;have e2: ¬ 7=k:=fun h=>h2 h.symm;have e4: ¬ 8=k:=fun h=>h4 h.symm;have e10: ¬ 9=k:=fun h=>h10 h.symm;simp [Y8,Ec,XL,h1,h2,h4,h10,e1,e2,e4,e10]
 ·have e: ¬a=b:=fun h2=>h h2.symm;simp [Y8,XL,h,e]
def Z6 (os:List Ord) (w:List Itm):List Ord:=(List.range os.length).map fun (i:Nat)=>Ws (nth os i) i w
def Z9 (ts:List Typ) (w:List Itm):List Typ:=(List.range ts.length).map fun (i:Nat)=>Y8 (nth ts i) i w
theorem YI (os w):(Z6 os w).length=os.length:=by simp [Z6]
theorem Ww (os w):(Z9 os w).length=os.length:=by simp [Z9]
theorem Br {α:Type} [Inhabited α] {f:Nat->α} {n i:Nat} (h:i<n):nth ((List.range n).map f) i=f i:=by
 rw [Zi (by simpa using h)];simp
theorem ZW {os w i} (h:i<os.length):nth (Z6 os w) i=Ws (nth os i) i w:=Br h
theorem YJ {os w i} (h:i<os.length):nth (Z9 os w) i=Y8 (nth os i) i w:=Br h
theorem Bp {α:Type} [Inhabited α] (l:List α):(List.range l.length).map (fun i=>nth l i)=l:=by
 apply Uc
 ·simp
 ·intro i h1 h2;simp [Zi h2]
theorem Is (os):Z6 os []=os:=by simp only [Z6,mZ];exact Bp os
theorem IP (os):Z9 os []=os:=by simp only [Z9,pP];exact Bp os
theorem Rh {o:Ord} {k:Int} (h:k=3\/k=7\/k=8\/k=9\/k=5\/k=6):CY o k=o:=by
 unfold CY;rw [if_neg Za,if_neg Za,if_neg Za,if_neg Za]
theorem RR {o:Typ} {k:Int} (h:k=1\/k=2\/k=4\/k=10\/k=5\/k=6):Ec o k=o:=by
 unfold Ec;rw [if_neg Za,if_neg Za,if_neg Za,if_neg Za]
theorem A3 {os:List Ord} {w:List Itm} {v:Itm} {i:Nat} (hi:i<os.length) (hv:v.a=(i:Int)):(Z6 os w).set i (CY (nth (Z6 os w) i) v.kind)=Z6 os (w++ [v]):=by
 rw [ZW hi];apply Uc
 ·simp [Z6]
 ·intro j h1 h2
  have hj:j<os.length:=by simpa [Z6] using h2
  rw [List.getElem_set];simp only [Z6,CK,List.getElem_range,Ir,hv]
  by_cases e:i=j
  ·subst e;simp
  ·have: ¬(i:Int)=j:=Za
   simp [e,this]
theorem Bb {os:List Typ} {w:List Itm} {v:Itm} {i:Nat} (hi:i<os.length) (hv:v.a=(i:Int)):(Z9 os w).set i (Ec (nth (Z9 os w) i) v.kind)=Z9 os (w++ [v]):=by
 rw [YJ hi];apply Uc
 ·simp [Z9]
 ·intro j h1 h2
  have hj:j<os.length:=by simpa [Z9] using h2
  rw [List.getElem_set];simp only [Z9,CK,List.getElem_range,IM,hv]
  by_cases e:i=j
  ·subst e;simp
  ·have: ¬(i:Int)=j:=Za
   simp [e,this]
theorem Ux {os:List Ord} {w:List Itm} {v:Itm} (h:v.kind=3\/v.kind=7\/v.kind=8\/v.kind=9\/v.kind=5\/v.kind=6):Z6 os (w++ [v])=Z6 os w:=by
 simp only [Z6,Ir,Rh h,ite_self]
theorem UF {os:List Typ} {w:List Itm} {v:Itm} (h:v.kind=1\/v.kind=2\/v.kind=4\/v.kind=10\/v.kind=5\/v.kind=6):Z9 os (w++ [v])=Z9 os w:=by
 simp only [Z9,IM,RR h,ite_self]
def Zn (x:Inst) (l:List Itm):Inst:=⟨x.net,false,Z9 x.types l,false,Z6 x.orders l,false,Xc x.apart l 5 x.apart.length,false,Xc x.before l 6 x.before.length⟩
def Yq (x:Inst) (l:List Itm) (i:Nat):Int:=if XI x (nth l i)=true then (if nth l i∈l.take i then 6 else 0) else 7
def YW (x:Inst) (l:List Itm):Int:=(((List.range l.length).map (Yq x l)).find? fun e=>decide (e≠0)).getD 0
theorem U2 {x:Inst} {l:List Itm} {k:Nat} (hk:k<l.length) (h0: ∀j,j<k->Yq x l j=0) (h:Yq x l k≠0):YW x l=Yq x l k:=by
 have:((List.range l.length).map (Yq x l)).find? (fun e=>decide (e≠0))=some (Yq x l k):=by
  rw [EV];refine ⟨by simpa using h,k,by simpa using hk,Zb,fun j hj=> ?_⟩;have:=h0 j hj;simp [this]
 rw [YW,this];rfl
theorem Ck {x:Inst} {l:List Itm} (h: ∀j,j<l.length->Yq x l j=0):YW x l=0:=by
 have:((List.range l.length).map (Yq x l)).find? (fun e=>decide (e≠0))=none:=by
  rw [Kb];intro e he;obtain ⟨j,hj,rfl⟩:=XH.1 he;have:=h j (by simpa using hj);simp [this]
 rw [YW,this];rfl
theorem WN {x l i} :Yq x l i=0↔XI x (nth l i)=true/\nth l i ∉ l.take i:=by
 unfold Yq
 split
 ·split<;>simp_all
 ·simp_all
theorem bA {x:Inst} {l:List Itm} :YW x l=0↔ ∀j,j<l.length->Yq x l j=0:=by
 refine ⟨fun h j hj=> ?_,Ck⟩
 induction j using Nat.strongRecOn with
 | ind j ih =>
  by_cases h2:Yq x l j=0
  ·exact h2
  ·rw [U2 hj (fun i hi=>ih i hi Za) h2] at h;exact h
theorem FW {x:Inst} {l:List Itm} :YW x l=0↔(∀v∈l,XI x v=true)/\l.Nodup:=by
 rw [bA]
 constructor
 ·intro h;refine ⟨fun v hv=> ?_,?_⟩
  ·obtain ⟨j,hj,rfl⟩:=ZU.1 hv;have:=(WN.1 (h j hj)).1;rwa [Zi hj] at this
  ·rw [List.Nodup,KX];intro i j hi hj hij e;have:=(WN.1 (h j hj)).2;rw [Zi hj,<- e] at this;exact this (ZU.2 ⟨i,by simp;omega,Zb⟩)
 ·rintro ⟨h1,h2⟩ j hj;refine WN.2 ⟨h1 _ (Zu hj),fun hm=> ?_⟩;obtain ⟨i,hi,e⟩:=ZU.1 hm
  have hi2:i<j:=by simp at hi;omega
  rw [List.Nodup,KX] at h2;refine h2 i j Za hj hi2 ?_;rw [Zi hj] at e;rw [<- e];simp
def Bj (x:Inst) (l:List Itm):Inst:=if YW x l=0 then Zn x l else zeroI
theorem tG {n word sm l i} :SE n word sm l i= []↔cQ n (nth l i)=true/\(l.take i).any (sm (nth l i))=false:=by
 unfold SE;split<;>(try split)<;>simp_all
theorem Nv {n word sm l} :Jz n word sm l l.length= []↔l.length<=16/\(∀p∈l,cQ n p=true)/\l.Pairwise (fun p q=>sm q p=false):=by
 rw [Jz,Ub,List.flatMap_eq_nil_iff];refine and_congr (by unfold Ht;split<;>simp<;>omega) ?_;simp only [ZO,tG]
 constructor
 ·intro h;refine ⟨fun p hp=> ?_,?_⟩
  ·obtain ⟨i,hi,rfl⟩:=ZU.1 hp;have:=(h i hi).1;rwa [Zi hi] at this
  ·rw [KX];intro i j hi hj hij;have:=(h j hj).2;rw [Vc,Zi hj] at this;have h2:=this l[i] (ZU.2 ⟨i,by simp;omega,Zb⟩);simpa using h2
 ·rintro ⟨h1,h2⟩ i hi;refine ⟨h1 _ (Zu hi),?_⟩;rw [Vc];intro p hp;obtain ⟨j,hj,rfl⟩:=ZU.1 hp;rw [KX] at h2
  have hji:j<i:=by simp at hj;omega
  have:=h2 j i Za hi hji;rw [Zi hi,List.getElem_take,this];simp
theorem Lp {n:Int} {ap be:List (Int×Int)} :chk n ap be= []↔(ap.length<=16/\(∀p∈ap,cQ n p=true)/\ap.Pairwise (fun p q=>decide (q=p\/(q.1=p.2/\q.2=p.1))=false))/\(be.length<=16/\(∀p∈be,cQ n p=true)/\be.Pairwise (fun p q=>decide (q=p)=false)):=by
 rw [chk,Ub,Nv,Nv]
theorem H9 (l w kind): ∀k,k<=l.length->(Xc l w kind k).Sublist (l.take k)
 | 0,_=>by simp [Xc]
 | k+1,h=>by
  rw [Yg,X3 Za];refine (H9 l w kind k Za).append ?_
  split
  ·simp
  ·rw [Zi Za];exact List.Sublist.refl _
theorem Ka (l w kind):(Xc l w kind l.length).Sublist l:=by
 have:=H9 l w kind l.length (Zy _);rwa [X1] at this
theorem U9 {n lo hi:Int} :rng n lo hi=true↔lo<=n/\n<=hi:=by simp [rng]
theorem DA {l:List Int} {d:Int} :VI l d=true↔(1<=l.length/\l.length<=3)/\(l.length:Int)=d/\ ∀n∈l,0<=n/\n<=1000:=by
 simp only [VI,Zv,Zq,ZD,U9]
 constructor
 ·rintro ⟨⟨h1,h2⟩,h3⟩;exact ⟨Za,h2,h3⟩
 ·rintro ⟨h1,h2,h3⟩;exact ⟨⟨Za,h2⟩,h3⟩
theorem Qb (t a l):(Y8 t a l).cap.length=t.cap.length:=by simp only [Y8];split<;>simp
theorem RQ {t a l d} (h:VI t.cap d=true):VI (Y8 t a l).cap d=true:=by
 rw [DA] at h ⊢;rw [Qb];refine ⟨h.1,h.2.1,fun n hn=> ?_⟩;simp only [Y8] at hn
 split at hn
 ·rw [List.eq_of_mem_replicate hn];omega
 ·exact h.2.2 n hn
theorem J1 (ts l):dimsOf (Z9 ts l)=dimsOf ts:=by
 unfold dimsOf;rw [Ww]
 split
 ·rfl
 ·rw [YJ Za,Qb]
theorem TM {n:Net} {ts:List Typ} {l:List Itm} {i:Nat} (hi:i<ts.length) (h:UE n ts i):UE n (Z9 ts l) i:=by
 unfold UE at h ⊢;rw [YJ hi,J1];obtain ⟨⟨⟨⟨⟨⟨⟨⟨h1,h2⟩,h3⟩,h4⟩,h5⟩,h6⟩,h7⟩,h8⟩,h9⟩:=h;refine ⟨⟨⟨⟨⟨⟨⟨⟨h1,fun j hj=> ?_⟩,?_⟩,h4⟩,RQ h5⟩,h6⟩,?_⟩,?_⟩,h9⟩
 ·rw [YJ Za];exact h2 j hj
 ·simp only [Y8];split
  ·rfl
  ·exact h3
 ·simp only [U9,Y8] at h7 ⊢
  split<;>omega
 ·simp only [U9,Y8] at h8 ⊢
  split<;>omega
theorem IJ {s:Stp} (h:stpOk s=true) (hp:0<=s.place):stpOk { s with cls:=4096 } =true:=by
 rw [eW] at h ⊢;simp only;omega
theorem JA {x:Inst} {k a:Int} (hk:k=1\/k=2\/k=4\/k=10):XI x ⟨k,a⟩=true↔Vl x a=true/\K7 (nth x.orders a.toNat) k=true:=by
 simp only [XI];rw [if_pos hk,Zv]
theorem qO {np:Nat} {d ty:Int} {os:List Ord} {l:List Itm} {i:Nat} (hi:i<os.length) (h:OrdOk np d ty os i) (h1:(⟨1,i⟩:Itm)∈l->0<=(nth os i).pick.place) (h2:(⟨2,i⟩:Itm)∈l->0<=(nth os i).drp.place):OrdOk np d ty (Z6 os l) i:=by
 constructor
 ·rw [ZW hi];exact h.name
 ·intro j hj;rw [ZW hi,ZW Za];exact h.twin j hj
 ·rw [ZW hi];exact h.load
 ·rw [ZW hi];exact h.pick
 ·rw [ZW hi];exact h.drp
 ·rw [ZW hi];exact h.one
 ·rw [ZW hi];simp only [Ws];split
  ·rename_i hm;exact IJ h.pstp (h1 hm)
  ·exact h.pstp
 ·rw [ZW hi];simp only [Ws];split
  ·rename_i hm;exact IJ h.dstp (h2 hm)
  ·exact h.dstp
 ·rw [ZW hi];have:=h.skills;simp only [Ws];split<;>omega
 ·rw [ZW hi];have:=h.arg;simp only [argOk,Zv,Zq,U9] at this ⊢;refine ⟨⟨?_,this.1.2⟩,this.2⟩;have:=this.1.1;simp only [Ws]
  split<;>omega
theorem QD {x:Inst} {l:List Itm} (h:InstOk x) (hI: ∀v∈l,XI x v=true):InstOk (Zn x l):=by
 have ht:=h.types;have ho:=h.orders;obtain ⟨⟨a1,a2,a3⟩,b1,b2,b3⟩:=Lp.1 h.rules;refine ⟨h.net,⟨?_,fun i hi=> ?_⟩,⟨?_,fun i hi=> ?_⟩,?_⟩
 ·show rng (Z9 x.types l).length 1 6=true
  rw [Ww];exact ht.1
 ·have hi2:i<x.types.length:=by simpa [Zn,Ww] using hi
  exact TM hi2 (ht.2 i hi2)
 ·show (Z6 x.orders l).length<=10
  rw [YI];exact ho.1
 ·have hi2:i<x.orders.length:=by simpa [Zn,YI] using hi
  show OrdOk x.net.places.length (dimsOf (Z9 x.types l)) (Z9 x.types l).length (Z6 x.orders l) i
  rw [J1,Ww];refine qO hi2 (ho.2 i hi2) (fun hm=> ?_) (fun hm=> ?_)
  ·have:=((JA Za).1 (hI _ hm)).2;simpa [K7] using this
  ·have:=((JA Za).1 (hI _ hm)).2;simpa [K7] using this
 ·show chk ((Z6 x.orders l).length:Int) (Xc x.apart l 5 x.apart.length) (Xc x.before l 6 x.before.length)= []
  rw [YI,Lp];have sa:=Ka x.apart l 5;have sb:=Ka x.before l 6;have la:=sa.length_le;have lb:=sb.length_le;exact ⟨⟨Za,fun p hp=>a2 p (sa.subset hp),a3.sublist sa⟩,⟨Za,fun p hp=>b2 p (sb.subset hp),b3.sublist sb⟩⟩
theorem U3 {x:Inst} (h:InstOk x):ISz x:=by
 have hf:=XP h;have ht:=U9.1 h.types.1;obtain ⟨⟨a1,_,_⟩,b1,_,_⟩:=Lp.1 h.rules;have:=h.orders.1;exact ⟨hf.plc,Za,Za,Za,Za,Za⟩
theorem NG {x:Inst} (h:InstOk x): ∀t∈x.types,t.cap.length<=1048576:=fun t hm=>by
 obtain ⟨i,hi,rfl⟩:=ZU.1 hm;have:=h.types.2 i hi;have h5:=(DA.1 this.1.1.1.1.2).1;rw [Zi hi] at h5;omega
theorem vG (x:Inst) (hs:ISz x) (hcap: ∀t∈x.types,t.cap.length<=1048576) (l:List Itm) (c:Bool) (hl:l.length<=1048576):PT 32 [.p (Zs x),.p (.list c (l.map Xn))] [.p (Zs (Bj x l)),.p (.int .i64 (YW x l))]:=by
 have s1:=hs.ord;have s2:=hs.typ;have s3:=hs.ap;have s4:=hs.be;have hrl:=UB hs;refine Ze [27] Tryz.func32 rfl Zjj ?_;simp (disch:=omega) only [Tryz.f32,go_sem,seval];refine (LM x hs).use ?_;simp (disch:=omega) only [go_sem,seval];have zI:Zs zeroI= .agg [.list true [],.list true [],.list true [],.list true [],.list true [],.list true []]:=rfl;refine Z3 [10] [1,2,4,6,13,14] (fun k:Nat=> [(15,.p (.int .i64 k))]) (fun _=> [Zf x,Zf zeroI]) (fun k=>k<=l.length/\ ∀j,j<k->Yq x l j=0) (fun k=>l.length-k) 0 Zb (Weak.mk ?_) ?_
 ·simp (disch:=omega) only [Zf,zeroI,Zk,go_sem,seval]
 ·rintro k ⟨hk,hno⟩;simp (disch:=omega) only [Zf,zeroI,Zk,go_sem,seval];refine cD ?_ ?_<;>intro h<;>simp (disch:=omega) only [Sh.out h,go_sem,seval]
  ·have hk2:k<l.length:=Za
   refine (U0 (YF x 10) false (nth l k) hrl).use ?_;simp (disch:=omega) only [go_sem,seval];refine cD ?_ ?_<;>intro h2<;>simp (disch:=omega) only [Sh.out h2,zI,go_sem,seval]
   ·have h3:XI x (nth l k)=false:=by rw [Qs] at h2;simpa using h2
    have e0:Yq x l k=7:=by rw [Yq,h3];rfl
    have e:YW x l=7:=by rw [U2 hk2 hno (by rw [e0];decide),e0]
    have r:Bj x l=zeroI:=by rw [Bj,e];rfl
    simp only [e,r,zeroI,Zk];exact we
   ·have h3:XI x (nth l k)=true:=by rw [Z1,Qs] at h2;exact h2
    refine Xj ?_;simp (disch:=omega) only [go_sem,seval];refine Zo (U0 (l.take k) _ (nth l k) (by simp;omega)) ?_;simp (disch:=omega) only [go_sem,seval];refine cD ?_ ?_<;>intro h4<;>simp (disch:=omega) only [Sh.out h4,go_sem,seval]
    ·have e0:Yq x l k=6:=by rw [Yq,if_pos h3,if_pos h4]
     have e:YW x l=6:=by rw [U2 hk2 hno (by rw [e0];decide),e0]
     have r:Bj x l=zeroI:=by rw [Bj,e];rfl
     simp only [e,r,zeroI,Zk];exact we
    ·exact ⟨k+1,⟨Za,Zr.2 ⟨hno,WN.2 ⟨h3,h4⟩⟩⟩,Za,Weak.mk (by simp (disch:=omega) only [Zf,zeroI,Zk,go_sem,seval])⟩
  ·have hkl:k=l.length:=Za
   subst hkl;have e:YW x l=0:=Ck hno
   have r:Bj x l=Zn x l:=by rw [Bj,if_pos e]
   rw [e,r];clear hk h;refine aF [1,2,4] (fun _:Unit=> []) (fun _=> [.cells [.p (.list x.net.places_c (x.net.places.map eS)),.p (.list x.net.arcs_c (x.net.arcs.map V1)),.sl 2 0 x.types.length x.types.length,.sl 3 0 x.orders.length x.orders.length,.p (.list x.apart_c (x.apart.map eP)),.p (.list x.before_c (x.before.map eP))],Zf zeroI,.elems 14 (x.types.map X7),.elems 16 (x.orders.map eOrd)]) (fun _=>True) ?_ ?_
   ·refine FI (.cons 0 (.cons 1 (.cons 2 (.cons 3 (.cons 4 (.cons 5 (.cons 6 (.cons 7 (.cons 8 (.cons 9 .nil .nil) .nil) .nil) .nil) (.cons 6 (.cons 5 (.cons 7 (.cons 8 (.cons 9 .nil .nil) .nil) .nil) .nil) .nil)) .nil) .nil) (.cons 3 (.cons 2 (.cons 4 (.cons 5 (.cons 6 (.cons 7 (.cons 8 (.cons 9 .nil .nil) .nil) .nil) .nil) (.cons 6 (.cons 5 (.cons 7 (.cons 8 (.cons 9 .nil .nil) .nil) .nil) .nil) .nil)) .nil) (.cons 4 (.cons 2 (.cons 5 (.cons 6 (.cons 7 (.cons 8 (.cons 9 .nil .nil) .nil) .nil) .nil) (.cons 6 (.cons 5 (.cons 7 (.cons 8 (.cons 9 .nil .nil) .nil) .nil) .nil) .nil)) .nil) .nil)) .nil)) (.cons 3 (.cons 1 (.cons 2 (.cons 4 (.cons 5 (.cons 6 (.cons 7 (.cons 8 (.cons 9 .nil .nil) .nil) .nil) .nil) (.cons 6 (.cons 5 (.cons 7 (.cons 8 (.cons 9 .nil .nil) .nil) .nil) .nil) .nil)) .nil) (.cons 4 (.cons 2 (.cons 5 (.cons 6 (.cons 7 (.cons 8 (.cons 9 .nil .nil) .nil) .nil) .nil) (.cons 6 (.cons 5 (.cons 7 (.cons 8 (.cons 9 .nil .nil) .nil) .nil) .nil) .nil)) .nil) .nil)) (.cons 4 (.cons 1 (.cons 2 (.cons 5 (.cons 6 (.cons 7 (.cons 8 (.cons 9 .nil .nil) .nil) .nil) .nil) (.cons 6 (.cons 5 (.cons 7 (.cons 8 (.cons 9 .nil .nil) .nil) .nil) .nil) .nil)) .nil) .nil) .nil)) .nil)) (.cons 3 (.cons 0 (.cons 1 (.cons 2 (.cons 4 (.cons 5 (.cons 6 (.cons 7 (.cons 8 (.cons 9 .nil .nil) .nil) .nil) .nil) (.cons 6 (.cons 5 (.cons 7 (.cons 8 (.cons 9 .nil .nil) .nil) .nil) .nil) .nil)) .nil) (.cons 4 (.cons 2 (.cons 5 (.cons 6 (.cons 7 (.cons 8 (.cons 9 .nil .nil) .nil) .nil) .nil) (.cons 6 (.cons 5 (.cons 7 (.cons 8 (.cons 9 .nil .nil) .nil) .nil) .nil) .nil)) .nil) .nil)) (.cons 4 (.cons 1 (.cons 2 (.cons 5 (.cons 6 (.cons 7 (.cons 8 (.cons 9 .nil .nil) .nil) .nil) .nil) (.cons 6 (.cons 5 (.cons 7 (.cons 8 (.cons 9 .nil .nil) .nil) .nil) .nil) .nil)) .nil) .nil) .nil)) (.cons 4 (.cons 0 (.cons 1 (.cons 2 (.cons 5 (.cons 6 (.cons 7 (.cons 8 (.cons 9 .nil .nil) .nil) .nil) .nil) (.cons 6 (.cons 5 (.cons 7 (.cons 8 (.cons 9 .nil .nil) .nil) .nil) .nil) .nil)) .nil) .nil) .nil) .nil)) .nil)) mixed Zg ?_
    have cT:ACalls Tryz.prog 63 [.p (.list x.types_c (x.types.map X7))] [] fun y H'=>y= .sl 0 0 x.types.length x.types.length/\H'= [.elems 14 (x.types.map X7)]:=Ho x.types x.types_c Za;have cO:ACalls Tryz.prog 64 [.p (.list x.orders_c (x.orders.map eOrd))] [] fun y H'=>y= .sl 0 0 x.orders.length x.orders.length/\H'= [.elems 16 (x.orders.map eOrd)]:=Bl x.orders x.orders_c Za
    repeat' first
     | refine Dv ?_ ?_
     | (refine cT.useF ?_;simp (disch:=omega) only [go_sem,seval])
     | (refine cO.useF ?_;simp (disch:=omega) only [go_sem,seval])
     | exact ⟨(),Weak.mk (by simp (disch:=omega) only [Zf,zeroI,Zk,go_sem,seval])⟩
     | simp (disch:=omega) only [go_sem,seval]
   ·rintro _ _;simp (disch:=omega) only [Zf,zeroI,Zk,go_sem,seval];have lT:=Ww x.types;have lO:=YI x.orders
    have hcap2: ∀k i,i<x.types.length->(nth (Z9 x.types (l.take k)) i).cap.length<=1048576:=fun k i hi=>by
     rw [YJ hi];have:=hcap _ (Zu hi);simp only [Y8]
     split<;>simp [this]
    refine Z3 [26,27] [1,2,4,42,43] (fun k:Nat=> [(44,.p (.int .i64 k))]) (fun k=> [.cells [.p (.list x.net.places_c (x.net.places.map eS)),.p (.list x.net.arcs_c (x.net.arcs.map V1)),.sl 2 0 x.types.length x.types.length,.sl 3 0 x.orders.length x.orders.length,.p (.list x.apart_c (x.apart.map eP)),.p (.list x.before_c (x.before.map eP))],Zf zeroI,.elems 14 ((Z9 x.types (l.take k)).map X7),.elems 16 ((Z6 x.orders (l.take k)).map eOrd)]) (fun k=>k<=l.length) (fun k=>l.length-k) 0 Zb (Weak.mk ?_) ?_
    ·simp (disch:=omega) only [Zf,zeroI,Zk,Jj,IP,Is,go_sem,seval]
    ·rintro k hk;simp (disch:=omega) only [Zf,zeroI,Zk,go_sem,seval];have hhas:k<l.length->XI x (nth l k)=true:=fun h=>(WN.1 (hno k h)).1
     have hsn:k<l.length->l.take (k+1)=l.take k++ [nth l k]:=fun h=>by rw [X3 h,Zi h]
     refine cD ?_ ?_<;>intro h<;>simp (disch:=omega) only [Sh.out h,go_sem,seval]
     ·have hk2:k<l.length:=Za
      have hhas:=hhas hk2;have hsn:=hsn hk2
      have hgo: ∀kd a,nth l k=⟨kd,a⟩->(kd=1\/kd=2\/kd=4\/kd=10)/\(0<=a/\a<(x.orders.length:Int))\/(kd=3\/kd=7\/kd=8\/kd=9)/\(0<=a/\a<(x.types.length:Int))\/kd=5\/kd=6:=fun kd a e=>by
       rw [e] at hhas;unfold XI at hhas;simp only at hhas
       split at hhas
       ·rename_i hq;simp only [Vl,Zv,Zq] at hhas;exact .inl ⟨hq,Za⟩
       ·split at hhas
        ·rename_i hq;simp only [Zv,Zq] at hhas;exact .inr (.inl ⟨hq,Za⟩)
        ·split at hhas
         ·rename_i hq;exact .inr (.inr (.inl hq))
         ·split at hhas
          ·rename_i hq;exact .inr (.inr (.inr hq))
          ·simp at hhas
      generalize hv:nth l k=v at hgo hsn ⊢;obtain ⟨kd,a⟩:=v;rcases hgo kd a rfl with ⟨hkd,ha⟩ | ⟨hkd,ha⟩ | hkd
      ·rcases hkd with rfl | rfl | rfl | rfl
       ·have hmO:((Z6 x.orders (l.take k)).map eOrd).length=x.orders.length:=by rw [ZB,lO]
        have c9:=A2 (Z6 x.orders (l.take k)) a.toNat 1 (by rw [lO];omega);rw [A3 Za (v:=⟨1,a⟩) (by simp only;omega),<- hsn,lO,<- hmO] at c9
        have eT:Z9 x.types (l.take (k+1))=Z9 x.types (l.take k):=by rw [hsn];exact UF Zb
        simp (disch:=omega) only [Zf,zeroI,Zk,go_sem,seval];refine ZF 7 mixed Zg Zg ?_;simp (disch:=omega) only [go_sem,seval];rw [<- hmO];refine (ACalls.atE (ps:= [.int .i64 1]) (o:=3) rfl c9 (by simp [lO])).useH ?_;simp (disch:=omega) only [ZQ,ZG,go_sem,seval];refine ⟨k+1,Za,Za,Weak.mk ?_⟩
        try simp only [ZB,lO]
        simp (disch:=omega) only [Zf,zeroI,Zk,eT,go_sem,seval]
       ·have hmO:((Z6 x.orders (l.take k)).map eOrd).length=x.orders.length:=by rw [ZB,lO]
        have c9:=A2 (Z6 x.orders (l.take k)) a.toNat 2 (by rw [lO];omega);rw [A3 Za (v:=⟨2,a⟩) (by simp only;omega),<- hsn,lO,<- hmO] at c9
        have eT:Z9 x.types (l.take (k+1))=Z9 x.types (l.take k):=by rw [hsn];exact UF Zb
        simp (disch:=omega) only [Zf,zeroI,Zk,go_sem,seval];refine ZF 7 mixed Zg Zg ?_;simp (disch:=omega) only [go_sem,seval];rw [<- hmO];refine (ACalls.atE (ps:= [.int .i64 2]) (o:=3) rfl c9 (by simp [lO])).useH ?_;simp (disch:=omega) only [ZQ,ZG,go_sem,seval];refine ⟨k+1,Za,Za,Weak.mk ?_⟩
        try simp only [ZB,lO]
        simp (disch:=omega) only [Zf,zeroI,Zk,eT,go_sem,seval]
       ·have hmO:((Z6 x.orders (l.take k)).map eOrd).length=x.orders.length:=by rw [ZB,lO]
        have c9:=A2 (Z6 x.orders (l.take k)) a.toNat 4 (by rw [lO];omega);rw [A3 Za (v:=⟨4,a⟩) (by simp only;omega),<- hsn,lO,<- hmO] at c9
        have eT:Z9 x.types (l.take (k+1))=Z9 x.types (l.take k):=by rw [hsn];exact UF Zb
        simp (disch:=omega) only [Zf,zeroI,Zk,go_sem,seval];refine ZF 7 mixed Zg Zg ?_;simp (disch:=omega) only [go_sem,seval];rw [<- hmO];refine (ACalls.atE (ps:= [.int .i64 4]) (o:=3) rfl c9 (by simp [lO])).useH ?_;simp (disch:=omega) only [ZQ,ZG,go_sem,seval];refine ⟨k+1,Za,Za,Weak.mk ?_⟩
        try simp only [ZB,lO]
        simp (disch:=omega) only [Zf,zeroI,Zk,eT,go_sem,seval]
       ·have hmO:((Z6 x.orders (l.take k)).map eOrd).length=x.orders.length:=by rw [ZB,lO]
        have c9:=A2 (Z6 x.orders (l.take k)) a.toNat 10 (by rw [lO];omega);rw [A3 Za (v:=⟨10,a⟩) (by simp only;omega),<- hsn,lO,<- hmO] at c9
        have eT:Z9 x.types (l.take (k+1))=Z9 x.types (l.take k):=by rw [hsn];exact UF Zb
        simp (disch:=omega) only [Zf,zeroI,Zk,go_sem,seval];refine ZF 7 mixed Zg Zg ?_;simp (disch:=omega) only [go_sem,seval];rw [<- hmO];refine (ACalls.atE (ps:= [.int .i64 10]) (o:=3) rfl c9 (by simp [lO])).useH ?_;simp (disch:=omega) only [ZQ,ZG,go_sem,seval];refine ⟨k+1,Za,Za,Weak.mk ?_⟩
        try simp only [ZB,lO]
        simp (disch:=omega) only [Zf,zeroI,Zk,eT,go_sem,seval]
      ·rcases hkd with rfl | rfl | rfl | rfl
       ·have hmT:((Z9 x.types (l.take k)).map X7).length=x.types.length:=by rw [ZB,lT]
        have c9:=fun (H:List AM.Obj) (hH:H[2]? =some (.elems 14 ((Z9 x.types (l.take k)).map X7)))=>Q1 (Z9 x.types (l.take k)) a.toNat 3 Zb (by rw [lT];omega) (hcap2 k a.toNat Za) hH;rw [Bb Za (v:=⟨3,a⟩) (by simp only;omega),<- hsn,lT,<- hmT] at c9
        have eO:Z6 x.orders (l.take (k+1))=Z6 x.orders (l.take k):=by rw [hsn];exact Ux Zb
        simp (disch:=omega) only [Zf,zeroI,Zk,go_sem,seval];refine ZF 7 mixed Zg Zg ?_;simp (disch:=omega) only [go_sem,seval];rw [<- hmT];refine (c9 _ rfl).useH ?_;simp (disch:=omega) only [ZQ,ZG,go_sem,seval];refine ⟨k+1,Za,Za,Weak.mk ?_⟩
        try simp only [ZB,lT]
        simp (disch:=omega) only [Zf,zeroI,Zk,eO,go_sem,seval]
       ·have hmT:((Z9 x.types (l.take k)).map X7).length=x.types.length:=by rw [ZB,lT]
        have c9:=fun (H:List AM.Obj) (hH:H[2]? =some (.elems 14 ((Z9 x.types (l.take k)).map X7)))=>Q1 (Z9 x.types (l.take k)) a.toNat 7 Zb (by rw [lT];omega) (hcap2 k a.toNat Za) hH;rw [Bb Za (v:=⟨7,a⟩) (by simp only;omega),<- hsn,lT,<- hmT] at c9
        have eO:Z6 x.orders (l.take (k+1))=Z6 x.orders (l.take k):=by rw [hsn];exact Ux Zb
        simp (disch:=omega) only [Zf,zeroI,Zk,go_sem,seval];refine ZF 7 mixed Zg Zg ?_;simp (disch:=omega) only [go_sem,seval];rw [<- hmT];refine (c9 _ rfl).useH ?_;simp (disch:=omega) only [ZQ,ZG,go_sem,seval];refine ⟨k+1,Za,Za,Weak.mk ?_⟩
        try simp only [ZB,lT]
        simp (disch:=omega) only [Zf,zeroI,Zk,eO,go_sem,seval]
       ·have hmT:((Z9 x.types (l.take k)).map X7).length=x.types.length:=by rw [ZB,lT]
        have c9:=fun (H:List AM.Obj) (hH:H[2]? =some (.elems 14 ((Z9 x.types (l.take k)).map X7)))=>Q1 (Z9 x.types (l.take k)) a.toNat 8 Zb (by rw [lT];omega) (hcap2 k a.toNat Za) hH;rw [Bb Za (v:=⟨8,a⟩) (by simp only;omega),<- hsn,lT,<- hmT] at c9
        have eO:Z6 x.orders (l.take (k+1))=Z6 x.orders (l.take k):=by rw [hsn];exact Ux Zb
        simp (disch:=omega) only [Zf,zeroI,Zk,go_sem,seval];refine ZF 7 mixed Zg Zg ?_;simp (disch:=omega) only [go_sem,seval];rw [<- hmT];refine (c9 _ rfl).useH ?_;simp (disch:=omega) only [ZQ,ZG,go_sem,seval];refine ⟨k+1,Za,Za,Weak.mk ?_⟩
        try simp only [ZB,lT]
        simp (disch:=omega) only [Zf,zeroI,Zk,eO,go_sem,seval]
       ·have hmT:((Z9 x.types (l.take k)).map X7).length=x.types.length:=by rw [ZB,lT]
        have c9:=fun (H:List AM.Obj) (hH:H[2]? =some (.elems 14 ((Z9 x.types (l.take k)).map X7)))=>Q1 (Z9 x.types (l.take k)) a.toNat 9 Zb (by rw [lT];omega) (hcap2 k a.toNat Za) hH;rw [Bb Za (v:=⟨9,a⟩) (by simp only;omega),<- hsn,lT,<- hmT] at c9
        have eO:Z6 x.orders (l.take (k+1))=Z6 x.orders (l.take k):=by rw [hsn];exact Ux Zb
        simp (disch:=omega) only [Zf,zeroI,Zk,go_sem,seval];refine ZF 7 mixed Zg Zg ?_;simp (disch:=omega) only [go_sem,seval];rw [<- hmT];refine (c9 _ rfl).useH ?_;simp (disch:=omega) only [ZQ,ZG,go_sem,seval];refine ⟨k+1,Za,Za,Weak.mk ?_⟩
        try simp only [ZB,lT]
        simp (disch:=omega) only [Zf,zeroI,Zk,eO,go_sem,seval]
      ·have eT:Z9 x.types (l.take (k+1))=Z9 x.types (l.take k):=by rw [hsn];exact UF (by simp only;omega)
       have eO:Z6 x.orders (l.take (k+1))=Z6 x.orders (l.take k):=by rw [hsn];exact Ux (by simp only;omega)
       rcases hkd with rfl | rfl
       ·simp (disch:=omega) only [Zf,zeroI,Zk,go_sem,seval];exact ⟨k+1,Za,Za,Weak.mk (by simp (disch:=omega) only [Zf,zeroI,Zk,eT,eO,go_sem,seval])⟩
       ·simp (disch:=omega) only [Zf,zeroI,Zk,go_sem,seval];exact ⟨k+1,Za,Za,Weak.mk (by simp (disch:=omega) only [Zf,zeroI,Zk,eT,eO,go_sem,seval])⟩
     ·have hkl:k=l.length:=Za
      subst hkl;rw [X1];have cA:=Iv x.apart l 5 x.apart_c c Za hl;have cB:=Iv x.before l 6 x.before_c c Za hl;refine ZF 9 mixed Zg Zg ?_;simp (disch:=omega) only [go_sem,seval];refine Zo (cA) ?_;simp (disch:=omega) only [go_sem,seval];refine Zo (cB) ?_;simp (disch:=omega) only [go_sem,seval];rw [<- lT l,<- lO l];refine Zp (Weak.fz (o:=2) (by rfl)) ?_;refine Zp (Weak.fz (o:=3) (by rfl)) ?_;refine Zh [] _ _ _ _ ?_;simp (disch:=omega) only [Zt,Zk,ZQ,ZG,go_sem,seval]
      exact we (by simp (disch:=omega) only [Zn,go_sem,seval])
theorem Mg (o:Ord) (a:Int) (w:List Itm) (d:Bool) (hw:w.length<=1048576):PC 81 [.p (eOrd o),.p (.int .i64 a),.p (.list d (w.map Xn))] (eOrd (Ws o a w)):=by
 refine Zc Tryz.func81 rfl ZjZ ?_;have n1:(0<=Mu w ⟨1,a⟩)=((⟨1,a⟩:Itm)∈w):=propext Ul;have n2:(0<=Mu w ⟨2,a⟩)=((⟨2,a⟩:Itm)∈w):=propext Ul;have n4:(0<=Mu w ⟨4,a⟩)=((⟨4,a⟩:Itm)∈w):=propext Ul;have n10:(0<=Mu w ⟨10,a⟩)=((⟨10,a⟩:Itm)∈w):=propext Ul
 by_cases h1:(⟨1,a⟩:Itm)∈w<;>by_cases h2:(⟨2,a⟩:Itm)∈w<;>by_cases h4:(⟨4,a⟩:Itm)∈w<;>by_cases h10:(⟨10,a⟩:Itm)∈w
 all_goals
  simp (disch:=omega) only [Tryz.f81,go_sem,seval];refine (XX w d ⟨1,a⟩ hw).use ?_;simp (disch:=omega) only [n1,h1,go_sem,seval];refine (XX w d ⟨2,a⟩ hw).use ?_;simp (disch:=omega) only [n2,h2,go_sem,seval];refine (XX w d ⟨4,a⟩ hw).use ?_;simp (disch:=omega) only [n4,h4,go_sem,seval];refine (XX w d ⟨10,a⟩ hw).use ?_;simp (disch:=omega) only [n10,h10,Ws,h1,h2,h4,go_sem,seval]
def TR : Typ:=⟨[],0,0,0,true,[],0,0,0,0,0,0,0,0,0⟩
theorem Oq (t:Typ) (a:Int) (w:List Itm) (d:Bool) (hw:w.length<=1048576) (hc:t.cap.length<=1048576):PC 82 [.p (X7 t),.p (.int .i64 a),.p (.list d (w.map Xn))] (X7 (Y8 t a w)):=by
 refine VE [3,8] Tryz.func82 rfl Zj0 ?_;have n3:(0<=Mu w ⟨3,a⟩)=((⟨3,a⟩:Itm)∈w):=propext Ul;have n7:(0<=Mu w ⟨7,a⟩)=((⟨7,a⟩:Itm)∈w):=propext Ul;have n8:(0<=Mu w ⟨8,a⟩)=((⟨8,a⟩:Itm)∈w):=propext Ul;have n9:(0<=Mu w ⟨9,a⟩)=((⟨9,a⟩:Itm)∈w):=propext Ul
 by_cases h3:(⟨3,a⟩:Itm)∈w
 ·simp (disch:=omega) only [Tryz.f82,go_sem,seval];refine (XX w d ⟨3,a⟩ hw).use ?_;simp (disch:=omega) only [n3,h3,go_sem,seval];refine Zp (Weak.ofNil 7 1 (by simp (disch:=omega) only [go_sem,seval]) Zb (Weak.refl _ _ _)) ?_;refine Zh [] _ _ _ _ ?_;simp (disch:=omega) only [go_sem,seval];refine Z3 [] [1,2,3,6] (fun k:Nat=> [(7,.sl 2 0 (List.replicate k (1000:Int)).length (List.replicate k (1000:Int)).length),(8,.p (.int .i64 k))]) (fun k=> [Yj t,Yj TR,.elems 1 ((List.replicate k (1000:Int)).map eI)]) (fun k=>k<=t.cap.length) (fun k=>t.cap.length-k) 0 Zb (Weak.mk ?_) ?_
  ·simp (disch:=omega) only [Yj,TR,go_sem,seval]
  ·intro k hk
   have hlr:(List.replicate k (1000:Int)).length=k:=Zb
   have hsn:List.replicate (k+1) (1000:Int)=List.replicate k (1000:Int)++ [1000]:=by rw [E7]
   generalize hm:List.replicate k (1000:Int)=m at hlr hsn ⊢;simp (disch:=omega) only [Yj,TR,go_sem,seval];refine cD ?_ ?_<;>intro h<;>simp (disch:=omega) only [Sh.out h,go_sem,seval]
   ·exact ⟨k+1,Za,Za,Weak.mk (by rw [hsn];simp (disch:=omega) only [Yj,TR,go_sem,seval])⟩
   ·have hk2:k=t.cap.length:=Za
    subst hk2;subst hm;refine Zp (Weak.fz (o:=2) (by rfl)) ?_;refine Zh [] _ _ _ _ ?_;simp (disch:=omega) only [Zt,Zk,ZQ,ZG,go_sem,seval]
    by_cases h7:(⟨7,a⟩:Itm)∈w<;>by_cases h8:(⟨8,a⟩:Itm)∈w<;>by_cases h9:(⟨9,a⟩:Itm)∈w
    all_goals
     refine (XX w d ⟨7,a⟩ hw).use ?_;simp (disch:=omega) only [n7,h7,go_sem,seval];refine (XX w d ⟨8,a⟩ hw).use ?_;simp (disch:=omega) only [n8,h8,go_sem,seval];refine (XX w d ⟨9,a⟩ hw).use ?_;simp (disch:=omega) only [n9,h9,Y8,h3,h7,h8,go_sem,seval]
 ·simp (disch:=omega) only [Tryz.f82,go_sem,seval];refine (XX w d ⟨3,a⟩ hw).use ?_;simp (disch:=omega) only [n3,h3,go_sem,seval];refine Zh [] _ _ _ _ ?_;simp (disch:=omega) only [go_sem,seval]
  by_cases h7:(⟨7,a⟩:Itm)∈w<;>by_cases h8:(⟨8,a⟩:Itm)∈w<;>by_cases h9:(⟨9,a⟩:Itm)∈w
  all_goals
   refine (XX w d ⟨7,a⟩ hw).use ?_;simp (disch:=omega) only [n7,h7,go_sem,seval];refine (XX w d ⟨8,a⟩ hw).use ?_;simp (disch:=omega) only [n8,h8,go_sem,seval];refine (XX w d ⟨9,a⟩ hw).use ?_;simp (disch:=omega) only [n9,h9,Y8,h3,h7,h8,go_sem,seval]
theorem OQ {l:List Itm} {k:Nat} (hk:k<l.length):Mu l (nth l k)=(k:Int)↔nth l k ∉ l.take k:=by
 constructor
 ·intro h hm;obtain ⟨j,hj,e⟩:=ZU.1 hm
  have hj2:j<k:=by simp at hj;omega
  have hjl:j<l.length:=Za
  rw [List.getElem_take] at e;unfold Mu at h
  cases hf:l.findIdx? (fun w=>decide (nth l k=w)) with
  | none=>rw [hf] at h;simp only at h;omega
  | some i =>
   rw [hf] at h
   have hik:i=k:=by simp only at h;omega
   subst hik;rw [V9] at hf;obtain ⟨_,_,h3⟩:=hf;exact h3 j hj2 (by simp [e])
 ·intro h;refine RO hk rfl fun j hj e=>h ?_;rw [e,Zi (show j<l.length by omega)];exact ZU.2 ⟨j,by simp;omega,Zb⟩
theorem Mn (x:Inst) (hs:ISz x) (hcap: ∀t∈x.types,t.cap.length<=1048576) (l:List Itm) (c:Bool) (hl:l.length<=1048576):PT 45 [.p (Zs x),.p (.list c (l.map Xn))] [.p (Zs (Bj x l)),.p (.int .i64 (YW x l))]:=by
 have s1:=hs.ord;have s2:=hs.typ;have s3:=hs.ap;have s4:=hs.be;refine Ze [9,13,17] Tryz.func45 rfl Zjs ?_;simp (disch:=omega) only [Tryz.f45,go_sem,seval];have zI:Zs zeroI= .agg [.list true [],.list true [],.list true [],.list true [],.list true [],.list true []]:=rfl;refine Zl [1,2,4] (fun k:Nat=> [(6,.p (.int .i64 k))]) (fun _=> [Zf x,Zf zeroI]) (fun k=>k<=l.length/\ ∀j,j<k->Yq x l j=0) (fun k=>l.length-k) 0 Zb (Weak.mk ?_) ?_
 ·simp (disch:=omega) only [Zf,zeroI,Zk,go_sem,seval]
 ·rintro k ⟨hk,hno⟩;simp (disch:=omega) only [Zf,zeroI,Zk,go_sem,seval];refine cD ?_ ?_<;>intro h<;>simp (disch:=omega) only [Sh.out h,go_sem,seval]
  ·have hk2:k<l.length:=Za
   refine Xj ?_;simp (disch:=omega) only [go_sem,seval];refine Zo (GL x hs (nth l k)) ?_;simp (disch:=omega) only [go_sem,seval];refine cD ?_ ?_<;>intro h2<;>simp (disch:=omega) only [Sh.out h2,go_sem,seval]
   ·have h3:XI x (nth l k)=false:=by simpa using h2
    have e0:Yq x l k=7:=by rw [Yq,h3];rfl
    have e:YW x l=7:=by rw [U2 hk2 hno (by rw [e0];decide),e0]
    have r:Bj x l=zeroI:=by rw [Bj,e];rfl
    simp only [e,r,zeroI,Zk];exact we
   ·have h3:XI x (nth l k)=true:=by simpa using h2
    refine (XX l c (nth l k) hl).use ?_;simp (disch:=omega) only [go_sem,seval];refine cD ?_ ?_<;>intro h4<;>simp (disch:=omega) only [Sh.out h4,go_sem,seval]
    ·have h5:nth l k∈l.take k:=Je fun h=>h4 ((OQ hk2).2 h)
     have e0:Yq x l k=6:=by rw [Yq,if_pos h3,if_pos h5]
     have e:YW x l=6:=by rw [U2 hk2 hno (by rw [e0];decide),e0]
     have r:Bj x l=zeroI:=by rw [Bj,e];rfl
     simp only [e,r,zeroI,Zk];exact we
    ·have h5:nth l k ∉ l.take k:=(OQ hk2).1 (Z1.1 h4);exact ⟨k+1,⟨Za,Zr.2 ⟨hno,WN.2 ⟨h3,h5⟩⟩⟩,Za,Weak.mk (by simp (disch:=omega) only [Zf,zeroI,Zk,go_sem,seval])⟩
  ·have hkl:k=l.length:=Za
   subst hkl;have e:YW x l=0:=Ck hno
   have r:Bj x l=Zn x l:=by rw [Bj,if_pos e]
   rw [e,r];clear hk h;refine Pq 11 12 _ [.cells [.p (.list true []),.p (.list true []),.p (.list true []),.p (.list true []),.p (.list true []),.p (.list true [])]] (.ptr 2 0) mixed Zg Zg (by decide) rfl rfl Zb (fun fr'=>by simp (disch:=omega) only [go_sem,seval]) ?_;simp (disch:=omega) only [go_sem,seval];refine Zo (GO x.apart l 5 x.apart_c c Za hl) ?_;simp (disch:=omega) only [go_sem,seval];refine Zo (GO x.before l 6 x.before_c c Za hl) ?_;simp (disch:=omega) only [go_sem,seval];refine Zp (Weak.nilC (o:=2) (j:=3) 16 rfl rfl Zb) ?_
   refine Zh [13,17] _ _ _ _ ?_;simp (disch:=omega) only [ZQ,ZG,ZR,ZH,go_sem,seval];obtain ⟨os,hos⟩: ∃os,os=Z6 x.orders l:=⟨_,rfl⟩
   have hol:os.length=x.orders.length:=by rw [hos,YI]
   refine Z3 [] [1,2,4,7] (fun q:Nat×List Ord=> [(8,.p (.int .i64 q.1))]) (fun q=> [Zf x,Zf zeroI,.cells [.p (.list x.net.places_c (x.net.places.map eS)),.p (.list x.net.arcs_c (x.net.arcs.map V1)),.p (.list true []),.sl 3 0 q.2.length q.2.length,.p (.list false ((Xc x.apart l 5 x.apart.length).map eP)),.p (.list false ((Xc x.before l 6 x.before.length).map eP))],.elems 16 (q.2.map eOrd)]) (fun q=>q.1<=x.orders.length/\q.2=os.take q.1) (fun q=>x.orders.length-q.1) (0,[]) ⟨Zb,Zb⟩ (Weak.mk ?_) ?_
   ·simp (disch:=omega) only [Zf,zeroI,Zk,go_sem,seval]
   ·rintro ⟨k,m⟩ ⟨hk,hm⟩;simp only at hk hm
    have hml:m.length=k:=by rw [hm,Xd];omega
    simp (disch:=omega) only [Zf,zeroI,Zk,go_sem,seval];refine cD ?_ ?_<;>intro h<;>simp (disch:=omega) only [Sh.out h,go_sem,seval]
    ·have hk2:k<x.orders.length:=Za
     have htk:os.take (k+1)=os.take k++ [Ws (nth x.orders k) k l]:=by
      rw [X3 Za]
      congr 2
      rw [<- Zi Za,hos,ZW hk2]
     refine ZF 11 mixed Zg Zg ?_;simp (disch:=omega) only [go_sem,seval];refine Zo (Mg (nth x.orders k) k l c hl) ?_;simp (disch:=omega) only [go_sem,seval];exact ⟨(k+1,m++ [Ws (nth x.orders k) k l]),⟨by simp only;omega,by simp only;rw [htk,hm]⟩,by simp only;omega,Weak.mk (by simp (disch:=omega) only [Zf,zeroI,Zk,go_sem,seval])⟩
    ·have hkl:k=x.orders.length:=Za
     have hmo:m=os:=by rw [hm,hkl,<- hol,X1]
     subst hmo;clear hm hk h;refine Zp (Weak.nilC (o:=2) (j:=2) 14 rfl rfl Zb) ?_;refine Zh [17] _ _ _ _ ?_;simp (disch:=omega) only [ZQ,ZG,ZR,ZH,go_sem,seval];obtain ⟨ts,hts⟩: ∃ts,ts=Z9 x.types l:=⟨_,rfl⟩
     have htl:ts.length=x.types.length:=by rw [hts,Ww]
     refine Z3 [] [1,2,4,7] (fun q:Nat×List Typ=> [(9,.p (.int .i64 q.1))]) (fun q=> [Zf x,Zf zeroI,.cells [.p (.list x.net.places_c (x.net.places.map eS)),.p (.list x.net.arcs_c (x.net.arcs.map V1)),.sl 4 0 q.2.length q.2.length,.sl 3 0 m.length m.length,.p (.list false ((Xc x.apart l 5 x.apart.length).map eP)),.p (.list false ((Xc x.before l 6 x.before.length).map eP))],.elems 16 (m.map eOrd),.elems 14 (q.2.map X7)]) (fun q=>q.1<=x.types.length/\q.2=ts.take q.1) (fun q=>x.types.length-q.1) (0,[]) ⟨Zb,Zb⟩ (Weak.mk ?_) ?_
     ·simp (disch:=omega) only [Zf,zeroI,Zk,go_sem,seval]
     ·rintro ⟨i,n⟩ ⟨hi,hn⟩;simp only at hi hn
      have hnl:n.length=i:=by rw [hn,Xd];omega
      simp (disch:=omega) only [Zf,zeroI,Zk,go_sem,seval];refine cD ?_ ?_<;>intro h<;>simp (disch:=omega) only [Sh.out h,go_sem,seval]
      ·have hi2:i<x.types.length:=Za
       have htk:ts.take (i+1)=ts.take i++ [Y8 (nth x.types i) i l]:=by
        rw [X3 Za]
        congr 2
        rw [<- Zi Za,hts,YJ hi2]
       refine ZF 11 mixed Zg Zg ?_;simp (disch:=omega) only [go_sem,seval];refine Zo (Oq (nth x.types i) i l c hl (hcap _ (Zu hi2))) ?_;simp (disch:=omega) only [go_sem,seval];exact ⟨(i+1,n++ [Y8 (nth x.types i) i l]),⟨by simp only;omega,by simp only;rw [htk,hn]⟩,by simp only;omega,Weak.mk (by simp (disch:=omega) only [Zf,zeroI,Zk,go_sem,seval])⟩
      ·have hin:i=x.types.length:=Za
       have hnt:n=ts:=by rw [hn,hin,<- htl,X1]
       subst hnt;clear hn hi h;refine Zp (Weak.fz (o:=3) (by rfl)) ?_;refine Zp (Weak.fz (o:=4) (by rfl)) ?_;refine Zh [] _ _ _ _ ?_;simp (disch:=omega) only [Zt,Zk,ZQ,ZG,go_sem,seval];exact we (by simp (disch:=omega) only [Zn,hos,hts,go_sem,seval])
theorem Ge {q:List (Int×Int)} {w:List Itm} {kind:Int} (h: ∀v∈w,v.kind≠kind): ∀k,k<=q.length->Xc q w kind k=q.take k
 | 0,_=>by simp [Xc]
 | k+1,hk=>by
  rw [Yg,Ge h k Za,if_neg (fun hm=>h _ hm rfl),X3 Za,Zi Za]
theorem NJ {q:List (Int×Int)} {w:List Itm} {kind:Int} (h: ∀v∈w,v.kind≠kind):Xc q w kind q.length=q:=by
 rw [Ge h _ (Zy _),X1]
theorem Ds (x:Inst):Zn x []= { x with types_c:=false,orders_c:=false,apart_c:=false,before_c:=false } :=by
 simp only [Zn,IP,Is];rw [NJ Zb,NJ Zb]
theorem bK {x:Inst} {l1:List Itm} {v:Itm} (hv:v.kind≠5/\v.kind≠6/\v.kind≠4/\v.kind≠10) (h:XI x v=true):XI (Zn x l1) v=true:=by
 obtain ⟨k,a⟩:=v;simp only at hv
 by_cases h1:k=1\/k=2\/k=4\/k=10
 ·rw [JA h1] at h ⊢;obtain ⟨q1,q2⟩:=h;simp only [Vl,Zv,Zq,XN] at q1
  have hi:a.toNat<x.orders.length:=Za
  have e:nth (Zn x l1).orders a.toNat=Ws (nth x.orders a.toNat) (a.toNat:Nat) l1:=ZW hi;refine ⟨?_,?_⟩
  ·simp only [Vl,Zv,Zq,XN,e];refine ⟨⟨q1.1.1,?_⟩,q1.2⟩
   show a<((Z6 x.orders l1).length:Int)
   rw [YI];exact q1.1.2
  ·rw [e];rcases h1 with rfl | rfl | rfl | rfl
   ·exact q2
   ·exact q2
   ·simp at hv
   ·simp at hv
 ·by_cases h2:k=3\/k=7\/k=8\/k=9
  ·simp only [XI] at h ⊢;rw [if_neg h1,if_pos h2] at h ⊢
   show (decide (0<=a)&&decide (a<((Z9 x.types l1).length:Int)))=true
   rw [Ww];exact h
  ·simp only [XI] at h;rw [if_neg h1,if_neg h2,if_neg hv.1,if_neg hv.2.1] at h
   cases h
theorem H8 {l:List (Int×Int)} {w:List Itm} {kind:Int} {k:Nat} : ∀m,k<=m-> ∃r,Xc l w kind m=Xc l w kind k++r
 | 0,h=>⟨[],by rw [Nat.le_zero.1 h];simp⟩
 | m+1,h=>by
  rcases Wm k (m+1) with h1 | h1
  ·obtain ⟨r,hr⟩:=H8 (l:=l) (w:=w) (kind:=kind) (k:=k) m Za;exact ⟨r++if (⟨kind,m⟩:Itm)∈w then [] else [nth l m],by rw [Yg,hr,Vq]⟩
  ·obtain rfl:k=m+1:=Za
   exact ⟨[],Zb⟩
def GM (l:List (Int×Int)) (w:List Itm) (kind:Int) (a:Nat):Nat:=(Xc l w kind a).length
theorem Mf {l:List (Int×Int)} {w:List Itm} {kind:Int} {a n:Nat} (h:a<n) (hn:(⟨kind,a⟩:Itm) ∉ w):GM l w kind a<(Xc l w kind n).length/\nth (Xc l w kind n) (GM l w kind a)=nth l a:=by
 obtain ⟨r,hr⟩:=H8 (l:=l) (w:=w) (kind:=kind) n (show a+1<=n by omega);rw [Yg,if_neg hn] at hr;rw [hr];refine ⟨by simp [GM],?_⟩;unfold nth GM;simp [Qo]
theorem Om {l:List (Int×Int)} {w:List Itm} {kind:Int} {a b:Nat} (h:a<b) (hn:(⟨kind,a⟩:Itm) ∉ w):GM l w kind a<GM l w kind b:=(Mf h hn).1
theorem DL {l:List (Int×Int)} {L L' M:List Itm} {kind:Int} (hs: ∀v∈L,v∈L') (hM: ∀a:Nat,a<l.length->(⟨kind,a⟩:Itm) ∉ L->((⟨kind,GM l L kind a⟩:Itm)∈M↔(⟨kind,a⟩:Itm)∈L')) :
  ∀k,k<=l.length->Xc (Xc l L kind l.length) M kind (GM l L kind k)=Xc l L' kind k
 | 0,_=>by simp [GM,Xc]
 | k+1,h=>by
  have ih:=DL hs hM k Za
  by_cases h1:(⟨kind,k⟩:Itm)∈L
  ·have e:GM l L kind (k+1)=GM l L kind k:=by unfold GM;rw [Yg,if_pos h1,Yp]
   rw [e,ih,Yg,if_pos (hs _ h1),Yp]
  ·have e:GM l L kind (k+1)=GM l L kind k+1:=by unfold GM;rw [Yg,if_neg h1,ZA];rfl
   rw [e,Yg,ih,Yg,(Mf (show k<l.length by omega) h1).2]
   by_cases h2:(⟨kind,k⟩:Itm)∈L'
   ·rw [if_pos h2,if_pos ((hM k Za h1).2 h2)]
   ·rw [if_neg h2,if_neg fun g=>h2 ((hM k Za h1).1 g)]
def qL (x:Inst) (L:List Itm) (v:Itm):Itm:=⟨v.kind,if v.kind=5 then (GM x.apart L 5 v.a.toNat:Nat) else if v.kind=6 then (GM x.before L 6 v.a.toNat:Nat) else v.a⟩
def U1 (x:Inst) (L L':List Itm):List Itm:=(L'.filter fun v=>decide (v ∉ L)).map (qL x L)
theorem CP {x:Inst} {L L':List Itm} {w:Itm} :w∈U1 x L L'↔ ∃v,v∈L'/\v ∉ L/\qL x L v=w:=by
 simp only [U1,XH,Jk,Zq,QS]
theorem oE {x:Inst} {L:List Itm} {v:Itm} (h:v.kind≠5/\v.kind≠6):qL x L v=v:=by
 rw [qL,if_neg h.1,if_neg h.2]
theorem jI {x:Inst} {L L':List Itm} {k a:Int} (hs: ∀v∈L,v∈L') (h:k≠5/\k≠6):(⟨k,a⟩:Itm)∈L++U1 x L L'↔(⟨k,a⟩:Itm)∈L':=by
 rw [Xe,CP]
 constructor
 ·rintro (h1 | ⟨v,h1,h2,h3⟩)
  ·exact hs _ h1
  ·have hk:v.kind=k:=ZS Itm.kind h3;rw [oE (by rw [hk];exact h)] at h3;exact h3 ▸ h1
 ·intro h1
  by_cases h2:(⟨k,a⟩:Itm)∈L
  ·exact .inl h2
  ·exact .inr ⟨_,h1,h2,oE h⟩
theorem AB {x:Inst} {v:Itm} (h:XI x v=true):(v.kind=5->0<=v.a/\v.a<(x.apart.length:Int))/\(v.kind=6->0<=v.a/\v.a<(x.before.length:Int)):=by
 unfold XI at h
 constructor
 ·intro e;rw [if_neg Za,if_neg Za,if_pos e] at h;simp only [Zv,Zq] at h;exact h.1.1
 ·intro e;rw [if_neg Za,if_neg Za,if_neg Za,if_pos e] at h;simp only [Zv,Zq] at h;exact h.1
theorem Tt {l:List (Int×Int)} {w:List Itm} {kind:Int} {a b:Nat} (ha:(⟨kind,a⟩:Itm) ∉ w) (hb:(⟨kind,b⟩:Itm) ∉ w) (h:GM l w kind a=GM l w kind b):a=b:=by
 rcases Nat.lt_trichotomy a b with h1 | h1 | h1
 ·have:=Om (l:=l) h1 ha;omega
 ·exact h1
 ·have:=Om (l:=l) h1 hb;omega
theorem AD {v:Itm} (h:0<=v.a):(⟨v.kind,(v.a.toNat:Nat)⟩:Itm)=v:=XL.2 ⟨rfl,by simp only;omega⟩
theorem MB {x:Inst} {L L':List Itm} (hs: ∀v∈L,v∈L') (hI: ∀v∈L',XI x v=true):Zn (Zn x L) (U1 x L L')=Zn x L':=by
 have e1: ∀o a,Ws (Ws o a L) a (U1 x L L')=Ws o a L':=fun o a=>by
  have q:=fun k (hk:k≠5/\k≠6)=>jI (x:=x) (a:=a) hs hk;simp only [Xe] at q;simp only [Ws]
  congr 1
  ·congr 1;have:=q 1 (by decide);by_cases q1:(⟨1,a⟩:Itm)∈L<;>by_cases q2:(⟨1,a⟩:Itm)∈U1 x L L'<;>simp_all
  ·congr 1;have:=q 2 (by decide);by_cases q1:(⟨2,a⟩:Itm)∈L<;>by_cases q2:(⟨2,a⟩:Itm)∈U1 x L L'<;>simp_all
  ·have:=q 4 (by decide);by_cases q1:(⟨4,a⟩:Itm)∈L<;>by_cases q2:(⟨4,a⟩:Itm)∈U1 x L L'<;>simp_all
  ·have:=q 10 (by decide);by_cases q1:(⟨10,a⟩:Itm)∈L<;>by_cases q2:(⟨10,a⟩:Itm)∈U1 x L L'<;>simp_all
 have e2: ∀t a,Y8 (Y8 t a L) a (U1 x L L')=Y8 t a L':=fun t a=>by
  have hcl:=Qb t a L;have q:=fun k (hk:k≠5/\k≠6)=>jI (x:=x) (a:=a) hs hk;simp only [Xe] at q;simp only [Y8] at hcl ⊢
  congr 1
  ·have:=q 9 (by decide);by_cases q1:(⟨9,a⟩:Itm)∈L<;>by_cases q2:(⟨9,a⟩:Itm)∈U1 x L L'<;>simp_all
  ·have:=q 3 (by decide);by_cases q1:(⟨3,a⟩:Itm)∈L<;>by_cases q2:(⟨3,a⟩:Itm)∈U1 x L L'<;>simp_all
  ·have:=q 3 (by decide);by_cases q1:(⟨3,a⟩:Itm)∈L<;>by_cases q2:(⟨3,a⟩:Itm)∈U1 x L L'<;>simp_all
  ·have:=q 7 (by decide);by_cases q1:(⟨7,a⟩:Itm)∈L<;>by_cases q2:(⟨7,a⟩:Itm)∈U1 x L L'<;>simp_all
  ·have:=q 8 (by decide);by_cases q1:(⟨8,a⟩:Itm)∈L<;>by_cases q2:(⟨8,a⟩:Itm)∈U1 x L L'<;>simp_all
 have e3:Z6 (Z6 x.orders L) (U1 x L L')=Z6 x.orders L':=by
  refine Uc (by simp [Z6]) fun i h3 h4=> ?_
  have hi:i<x.orders.length:=by simpa [Z6] using h4
  rw [<- Zi h3,<- Zi h4,ZW (by rw [YI];exact hi),ZW hi,ZW hi,e1]
 have e4:Z9 (Z9 x.types L) (U1 x L L')=Z9 x.types L':=by
  refine Uc (by simp [Z9]) fun i h3 h4=> ?_
  have hi:i<x.types.length:=by simpa [Z9] using h4
  rw [<- Zi h3,<- Zi h4,YJ (by rw [Ww];exact hi),YJ hi,YJ hi,e2]
 have e5:Xc (Xc x.apart L 5 x.apart.length) (U1 x L L') 5 (Xc x.apart L 5 x.apart.length).length=Xc x.apart L' 5 x.apart.length:=by
  refine DL hs (fun a ha hn=> ?_) x.apart.length (Zy _);rw [CP]
  constructor
  ·rintro ⟨v,h1,h2,h3⟩;have hk:v.kind=5:=ZS Itm.kind h3;have hp:=(AB (hI v h1)).1 hk;have hv:=AD hp.1;rw [hk] at hv;rw [qL,if_pos hk] at h3
   have h4:GM x.apart L 5 v.a.toNat=GM x.apart L 5 a:=by have:=ZS Itm.a h3;simp only at this;omega
   have:=Tt (by rw [hv];exact h2) hn h4;rw [<- this,hv];exact h1
  ·intro h1;exact ⟨_,h1,hn,by simp [qL]⟩
 have e6:Xc (Xc x.before L 6 x.before.length) (U1 x L L') 6 (Xc x.before L 6 x.before.length).length=Xc x.before L' 6 x.before.length:=by
  refine DL hs (fun a ha hn=> ?_) x.before.length (Zy _);rw [CP]
  constructor
  ·rintro ⟨v,h1,h2,h3⟩;have hk:v.kind=6:=ZS Itm.kind h3;have hp:=(AB (hI v h1)).2 hk;have hv:=AD hp.1;rw [hk] at hv;rw [qL,if_neg Za,if_pos hk] at h3
   have h4:GM x.before L 6 v.a.toNat=GM x.before L 6 a:=by have:=ZS Itm.a h3;simp only at this;omega
   have:=Tt (by rw [hv];exact h2) hn h4;rw [<- this,hv];exact h1
  ·intro h1;exact ⟨_,h1,hn,by simp [qL]⟩
 show (⟨x.net,false,Z9 (Z9 x.types L) (U1 x L L'),false,Z6 (Z6 x.orders L) (U1 x L L'),false,Xc (Xc x.apart L 5 x.apart.length) (U1 x L L') 5 (Xc x.apart L 5 x.apart.length).length,false,Xc (Xc x.before L 6 x.before.length) (U1 x L L') 6 (Xc x.before L 6 x.before.length).length⟩:Inst)=⟨x.net,false,Z9 x.types L',false,Z6 x.orders L',false,Xc x.apart L' 5 x.apart.length,false,Xc x.before L' 6 x.before.length⟩
 rw [e3,e4,e5,e6]
theorem Ph {x:Inst} {L:List Itm} {i:Int} :Vl (Zn x L) i=Vl x i:=by
 unfold Vl;rw [show (Zn x L).orders=Z6 x.orders L from rfl,YI]
 by_cases h:0<=i/\i<(x.orders.length:Int)
 ·rw [ZW Za];rfl
 ·by_cases h1:0<=i
  ·rw [Vs (show ¬i<(x.orders.length:Int) by omega)];simp
  ·rw [Vs h1];simp
theorem kS {x:Inst} {L L':List Itm} (hI: ∀v∈L',XI x v=true): ∀w∈U1 x L L',XI (Zn x L) w=true:=fun w hw=>by
 obtain ⟨v,h1,h2,rfl⟩:=CP.1 hw;have h:=hI v h1
 by_cases k5:v.kind=5
 ·obtain ⟨p1,p2⟩:=(AB h).1 k5;have hv:=AD p1;rw [k5] at hv;obtain ⟨r1,r2⟩:=Mf (l:=x.apart) (w:=L) (kind:=5) (show v.a.toNat<x.apart.length by omega) (by rw [hv];exact h2);unfold XI at h ⊢;simp only [qL,k5] at h ⊢;simp only [show ¬((5:Int)=1\/(5:Int)=2\/(5:Int)=4\/(5:Int)=10) by decide,show ¬((5:Int)=3\/(5:Int)=7\/(5:Int)=8\/(5:Int)=9) by decide,if_true,Yb,Zv,Zq,XD,Ph] at h ⊢;rw [show (Zn x L).apart=Xc x.apart L 5 x.apart.length from rfl,r2];exact ⟨⟨⟨Za,Za⟩,h.1.2⟩,h.2⟩
 ·by_cases k6:v.kind=6
  ·obtain ⟨p1,p2⟩:=(AB h).2 k6;have hv:=AD p1;rw [k6] at hv;obtain ⟨r1,r2⟩:=Mf (l:=x.before) (w:=L) (kind:=6) (show v.a.toNat<x.before.length by omega) (by rw [hv];exact h2);unfold XI at h ⊢;simp only [qL,k6] at h ⊢;simp only [show ¬((6:Int)=1\/(6:Int)=2\/(6:Int)=4\/(6:Int)=10) by decide,show ¬((6:Int)=3\/(6:Int)=7\/(6:Int)=8\/(6:Int)=9) by decide,show ¬(6:Int)=5 by decide,if_true,Yb,Zv,Zq,XD,Ph] at h ⊢;rw [show (Zn x L).before=Xc x.before L 6 x.before.length from rfl,r2]
   exact ⟨⟨Za,Za⟩,h.2⟩
  ·rw [oE ⟨k5,k6⟩]
   by_cases k4:v.kind=4\/v.kind=10
   ·obtain ⟨k,a⟩:=v;simp only at k4 k5 k6
    have hk:k=1\/k=2\/k=4\/k=10:=Za
    rw [JA hk] at h ⊢;rw [Ph];refine ⟨h.1,?_⟩;have ha:=h.1;simp only [Vl,Zv,Zq] at ha;have ho:=h.2;rw [show (Zn x L).orders=Z6 x.orders L from rfl,ZW (show a.toNat<x.orders.length by omega),show ((a.toNat:Nat):Int)=a by omega];rcases k4 with rfl | rfl
    ·simp only [K7,Ws,if_neg h2] at ho ⊢;exact ho
    ·simp only [K7,Ws,if_neg h2] at ho ⊢;exact ho
   ·exact bK ⟨k5,k6,Za,Za⟩ h
theorem N0 {α:Type} [Inhabited α] {l:List α} {i:Nat} (h: ¬i<l.length):nth l i=default:=by simp [nth,Qo,List.getElem?_eq_none (Nat.le_of_not_lt h)]
theorem Zep {os:List Ord} {l:List Itm} (i:Nat):ZV (Z6 os l) i=ZV os i:=by
 unfold ZV
 by_cases h:i<os.length
 ·rw [ZW h];rfl
 ·rw [N0 h,N0 (by rw [YI];exact h)]
theorem OE {x:Inst} {l:List Itm} {v:List Vis} (h:Xf x v=0):Xf (Zn x l) v=0:=by
 have hsub1:=Ka x.apart l 5;have hsub2:=Ka x.before l 6
 have e1:v.any (WJ (Zn x l))=v.any (WJ x):=by
  congr 1;funext w;simp [WJ,Zn,YI]
 unfold Xf at h ⊢;rw [e1]
 split at h
 ·simp at h
 ·rename_i c1;rw [if_neg c1]
  have hin: ∀w∈v,w.order.toNat<x.orders.length:=fun w hw=>by
   have h5: ¬(v.any (WJ x))=true:=fun e=>c1 (.inr e)
   have h6:WJ x w=false:=by
    cases hb:WJ x w with
    | false=>rfl
    | true=>exact absurd (Wl.2 ⟨w,hw,hb⟩) h5
   simp [WJ] at h6;omega
  have e2:(v.any fun w=>(nth (Zn x l).orders w.order.toNat).off)=v.any fun w=>(nth x.orders w.order.toNat).off:=by
   rw [Wz,Wl,Wl]
   constructor
   ·rintro ⟨w,hw,h⟩;exact ⟨w,hw,by rw [show (Zn x l).orders=Z6 x.orders l from rfl,ZW (hin w hw)] at h;exact h⟩
   ·rintro ⟨w,hw,h⟩;exact ⟨w,hw,by rw [show (Zn x l).orders=Z6 x.orders l from rfl,ZW (hin w hw)];exact h⟩
  rw [e2]
  split at h
  ·simp at h
  ·rename_i c2;rw [if_neg c2]
   split at h
   ·simp at h
   ·rename_i c3;rw [if_neg c3]
    have e3:v.all (pairB (Zn x l).orders v)=v.all (pairB x.orders v):=by
     congr 1;funext w;simp only [pairB];rw [show (Zn x l).orders=Z6 x.orders l from rfl,Zep]
    rw [e3]
    split at h
    ·simp at h
    ·rename_i c4;rw [if_neg c4]
     split at h
     ·simp at h
     ·rename_i c5
      have c5': ¬((Zn x l).apart.any fun p=>hasO v p.1&&hasO v p.2)=true:=fun hh=>by
       obtain ⟨p,hp,hb⟩:=Wl.1 hh;exact c5 (Wl.2 ⟨p,hsub1.subset hp,hb⟩)
      rw [if_neg c5']
      split at h
      ·simp at h
      ·rename_i c6;rw [if_neg];intro hh;refine c6 ?_
       obtain ⟨p,hp,hb⟩:=Wl.1 hh;exact Wl.2 ⟨p,hsub2.subset hp,hb⟩
structure WkT (t t':Typ) (sp sp':List Stp):Prop where
 len:sp'.length=sp.length
 cls:t.cls<=t'.cls
 drv:t.drive<=t'.drive
 rst:t'.rest=t.rest
 src:t'.src=t.src
 dst:t'.dst=t.dst
 prf:t'.prof=t.prof
 opn:t'.opn=t.opn
 stp: ∀k,k<sp.length-> ∃c,(nth sp k).cls<=c/\nth sp' k= { nth sp k with cls:=c }
theorem cP {x y:Inst} {t t' sp sp' k L b} (hn:y.net=x.net) (h:WkT t t' sp sp') (hk:k<=sp.length) (he:(nxtF x t sp k L b).2=0):nxtF y t' sp' k L b=nxtF x t sp k L b:=by
 have hplc: ∀k,k<=sp.length->Ug t' sp' k=Ug t sp k:=fun k hk=>by
  unfold Ug
  split
  ·exact h.src
  ·obtain ⟨c,_,e⟩:=h.stp (k-1) Za;rw [e]
 have hto:Pa t' sp' k=Pa t sp k:=by
  unfold Pa;rw [h.len]
  split
  ·exact h.dst
  ·obtain ⟨c,_,e⟩:=h.stp k Za;rw [e]
 have hd:ZN t' L b=ZN t L b:=by simp [ZN,h.rst]
 unfold nxtF at he ⊢
 have hg:Y9 y t' sp' k (ZN t' L b)=Y9 x t sp k (ZN t L b):=by rw [Y9,Y9,hn,h.prf,hplc k hk,hto,hd]
 rw [hg,hd];have h1:=h.cls;have h2:=h.drv;unfold WL at he ⊢;rw [h.len]
 split at he
 ·simp at he
 ·rename_i c1;rw [if_neg c1,if_neg c1]
  split at he
  ·rename_i c2;rw [if_pos c2,if_pos c2]
   split at he
   ·simp at he
   ·rename_i c3
    split at he
    ·simp at he
    ·rename_i c4;rw [if_neg c3,if_neg c4,if_neg Za,if_neg Za]
  ·rename_i c2;rw [if_neg c2,if_neg c2];obtain ⟨c,hc,e⟩:=h.stp k Za
   split at he
   ·simp at he
   ·rename_i c3
    split at he
    ·simp at he
    ·rename_i c4;rw [if_neg c3,if_neg c4,e,if_neg (by simp only;omega),if_neg Za]
theorem D5 {x y:Inst} {t t' sp sp'} (hn:y.net=x.net) (h:WkT t t' sp sp'): ∀(bs:List Bool) (k:Nat) (L z:Lab),k+bs.length<=sp.length+1->Wd (Xt x t sp) k L bs=some z->Wd (Xt y t' sp') k L bs=some z
 | [],k,L,z,_,e=>e
 | b::bs,k,L,z,hk,e=>by
  simp at hk;rw [Wd] at e ⊢;unfold Xt at e ⊢
  by_cases c:(nxtF x t sp k L b).2=0
  ·rw [cP hn h Za c];rw [if_pos c] at e ⊢;exact D5 hn h bs (k+1) _ z Za e
  ·rw [if_neg c] at e;cases e
theorem kF {fin:Lab->Int} : ∀ {l:List Lab},Va fin none l=none↔l= []
 | []=>by simp [Va]
 | a::l=>by
  rw [Va];obtain ⟨z,e,_⟩:=VK fin l a;rw [e];simp
theorem Py {x t sp st r} :(Yf x t sp st r).2=0↔ ∃bs∈XE r (sp.length+1),∃z,Wd (Xt x t sp) 0 (labF t st) bs=some z:=by
 unfold Yf
 cases hf:Va Wq none ((XE r (sp.length+1)).filterMap (Wd (Xt x t sp) 0 (labF t st))) with
 | some L =>
  simp only [true_iff];have:=bestF_len.fmL_mem _ _ hf;obtain ⟨bs,hbs,hrun⟩:=Qp.1 this;exact ⟨bs,hbs,L,hrun⟩
 | none =>
  rw [kF] at hf;simp only
  constructor
  ·intro h
   have hm:YY r (sp.length+1)∈XE r (sp.length+1):=by
    unfold XE YY;rw [fromB_next];simp
   exact ⟨_,hm,_,by rw [YB,if_pos h]⟩
  ·rintro ⟨bs,hbs,z,hz⟩;have:z∈(XE r (sp.length+1)).filterMap (Wd (Xt x t sp) 0 (labF t st)):=Qp.2 ⟨bs,hbs,hz⟩;rw [hf] at this;simp at this
theorem Px {x y:Inst} {t t' sp sp'} {st:Int} {r:List Bool} (hn:y.net=x.net) (h:WkT t t' sp sp') (hr:r.length<=sp.length+1) (h0:(Yf x t sp st r).2=0):(Yf y t' sp' st r).2=0:=by
 rw [Py] at h0 ⊢;obtain ⟨bs,hbs,z,hz⟩:=h0;rw [h.len]
 have hl:bs.length=sp.length+1:=by
  obtain ⟨q,hq,rfl⟩:=XH.1 hbs;have:=bestF_len.fromB_len _ _ hq;simp at this;simp;omega
 have el:labF t' st=labF t st:=by simp [labF,h.opn]
 exact ⟨bs,hbs,z,by rw [el];exact D5 hn h bs 0 _ z Za hz⟩
theorem mS {x:Inst} {l:List Itm} {v:List Vis} {n i:Nat} (hi:i<x.orders.length):EJ (Zn x l) v n i=EJ x v n i:=by
 unfold EJ;rw [show (Zn x l).orders=Z6 x.orders l from rfl,ZW hi];rfl
theorem TZ {x:Inst} {l:List Itm} {v:List Vis} {n:Nat} :Y2 (Zn x l) v n=Y2 x v n:=by
 unfold Y2;rw [show (Zn x l).types=Z9 x.types l from rfl,J1];refine Wk fun j _=> ?_;unfold Dn;rw [show (Zn x l).orders.length=x.orders.length from YI _ _]
 congr 1
 refine Wk fun i hi=> ?_;have hi:=ZO.1 hi;rw [mS hi,show (Zn x l).orders=Z6 x.orders l from rfl,ZW hi];rfl
theorem bD {a c:List Int} :V2 a c=true↔a.length=c.length/\ ∀i,i<a.length->nth a i<=nth c i:=by
 simp [V2,ZD]
theorem eY {t:Typ} {a:Int} {l:List Itm} {b:List Int} (hc: ∀n∈t.cap,n<=1000) (h:V2 b t.cap=true):V2 b (Y8 t a l).cap=true:=by
 rw [bD] at h ⊢;refine ⟨by rw [Qb];exact h.1,fun i hi=> ?_⟩;have h1:=h.2 i hi;simp only [Y8]
 split
 ·have hlt:i<t.cap.length:=Za
  have h2:=hc _ (Zu hlt)
  have:nth (List.replicate t.cap.length (1000:Int)) i=1000:=by rw [Zi (by simpa using hlt)];simp
  omega
 ·exact h1
theorem Pe {t:Typ} {s:Int} (h:YK t s=true):YK t 0=true:=by
 simp [YK] at h ⊢;exact h.1.1
theorem bB {x:Inst} {l:List Itm} {r:Rte} (hx:InstOk x) (hI: ∀v∈l,XI x v=true) (h:Xq x r=0):Xq (Zn x l) r=0:=by
 unfold Xq at h ⊢
 have hr:XU x r=0:=by
  by_cases c:XU x r=0
  ·exact c
  ·rw [if_neg c] at h;exact h
 rw [if_pos hr] at h;unfold XU at hr
 split at hr
 ·simp at hr
 ·rename_i c1;have c1:0<=r.typ/\r.typ<(x.types.length:Int):=Z1.1 c1
  split at hr
  ·rename_i c2;exact absurd hr c2
  ·rename_i c2;have c2:Xf x r.visits=0:=Z1.1 c2;have hsq:=VW c2
   split at hr
   ·simp at hr
   ·rename_i c3
    split at hr
    ·simp at hr
    ·rename_i c4
     split at hr
     ·simp at hr
     ·rename_i c5;have c5:=Z1.1 c5
      have htl:r.typ.toNat<x.types.length:=Za
      have ety:Zx (Zn x l) r=Y8 (Zx x r) r.typ l:=by
       unfold Zx;rw [show (Zn x l).types=Z9 x.types l from rfl,YJ htl]
       congr 1;omega
      have hty:=hx.types.2 _ htl;have hlt:=TM (l:=l) htl hty;have htk:UE x.net x.types r.typ.toNat:=hty;unfold UE at htk;obtain ⟨⟨⟨⟨⟨⟨⟨⟨_,_⟩,_⟩,_⟩,hcap⟩,_⟩,hcl⟩,Ht⟩,_⟩:=htk;have hcap':=(DA.1 hcap).2.2
      have hsp: ∀w∈r.visits,∃c,(Xo x w).cls<=c/\Xo (Zn x l) w= { Xo x w with cls:=c } :=fun w hw=>by
       obtain ⟨w1,w2⟩:=hsq.inr w hw
       have hi:w.order.toNat<x.orders.length:=Za
       have hord:=hx.orders.2 _ hi;have hpk:=hord.pstp;have hdk:=hord.dstp;simp only [stpOk,Zq] at hpk hdk;unfold Xo;rw [show (Zn x l).orders=Z6 x.orders l from rfl,ZW hi]
       split
       ·simp only [Ws];refine ⟨_,?_,rfl⟩
        split
        ·omega
        ·exact YS _
       ·simp only [Ws];refine ⟨_,?_,rfl⟩
        split
        ·omega
        ·exact YS _
      have hw:WkT (Zx x r) (Zx (Zn x l) r) (ZK x r.visits) (ZK (Zn x l) r.visits):=by
       rw [ety];refine ⟨by simp [ZK],?_,?_,rfl,rfl,rfl,rfl,rfl,fun k hk=> ?_⟩
       ·simp only [Y8];split
        ·exact hcl.2
        ·exact YS _
       ·simp only [Y8];split
        ·have:=Ht.1;simp [rng] at this;exact this.2
        ·exact YS _
       ·simp [ZK] at hk
        have e: ∀y:Inst,nth (ZK y r.visits) k=Xo y (nth r.visits k):=fun y=>by
         rw [Zi (by simpa [ZK] using hk)];simp [ZK,Zi hk]
        rw [e,e];exact hsp _ (Zu hk)
      have hr':XU (Zn x l) r=0:=by
       unfold XU;rw [if_neg (by rw [show (Zn x l).types.length=x.types.length from Ww _ _];exact fun hh=>hh c1),if_neg (by rw [OE c2];simp)];rw [if_neg,if_neg,if_neg (fun hh=>hh c5)]
       ·have c4:Vz x (Zx x r).cap r.visits=true:=by simpa using c4
        have:Vz (Zn x l) (Zx (Zn x l) r).cap r.visits=true:=by
         unfold Vz at c4 ⊢;rw [ZD] at c4 ⊢;intro n hn;have:=c4 n hn;rw [TZ,ety];exact eY (fun m hm=>(hcap' m hm).2) this
        rw [this];simp
       ·intro hh;refine c3 ?_;obtain ⟨w,hw2,hb⟩:=Wl.1 hh;refine Wl.2 ⟨w,hw2,?_⟩;obtain ⟨w1,w2⟩:=hsq.inr w hw2
        have hi:w.order.toNat<x.orders.length:=Za
        rw [show (Zn x l).orders=Z6 x.orders l from rfl,ZW hi,ety] at hb
        cases ha:YK (Zx x r) (nth x.orders w.order.toNat).skills with
        | false=>rfl
        | true =>
         have e: ∀s,YK (Y8 (Zx x r) r.typ l) s=YK (Zx x r) s:=fun s=>rfl;rw [e] at hb;simp only [Ws] at hb
         split at hb
         ·rw [Pe ha] at hb;simp at hb
         ·rw [ha] at hb;simp at hb
      rw [if_pos hr'];exact Px (x:=x) (y:=Zn x l) (t:=Zx x r) (t':=Zx (Zn x l) r) (sp:=ZK x r.visits) (sp':=ZK (Zn x l) r.visits) rfl hw (by simp [ZK];exact c5.2.2) h
set_option maxRecDepth 60000
theorem L4 {α:Type} [Inhabited α] {l:List α} {i j:Nat} {a:α} (h:i<l.length):nth (l.set i a) j=if i=j then a else nth l j:=by
 grind [nth]
theorem tX {α:Type} [Inhabited α] {l:List α} {j:Nat} {a:α} (h:j<l.length):nth (l++ [a]) j=nth l j:=by
 grind [nth]
theorem L3 {α:Type} [Inhabited α] {l:List α} {a:α} :nth (l++ [a]) l.length=a:=by
 grind [nth]
def cfK (a b:Col):Int:=uI [W0 a.typ b.typ,W0 a.set b.set]
theorem jA {a b:Int} :W0 a b<0↔a<b:=by grind [W0]
theorem jB {a b:Int} :W0 a b=0↔a=b:=by grind [W0]
theorem FO {a b:Col} :cfK a b<0↔a.typ<b.typ\/(a.typ=b.typ/\a.set<b.set):=by
 grind [cfK,Fg,jB,jA]
theorem sG : Go.Sort.SWO (ltOf cfK) where
 irrefl x:=by grind [ltOf,FO]
 trans x y z h1 h2:=by simp only [ltOf,Zq,FO] at *;omega
 ntrans x y z h1 h2:=by grind [ltOf,FO]
theorem M7 (a b:Col):PC 175 [.p (Xv a),.p (Xv b)] (.int .i64 (cfK a b)):=by
 refine Zc Tryz.func175 rfl ZbL ?_;simp (disch:=omega) only [Tryz.f175,go_sem,seval];refine Xj (Zd ?_);refine Zo (En a.typ b.typ) (Zd ?_);refine Zo (En a.set b.set) (Zd ?_);refine Zo (uJ [W0 a.typ b.typ,W0 a.set b.set] false Zb) (Zd ?_)
 rfl
theorem vV (xs:List Col) (hl:xs.length<=1048576) {H:List AM.Obj} {o:Nat} (hH:H[o]? =some (.elems 7 (xs.map Xv))) :
  ACalls Tryz.prog 109 [.sl o 0 xs.length xs.length,.fn (.func 175) [] []] H fun y H'=>y= .tup []/\ ∃ys:List Col,ys.Perm xs/\ys.Pairwise (fun a b=> ¬cfK b a<0)/\H'=H.set o (.elems 7 (ys.map Xv)) :=
 ACalls.sortFunc OK kY 7 Tryz.isAgg121 Tryz.sizeOf121 Xv (fun x=>⟨_,rfl,rfl,rfl⟩) cfK sG 175 M7 xs Za hH
def kd (c:Col):Kd:=⟨c.typ,c.set⟩
def Bst (l:List Col) (k:Nat) (d:Col):Prop:= ∃j,j<k/\nth l j=d/\ ∀i,i<k->kd (nth l i)=kd d->d.price<(nth l i).price\/(d.price=(nth l i).price/\j<=i)
structure Chp (l:List Col) (k:Nat) (m:List (Kd×Int)) (out:List Col):Prop where
 len:out.length<=k
 at1: ∀i,i<out.length->mq m (kd (nth out i))=some (i:Int)
 at2: ∀q v,mq m q=some v-> ∃i,i<out.length/\v=i/\kd (nth out i)=q
 bst: ∀i,i<out.length->Bst l k (nth out i)
 all: ∀j,j<k-> ∃i,i<out.length/\kd (nth out i)=kd (nth l j)
theorem iU (l:List Col):Chp l 0 [] []:=⟨Zb,fun i h=>by simp at h,fun q v h=>by simp [mq] at h,fun i h=>by simp at h,fun j h=>by simp at h⟩
theorem sL {l:List Col} {k:Nat} {m m':List (Kd×Int)} {out:List Col} (h:Chp l k m out) (hn:mq m (kd (nth l k))=none) (hm: ∀q,mq m' q=if q=kd (nth l k) then some (out.length:Int) else mq m q):Chp l (k+1) m' (out++ [nth l k]):=by
 have hno: ∀i,i<out.length->kd (nth out i)≠kd (nth l k):=fun i hi e=>by
  have:=h.at1 i hi
  grind
 have split: ∀i,i<(out++ [nth l k]).length->(i<out.length/\nth (out++ [nth l k]) i=nth out i)\/(i=out.length/\nth (out++ [nth l k]) i=nth l k):=fun i hi=>by
  simp only [ZA,ZE,ZJ] at hi;rcases Wm i out.length with h1 | h1
  ·grind [tX]
  ·obtain rfl:i=out.length:=Za
   exact .inr ⟨rfl,L3⟩
 refine ⟨by have:=h.len;simp;omega,fun i hi=> ?_,fun q v hq=> ?_,fun i hi=> ?_,fun j hj=> ?_⟩
 ·rcases split i hi with ⟨h1,e⟩ | ⟨rfl,e⟩
  ·rw [e,hm,if_neg (hno i h1)];exact h.at1 i h1
  grind
 ·rw [hm] at hq
  split at hq
  ·grind [L3]
  ·obtain ⟨i,h1,h2,h3⟩:=h.at2 q v hq
   grind
 ·rcases split i hi with ⟨h1,e⟩ | ⟨rfl,e⟩
  ·rw [e];obtain ⟨j,h2,h3,h4⟩:=h.bst i h1;refine ⟨j,Za,h3,fun p hp he=> ?_⟩
   grind
  ·rw [e];refine ⟨k,Za,rfl,fun p hp he=> ?_⟩;rcases CC.1 hp with h5 | rfl
   ·obtain ⟨i,h6,h7⟩:=h.all p h5
    grind
   omega
 ·rcases CC.1 hj with h5 | rfl
  ·obtain ⟨i,h6,h7⟩:=h.all j h5
   grind
  ·exact ⟨out.length,Zb,by rw [L3]⟩
theorem sM {l:List Col} {k:Nat} {m:List (Kd×Int)} {out:List Col} {i:Nat} (h:Chp l k m out) (hi:i<out.length) (hk:kd (nth out i)=kd (nth l k)):Chp l (k+1) m (if (nth l k).price<(nth out i).price then out.set i (nth l k) else out):=by
 have hun: ∀j,j<out.length->kd (nth out j)=kd (nth l k)->j=i:=fun j hj e=>by
  have h1:=h.at1 j hj;have h2:=h.at1 i hi
  grind
 split
 ·rename_i hp
  have key: ∀j,kd (nth (out.set i (nth l k)) j)=kd (nth out j):=fun j=>by
   grind [L4]
  refine ⟨by have:=h.len;simp;omega,fun j hj=> ?_,fun q v hq=> ?_,fun j hj=> ?_,fun j hj=> ?_⟩
  ·rw [key];exact h.at1 j (by grind)
  ·obtain ⟨j,h1,h2,h3⟩:=h.at2 q v hq
   grind
  ·simp only [VO] at hj;rw [L4 hi]
   split
   ·rename_i e;subst e;refine ⟨k,Za,rfl,fun p hp2 he=> ?_⟩;rcases CC.1 hp2 with h5 | rfl
    ·obtain ⟨j,h6,h7,h8⟩:=h.bst i hi
     grind
    omega
   ·rename_i e;obtain ⟨p,h2,h3,h4⟩:=h.bst j hj;refine ⟨p,Za,h3,fun p' hp' he=> ?_⟩
    grind
  ·rcases CC.1 hj with h5 | rfl
   ·obtain ⟨p,h6,h7⟩:=h.all j h5
    grind
   grind
 ·rename_i hp;refine ⟨by have:=h.len;omega,h.at1,h.at2,fun j hj=> ?_,fun j hj=> ?_⟩
  ·obtain ⟨p,h2,h3,h4⟩:=h.bst j hj;refine ⟨p,Za,h3,fun p' hp' he=> ?_⟩
   grind
  ·rcases CC.1 hj with h5 | rfl
   ·exact h.all j h5
   grind
structure Cheap (l ys:List Col):Prop where
 asc:ys.Pairwise fun a b=>cfK a b<0
 bst: ∀d∈ys,Bst l l.length d
 all: ∀c∈l,∃d∈ys,kd d=kd c
theorem sK {l:List Col} {m:List (Kd×Int)} {out ys:List Col} (h:Chp l l.length m out) (hp:ys.Perm out) (ha:ys.Pairwise fun a b=> ¬cfK b a<0):Cheap l ys:=by
 have hnd:out.Pairwise fun a b=>kd a≠kd b:=by
  rw [KX];intro i j hi hj hij e;have h1:=h.at1 i hi;have h2:=h.at1 j hj
  grind [Zi]
 have hnd2:ys.Pairwise fun a b=>kd a≠kd b:=(hp.pairwise_iff fun h e=>h e.symm).2 hnd;refine ⟨(hnd2.and ha).imp fun {a b} hh=> ?_,fun d hd=> ?_,fun c hc=> ?_⟩
 ·rw [FO] at hh ⊢
  grind [kd]
 ·obtain ⟨i,hi,rfl⟩:=ZU.1 (hp.mem_iff.1 hd);rw [<- Zi hi];exact h.bst i hi
 ·obtain ⟨j,hj,rfl⟩:=ZU.1 hc;obtain ⟨i,hi,e⟩:=h.all j hj
  grind [Zi]
theorem PH (l:List Col) (c:Bool) (hl:l.length<=8192):ACalls Tryz.prog 137 [.p (.list c (l.map Xv))] [] fun y H'=> ∃ys:List Col,(Cheap l ys/\ys.length<=l.length)/\y= .p (.list false (ys.map Xv))/\H'= []:=by
 refine Ze [15] Tryz.func137 rfl Zbh ?_;simp (disch:=omega) only [Tryz.f137,go_sem,seval];refine Zl [3,11,12] (fun q:Nat×List (Kd×Int)×List Col=> [(4,.sl 1 0 q.2.2.length q.2.2.length),(13,.p (.int .i64 q.1))]) (fun q=> [.map (q.2.1.map (Nj fG)),.elems 7 (q.2.2.map Xv)]) (fun q=>q.1<=l.length/\Chp l q.1 q.2.1 q.2.2) (fun q=>l.length-q.1) (0,[],[]) ⟨Zb,iU l⟩ (Weak.ofNil 4 7 (by simp (disch:=omega) only [go_sem,seval]) Zb (Weak.mk ?_)) ?_
 ·simp (disch:=omega) only [Zk,ZJ,go_sem,seval]
 ·rintro ⟨k,m,out⟩ ⟨hk,hC⟩;simp only at hk hC;have hol:=hC.len;refine Zd ?_;refine cD ?_ ?_<;>intro h1<;>simp (disch:=omega) only [Sh.out h1,go_sem,seval,↓reduceIte]
  ·have hk2:k<l.length:=Za
   refine lW (l:=m) (k:=kd (nth l k)) lQ (fun _ _=>trivial) trivial (by rfl) (Zd ?_)
   cases hq:mq m (kd (nth l k)) with
   | none =>
    simp (disch:=omega) only [AI,Option.getD_none,go_sem,seval];refine Md (l:=m) (k:=kd (nth l k)) lQ (fun _ _=>trivial) trivial (by rfl) fun m' hm' _=> ?_;simp (disch:=omega) only [ZG,go_sem,seval];exact ⟨(k+1,m',out++ [nth l k]),⟨Za,sL hC hq hm'⟩,Za,Weak.mk (by simp (disch:=omega) only [Xy,Zt,Zk,ZA,ZE,ZJ,Xs,go_sem,seval])⟩
   | some v =>
    obtain ⟨i,hi,rfl,hkd⟩:=hC.at2 _ _ hq;have hold:=sM hC hi hkd;simp (disch:=omega) only [Kn,Kf,go_sem,seval];refine Xj ?_;simp (disch:=first | omega | (simp only [ZE,ZJ,ZA,ZB,Xd,XG]<;>omega)) only [VJ hi,hi,go_sem,seval,↓reduceIte];refine Z0 ?_ ?_<;>intro h2
    ·rw [if_pos h2] at hold;simp (disch:=first | omega | (simp only [ZE,ZJ,ZA,ZB,Xd,XG]<;>omega)) only [go_sem,seval];exact ⟨(k+1,m,out.set i (nth l k)),⟨Za,hold⟩,Za,Weak.mk (by simp (disch:=omega) only [Vk,VO,go_sem,seval])⟩
    ·rw [if_neg h2] at hold;exact ⟨(k+1,m,out),⟨Za,hold⟩,Za,wk⟩
  ·have hkl:k=l.length:=Za
   subst hkl;refine (vV out Za (H:=_) (o:=1) rfl).mono ?_;rintro y H' ⟨rfl,ys,g1,g2,rfl⟩;have hyl:ys.length=out.length:=g1.length_eq;simp (disch:=omega) only [ZQ,ZG,go_sem,seval];rw [<- hyl];refine Zp (Weak.fz (o:=1) (by rfl)) (Zh [] _ _ _ _ (JQ ?_));exact ⟨.p (.list false (ys.map Xv)),[],wk,ys,⟨sK hC g1 g2,Za⟩,rfl,rfl⟩
def Yy (x:Inst):Nat->Nat
 | 0=>0
 | i+1=>if (nth x.orders i).off=true then Yy x i else Yy x i|||pw i
theorem NS (x:Inst): ∀i,Yy x i<2^i
 | 0=>by simp [Yy]
 | i+1=>by
  have:=NS x i
  have h:2^(i+1)=2*2^i:=Za
  rw [Yy]
  split
  ·omega
  ·exact Ji Za (by rw [pw];omega)
theorem Qf (x:Inst): ∀(n i:Nat),(Yy x n).testBit i=(decide (i<n)&& !(nth x.orders i).off)
 | 0,i=>by simp [Yy]
 | n+1,i=>by
  rw [Yy]
  split
  ·rename_i h;rw [Qf x n i]
   by_cases e:i=n
   ·subst e;simp [h]
   ·have:decide (i<n+1)=decide (i<n):=by simp;omega
    rw [this]
  ·rename_i h;rw [AP,Qf x n i,pw,Nat.testBit_two_pow]
   grind
theorem zL (o:Ord):PC 173 [.p (eOrd o)] (.bool true):=by
 refine Zc Tryz.func173 rfl ZbJ ?_;simp (disch:=omega) only [Tryz.f173,go_sem,seval,↓reduceIte]
theorem Zee (x:Inst) (hn:x.orders.length<=10):PC 172 [.p (Zs x),.fn (.func 173) [] []] (.int .i64 ((Yy x x.orders.length:Nat):Int)):=by
 refine Ze [] Tryz.func172 rfl ZbI ?_;simp (disch:=omega) only [Tryz.f172,go_sem,seval];refine Zl [1,9,10] (fun k:Nat=> [(5,.p (.int .i64 ((Yy x k:Nat):Int))),(11,.p (.int .i64 k))]) (fun _=> [Zf x]) (fun k=>k<=x.orders.length) (fun k=>x.orders.length-k) 0 Zb (Weak.mk ?_) ?_
 ·have h00:((Yy x 0:Nat):Int)=0:=rfl;simp (disch:=omega) only [h00,Zf,go_sem,seval]
 ·intro k hk;refine YV ?_;refine cD ?_ ?_<;>intro h1<;>simp (disch:=omega) only [Sh.out h1,go_sem,seval,↓reduceIte]
  ·have hk2:k<x.orders.length:=Za
   have hm:=NS x k;have hp:2^k<=2^10:=Yw Za Za;have hpw:pw k<=1024:=hp;refine Jv ?_ ?_<;>intro h2
   ·refine (zL (nth x.orders k)).use (Zd ?_)
    have ho:(nth x.orders k).off=false:=by grind
    exact ⟨k+1,Za,Za,Weak.mk (by simp (disch:=omega) only [Yy,ho,Y6,go_sem,seval,↓reduceIte])⟩
   ·have ho:(nth x.orders k).off=true:=by grind
    exact ⟨k+1,Za,Za,Weak.mk (by simp (disch:=omega) only [Yy,ho,go_sem,seval,↓reduceIte])⟩
  ·have hkl:k=x.orders.length:=Za
   subst hkl;exact we
theorem ZdM (x:Inst) (hn:x.orders.length<=10):PC 135 [.p (Zs x)] (.int .i64 ((Yy x x.orders.length:Nat):Int)):=by
 refine Zc Tryz.func135 rfl Zbf ?_;simp (disch:=omega) only [Tryz.f135,go_sem,seval];refine (Zee x hn).use ?_;simp (disch:=omega) only [go_sem,seval]
def RW (S M:Nat):Bool:=(List.range 63).all fun i=> !S.testBit i||M.testBit i
theorem vP (S M:Nat) (hS:S<9223372036854775808):PC 174 [.p (.int .i64 (S:Int)),.p (.int .i64 (M:Int))] (.bool (RW S M)):=by
 refine Zc Tryz.func174 rfl ZbK ?_;simp (disch:=omega) only [Tryz.f174,go_sem,seval];have hb:=El (S:=S) (M:=M) hS
 have hd:decide (IntKind.i64.wrap ((BitVec.ofInt 64 (S:Int)&&& ~~~BitVec.ofInt 64 (M:Int)).toNat:Int)=0)=((List.range 63).all fun i=> !S.testBit i||M.testBit i):=by
  grind
 exact ZS (fun b=>V.p (PV.bool b)) hd
def rightB (x:Inst) (c:Col):Bool:=decide (0<=c.typ)&&(decide (c.typ<x.types.length)&&(decide (0<c.set)&&(RW c.set.toNat (Yy x x.orders.length)&&(decide (0<=c.price)&&decide (c.price<=18014398509481984)))))
theorem aR (x:Inst) (c:Col) (hs:c.set<9223372036854775808) (ht:x.types.length<=1048576):PC 136 [.p (Zs x),.p (Xv c),.p (.int .i64 ((Yy x x.orders.length:Nat):Int))] (.bool (rightB x c)):=by
 refine Zc Tryz.func136 rfl Zbg ?_;simp (disch:=omega) only [Tryz.f136,go_sem,seval];refine gT ?_ ?_<;>intro h1<;>simp (disch:=omega) only [Sh.out h1,go_sem,seval,↓reduceIte]
 ·refine gT ?_ ?_<;>intro h2<;>simp (disch:=omega) only [Sh.out h2,go_sem,seval,↓reduceIte]
  ·refine gT ?_ ?_<;>intro h3<;>simp (disch:=omega) only [Sh.out h3,go_sem,seval,↓reduceIte]
   ·obtain ⟨S,hS⟩: ∃S:Nat,c.set=(S:Int):=⟨c.set.toNat,Za⟩
    have e1:rightB x c=(RW S (Yy x x.orders.length)&&(decide (0<=c.price)&&decide (c.price<=18014398509481984))):=by
     simp_all [rightB]
    rw [hS];refine (vP S (Yy x x.orders.length) Za).use (Zd ?_);refine gT ?_ ?_<;>intro h4<;>simp (disch:=omega) only [Sh.out h4,go_sem,seval,↓reduceIte]
    ·refine gT ?_ ?_<;>intro h5<;>simp (disch:=omega) only [Sh.out h5,go_sem,seval,↓reduceIte]
     ·grind
     grind
    grind
   grind [rightB]
  grind [rightB]
 ·simp [rightB,h1]
theorem Zp2 (n:Nat) (h0:0<n) (h:n<16):PC 145 [.p (.int .u64 n)] (.int .i64 (Bc n)):=by
 refine Zc Tryz.func145 rfl Zbo ?_;simp (disch:=omega) only [Tryz.f145,go_sem,seval];refine (Zej n h0 h).use ?_;simp (disch:=omega) only [go_sem,seval]
theorem OB (n:Nat) (h0:0<n) (h:n<16):PC 111 [.p (.int .i64 n)] (.int .i64 (Bc n)):=by
 refine Zc Tryz.func111 rfl Za6 ?_;simp (disch:=omega) only [Tryz.f111,go_sem,seval];refine cD ?_ ?_<;>intro h1<;>simp (disch:=omega) only [Sh.out h1,go_sem,seval]
 ·omega
 ·refine (Zp2 n h0 h).use ?_;simp (disch:=omega) only [go_sem,seval]
def skpF (x:Inst) (i:Nat):Int:=if (unsF x i).2=0/\(YP (unsF x i).1).2=0 then (YP (unsF x i).1).1 else-1
def Ys (ys:List Col) (i:Nat):List Col:=ys.filter fun c=>decide (Bc c.set.toNat=(i:Int))
def fstF (n:Nat) (ys:List Col):List (List Col):=(List.range n).map (Ys ys)
theorem dD {ys:List Col} {k i:Nat} (h:k<ys.length):Ys (ys.take (k+1)) i=if Bc (nth ys k).set.toNat=(i:Int) then Ys (ys.take k) i++ [nth ys k] else Ys (ys.take k) i:=by
 grind [X3,Ys,nth]
theorem nY (i:Nat):Ys [] i= []:=rfl
theorem C4 (ys:List Col) (k i:Nat):(Ys (ys.take k) i).length<=ys.length:=by
 refine Kh (E2 _ _) ?_;simp;omega
theorem J7 (ys):fstF 0 ys= []:=rfl
theorem Q9 (ys):fstF 1 ys= [Ys ys 0]:=rfl
theorem Ja (ys):fstF 2 ys= [Ys ys 0,Ys ys 1]:=rfl
theorem Jb (ys):fstF 3 ys= [Ys ys 0,Ys ys 1,Ys ys 2]:=rfl
theorem Jc (ys):fstF 4 ys= [Ys ys 0,Ys ys 1,Ys ys 2,Ys ys 3]:=rfl
def C9 : List (List Col)->Nat->List V
 | [],_=> []
 | p::P,o=> .sl o 0 p.length p.length::C9 P (o+1)
def ID (P:List (List Col)):List AM.Obj:=P.map fun p=> .elems 7 (p.map Xv)
theorem cM {n0:Nat} {fr:List V} {a b c:AM.Obj} (h0:n0<=4) (n:Nat):Weak n0 fr [a,b,c,.cells (List.replicate n (.p (.list true [])))] fr (a::b::c:: .cells (C9 (List.replicate n []) 4)::ID (List.replicate n [])):=by
 have hr: ∀(k o:Nat),C9 (List.replicate k []) o=(List.range k).map fun j=>V.sl (o+j) 0 0 0:=fun k=>by
  induction k with
  | zero=>intro o;rfl
  | succ k ih =>
   intro o;rw [KY,C9,ih,List.range_succ_eq_map,Zt,List.map_map];simp only [ZJ,Ui,List.cons.injEq,true_and];apply Wk
   grind
 have key: ∀k,k<=n->Weak n0 fr [a,b,c,.cells (List.replicate n (.p (.list true [])))] fr (a::b::c:: .cells (((List.range k).map fun j=>V.sl (4+j) 0 0 0)++List.replicate (n-k) (.p (.list true [])))::List.replicate k (.elems 7 [])):=fun k=>by
  induction k with
  | zero=>grind [Weak.refl]
  | succ k ih =>
   intro hk
   have h1:=(ih Za).trans (Weak.nilC (n0:=n0) (fr:=fr) (o:=3) (j:=k) 7 (by rfl) (by
    grind) (by simp;omega))
   have e1:List.length (a::b::c::AM.Obj.cells (((List.range k).map fun j=>V.sl (4+j) 0 0 0)++List.replicate (n-k) (.p (.list true [])))::List.replicate k (AM.Obj.elems 7 []))=4+k:=by simp;omega
   have e2:(((List.range k).map fun j=>V.sl (4+j) 0 0 0)++List.replicate (n-k) (V.p (.list true []))).set k (.sl (4+k) 0 0 0)=((List.range (k+1)).map fun j=>V.sl (4+j) 0 0 0)++List.replicate (n-(k+1)) (V.p (.list true [])):=by
    rw [E3 _ _ Zb,show n-k=(n-(k+1))+1 by omega,KY,Yh,Xy];simp
   grind [E7]
 have:=key n (Zy _)
 simp_all [ID]
def skF (x:Inst) (n:Nat):List Int:=(List.range n).map (skpF x)
def sB (x:Inst) (m:Int) (f g:V):AM.Obj:= .cells [.p (.list x.net.places_c (x.net.places.map eS)),.p (.list x.net.arcs_c (x.net.arcs.map V1)),.p (.list x.types_c (x.types.map X7)),.p (.list x.orders_c (x.orders.map eOrd)),.p (.list x.apart_c (x.apart.map eP)),.p (.list x.before_c (x.before.map eP)),f,g,.mp 1,.p (.int .i64 m)]
theorem Qy {x:Inst} {c:Col} (h:rightB x c=true) (hs:c.set<9223372036854775808): ∃S:Nat,c.set=S/\0<S/\S<2^x.orders.length/\ ∀i,S.testBit i=true->i<x.orders.length/\(nth x.orders i).off=false:=by
 simp only [rightB,Zv,Zq] at h;obtain ⟨_,_,h3,h4,_⟩:=h
 have key: ∀i,c.set.toNat.testBit i=true->i<x.orders.length/\(nth x.orders i).off=false:=fun i hi=>by
  have h63:i<63:=by
   rcases Wm i 63 with h | h
   ·exact h
   ·have:2^63<=2^i:=Yw Za h
    grind [AE]
  have:=ZD.1 h4 i (ZO.2 h63)
  grind [Qf]
 refine ⟨c.set.toNat,Za,Za,?_,key⟩;refine Nat.lt_pow_two_of_testBit _ fun i hi=> ?_
 grind
theorem Zek {S n:Nat} (h0:0<S) (h:S<2^n) (hn:n<=4):Bc S<n/\0<=Bc S:=by
 have:n=0\/n=1\/n=2\/n=3\/n=4:=Za
 unfold Bc
 grind
theorem GY (x:Inst) (k:Nat):skF x (k+1)=skF x k++ [skpF x k]:=by simp [skF,Yh]
theorem Ks (x:Inst) (k:Nat):(skF x k).length=k:=by simp [skF]
theorem ZkV (x:Inst):skF x 0= []:=rfl
theorem NL {P:Program} {ko:List Nat} {l:List Oper} {n:Nat} {rem:List Nat} {fr:List V} {H:List AM.Obj} {K:List V->List AM.Obj->Prop} (m:Nat) (Y:V) (Z:List AM.Obj) (hr:Qx l rem= [m]) (h:Zz P (Xg l m) fr H fun y H'=>y=Y/\H'=Z)
  (k:(∀k∈ko,oat Z k=oat H k)/\Cz P ko l n (rem.erase m) (UG fr (Xg l m).dst Y) Z K):Cz P ko l (n+1) rem fr H K :=
 Ie m _ hr h fun y H' hq=>by grind
theorem aQ (x:Inst) (l:List Col) (lc:Bool) (hn:x.orders.length<=4) (ht:x.types.length<=1048576) (hu: ∀i:Nat,scoR 1152921504606846976 (unsF x i).1) (hs: ∀c∈l,c.set<9223372036854775808) (hl:l.length<=1048576) :
  ACalls Tryz.prog 105 [.p (Zs x),.p (.list lc (l.map Xv))] [] fun y H'=>(8192<l.length/\y= .tup [.p .nilp,.p (.int .i64 4)]/\H'= [])\/(l.length<=8192/\(∃c∈l,rightB x c=false)/\y= .tup [.p .nilp,.p (.int .i64 2)]/\H'= []) \/
   (l.length<=8192/\(∀c∈l,rightB x c=true)/\ ∃ys,(Cheap l ys/\ys.length<=l.length)/\y= .tup [.ptr 2 0,.p (.int .i64 0)]/\H'= .cells (List.replicate 6 .junk)::(Wc x (.list false ((fstF x.orders.length ys).map WD)) (.list false ((skF x x.orders.length).map eI)) (Yy x x.orders.length) []).map (shO 1)):=by
 refine Ze [10] Tryz.func105 rfl Za1 ?_;simp (disch:=omega) only [Tryz.f105,go_sem,seval];refine cD ?_ ?_<;>intro h0<;>simp (disch:=omega) only [Sh.out h0,go_sem,seval]
 ·exact ⟨_,[],wk,.inl ⟨Za,rfl,rfl⟩⟩
 ·refine X5 [1] 4 mixed Zg Zg Zg Zb (Zd ?_);refine Zo (ZdM x Za) (Zd ?_);refine Xx 1 _ _ Zg (by refine Zd ?_;exact ⟨rfl,rfl⟩) (WE ?_);simp (disch:=omega) only [show ∀(l:List V),Q4 (V.mp 1::l)=none from fun _=>rfl,Option.map_none,go_sem,seval];refine Zl [1,2,6,27,28] (fun k:Nat=> [(29,.p (.int .i64 k))]) (fun _=> [Zf x,.map [],sB x ((Yy x x.orders.length:Nat):Int) (.p (.list true [])) (.p (.list true []))]) (fun k=>k<=l.length/\ ∀j,j<k->rightB x (nth l j)=true) (fun k=>l.length-k) 0 ⟨Za,fun j hj=>Za⟩ (Weak.mk ?_) ?_
  ·simp (disch:=omega) only [Zf,sB,go_sem,seval]
  ·rintro k ⟨hk,hr⟩;simp (disch:=omega) only [Zf,sB,go_sem,seval];refine cD ?_ ?_<;>intro h1<;>simp (disch:=omega) only [Sh.out h1,go_sem,seval,↓reduceIte]
   ·have hk2:k<l.length:=Za
    refine Xj (Zd ?_);refine Zo (aR x (nth l k) (hs _ (Z2 hk2)) ht) (Zd ?_)
    cases hq:rightB x (nth l k) with
    | false =>
     refine G3 ?_;exact ⟨_,[],wk,.inr (.inl ⟨Za,⟨_,Z2 hk2,hq⟩,rfl,rfl⟩)⟩
    | true =>
     refine G4 ?_
     exact ⟨k+1,⟨Za,fun j hj=>by
      grind⟩,Za,wk⟩
   ·have hkl:k=l.length:=Za
    subst hkl
    have hall: ∀c∈l,rightB x c=true:=fun c hc=>by
     obtain ⟨j,hj,rfl⟩:=ZU.1 hc
     grind [Zi]
    clear hr hk h1;generalize ((Yy x x.orders.length:Nat):Int)=m;have hun: ∀i:Nat,PT 138 [.p (Zs x),.p (.int .i64 i)] [.p (EG (unsF x i).1),.p (.int .i64 (unsF x i).2)]:=fun i=>Of x i Za;refine Wf (EP 4 rfl rfl (Zd ?_));refine ⟨_,_,cV 190 84 _ _ x.orders.length 24 (.list true []) rfl Zg Zg Zg Zg (by rfl) Za Za (by simp (disch:=omega) only [go_sem,seval]) (by simp (disch:=omega) only [go_sem,seval]),?_⟩
    refine Zd ?_
    have h5:x.orders.length=0\/x.orders.length=1\/x.orders.length=2\/x.orders.length=3\/x.orders.length=4:=Za
    refine Zp (cM Zb x.orders.length) ?_;refine Zh [17] _ _ _ _ (Zd ?_);refine (PH l lc Za).useV fun ys hC=>Zd ?_;obtain ⟨hC,hyl⟩:=hC;rcases h5 with h5 | h5 | h5 | h5 | h5
    all_goals
     simp (disch:=omega) only [h5,List.replicate,C9,ID,Zt,Zk,go_sem,seval];refine Zl [2,6,50,51] (fun k:Nat=> [(52,.p (.int .i64 k))]) (fun k=> [Zf x,.map [],sB x m (.sl 3 0 x.orders.length x.orders.length) (.p (.list true [])),.cells (C9 (fstF x.orders.length (ys.take k)) 4)]++ID (fstF x.orders.length (ys.take k))) (fun k=>k<=ys.length) (fun k=>ys.length-k) 0 Za (Weak.mk ?_) ?_
     ·simp (disch:=omega) only [h5,Jj,nY,ZJ,J7,Q9,Ja,Jb,Jc,C9,ID,Zt,Zk,ZR,ZH,Zf,sB,go_sem,seval]
     ·intro k hk;simp (disch:=omega) only [h5,J7,Q9,Ja,Jb,Jc,C9,ID,Zt,Zk,ZR,ZH,Zf,sB,go_sem,seval];refine cD ?_ ?_<;>intro h1<;>simp (disch:=omega) only [Sh.out h1,go_sem,seval,↓reduceIte]
      ·have hk2:k<ys.length:=Za
       obtain ⟨j,hj,hjl,_⟩:=hC.bst _ (Z2 hk2)
       have hmem:nth ys k∈l:=by rw [<- hjl];exact Z2 hj
       obtain ⟨S,hS,hS0,hS1,hS2⟩:=Qy (hall _ hmem) (hs _ hmem);have hlt:=Zek hS0 hS1 hn;have h16:S<16:=UL hS1 (by rw [h5];decide)
       have cl:PC 111 [.p (.int .i64 (nth ys k).set)] (.int .i64 (Bc (nth ys k).set.toNat)):=by
        rw [hS];exact OB S hS0 h16
       refine (cl).use ?_;simp (disch:=omega) only [go_sem,seval]
       have htz:Bc (nth ys k).set.toNat=Bc S:=by rw [hS];rfl
       have hi:Bc (nth ys k).set.toNat=0\/Bc (nth ys k).set.toNat=1\/Bc (nth ys k).set.toNat=2\/Bc (nth ys k).set.toNat=3:=Za
       rcases hi with hi | hi | hi | hi
       all_goals try omega
       all_goals
        simp (disch:=omega) only [hi,go_sem,seval];refine Bz [14] [1,2,3] [2] 15 mixed Zg Zg Zg Zg Zb ?_;simp (disch:=omega) only [go_sem,seval,↓reduceIte];refine ⟨fun q hq p' hp=> ?_,?_⟩
        ·simp only [Z7,Vd,Wi] at hq;rcases hq with rfl | rfl | rfl
         ·obtain rfl:59=p':=WR hp;exact V8 (by decide)
         ·obtain rfl:60=p':=WR hp;exact V8 (by decide)
         ·obtain rfl:61=p':=WR hp;exact V8 (by decide)
        ·have q0:=C4 ys k 0;have q1:=C4 ys k 1;have q2:=C4 ys k 2;have q3:=C4 ys k 3;refine NL 14 _ _ Zg (by simp (disch:=omega) only [go_sem,seval,↓reduceIte];exact ⟨rfl,rfl⟩) ?_;refine ⟨fun k hk=>by simp at hk;subst hk;rfl,LQ ?_⟩;simp (disch:=omega) only [go_sem,seval];exact ⟨k+1,Za,Za,Weak.mk (by simp (disch:=omega) only [h5,dD hk2,hi,Xy,ZA,ZE,ZJ,Xs,Q9,Ja,Jb,Jc,C9,Zt,Zk,go_sem,seval,↓reduceIte])⟩
      ·have hkl:k=ys.length:=Za
       subst hkl;clear hk h1
       try refine Zp (Weak.fz (o:=4) (by rfl)) ?_
       try refine Zp (Weak.fz (o:=5) (by rfl)) ?_
       try refine Zp (Weak.fz (o:=6) (by rfl)) ?_
       try refine Zp (Weak.fz (o:=7) (by rfl)) ?_
       refine Zh [17] _ _ _ _ ?_;simp (disch:=omega) only [X1,Zt,Zk,ZQ,ZG,eq_self,go_sem,seval,↓reduceIte];refine Zp (Weak.fzC (o:=3) (ys:=(fstF x.orders.length ys).map WD) (by rw [h5];rfl) (fun y hy=>by obtain ⟨p,_,rfl⟩:=XH.1 hy;rfl)) ?_;refine Zh [17] _ _ _ _ ?_;simp (disch:=omega) only [h5,J7,Q9,Ja,Jb,Jc,Zt,Zk,ZQ,ZG,ZE,ZJ,Xs,Nat.reduceAdd,eq_self,go_sem,seval,↓reduceIte]
       refine Zh [28] _ _ _ _ ?_;simp (disch:=omega) only [go_sem,seval,↓reduceIte];refine Zl [2,6,78] (fun k:Nat=> [(79,.p (.int .i64 k))]) (fun k=> [Zf x,.map [],sB x m (.p (.list false ((fstF x.orders.length ys).map WD))) (.sl (4+x.orders.length) 0 k k),.dead]++List.replicate x.orders.length .dead++ [.elems 1 ((skF x k).map eI)]) (fun k=>k<=x.orders.length) (fun k=>x.orders.length-k) 0 Za ((Weak.nilC (o:=2) (j:=7) 1 (by rfl) (by rfl) Zb).trans (Weak.mk ?_)) ?_
       ·simp (disch:=omega) only [h5,ZkV,List.replicate,ZQ,ZG,ZE,ZJ,Xs,Nat.reduceAdd,J7,Q9,Ja,Jb,Jc,Zt,Zk,ZR,ZH,Zf,sB,go_sem,seval]
       ·intro k hk;simp (disch:=omega) only [h5,List.replicate,Nat.reduceAdd,J7,Q9,Ja,Jb,Jc,Zt,Zk,ZR,ZH,Zf,sB,go_sem,seval];refine cD ?_ ?_<;>intro h1<;>simp (disch:=omega) only [Sh.out h1,go_sem,seval,↓reduceIte]
        ·have hk2:k<x.orders.length:=Za
         refine YU (hun k) ?_;simp (disch:=omega) only [go_sem,seval,↓reduceIte];refine cD ?_ ?_<;>intro h2<;>simp (disch:=omega) only [Sh.out h2,go_sem,seval,↓reduceIte]
         ·refine YU (It _ (hu k)) ?_;simp (disch:=omega) only [go_sem,seval];refine cD ?_ ?_<;>intro h3<;>simp (disch:=omega) only [Sh.out h3,go_sem,seval,↓reduceIte]
          ·have hsk:skpF x k=(YP (unsF x k).1).1:=by simp [skpF,h2,h3]
           simp (disch:=omega) only [Ks,go_sem,seval];rw [if_pos ⟨Za,Za⟩];simp (disch:=omega) only [Ks,ZB,ZA,ZE,ZJ,Xs,eq_self,W2,go_sem,seval];exact ⟨k+1,Za,Za,Weak.mk (by simp (disch:=omega) only [h5,GY,hsk,Xy,List.replicate,Nat.reduceAdd,J7,Q9,Ja,Jb,Jc,Zt,Zk,ZR,ZH,go_sem,seval])⟩
          ·have hsk:skpF x k= -1:=by simp [skpF,h3]
           simp (disch:=omega) only [Ks,go_sem,seval];rw [if_pos ⟨Za,Za⟩];simp (disch:=omega) only [Ks,ZB,ZA,ZE,ZJ,Xs,eq_self,W2,go_sem,seval];exact ⟨k+1,Za,Za,Weak.mk (by simp (disch:=omega) only [h5,GY,hsk,Xy,List.replicate,Nat.reduceAdd,J7,Q9,Ja,Jb,Jc,Zt,Zk,ZR,ZH,go_sem,seval])⟩
         ·have hsk:skpF x k= -1:=by simp [skpF,h2]
          simp (disch:=omega) only [Ks,go_sem,seval];rw [if_pos ⟨Za,Za⟩];simp (disch:=omega) only [Ks,ZB,ZA,ZE,ZJ,Xs,eq_self,W2,go_sem,seval];exact ⟨k+1,Za,Za,Weak.mk (by simp (disch:=omega) only [h5,GY,hsk,Xy,List.replicate,Nat.reduceAdd,J7,Q9,Ja,Jb,Jc,Zt,Zk,ZR,ZH,go_sem,seval])⟩
        ·have hkl:k=x.orders.length:=Za
         clear hk h1;refine Zp (Weak.fz (o:=4+x.orders.length) (S:=1) (xs:=(skF x k).map eI) (by rw [h5];rfl)) ?_;refine Zh [] _ _ _ _ ?_;simp (disch:=omega) only [h5,Zt,Zk,ZQ,ZG,ZB,Ks,Nat.reduceAdd,eq_self,go_sem,seval,↓reduceIte];exact ⟨.tup [.ptr 2 0,.p (.int .i64 0)],_,Weak.mk (by simp (disch:=omega) only [hkl,h5,Wc,V0,shO,shVs,shV,J7,Q9,Ja,Jb,Jc,Zt,Zk,go_sem,seval]),.inr (.inr ⟨Za,hall,ys,⟨hC,hyl⟩,rfl,rfl⟩)⟩
theorem Zel : ∀S:Fin 16,0<S.val->sHas (S.val:Int) (Bc S.val)=true:=by decide+kernel
theorem OJ {x:Inst} (hx:InstOk x) (i:Nat): -1<=skpF x i/\skpF x i<=18014398509481984:=by
 unfold skpF
 split
 ·rename_i h
  have hm:(unsF x i).1.cost<=1000000/\(unsF x i).1.moved<=1/\0<=(unsF x i).1.moved/\(unsF x i).1.other=0/\(unsF x i).1.work=0:=by
   unfold unsF
   split
   ·simp [zSco]
   ·split
    ·simp [zSco]
    ·split
     ·simp [zSco]
     ·have ha:=(hx.orders.2 (i:Int).toNat Za).arg;simp only [argOk,rng,Zv,Zq] at ha
      grind
  obtain ⟨_,h2⟩:=h;unfold YP at h2 ⊢
  grind
 ·omega
theorem Sj {x:Inst} {l ys:List Col} (hx:InstOk x) (hn:x.orders.length<=4) (hC:Cheap l ys) (hr: ∀c∈l,rightB x c=true) (hs: ∀c∈l,c.set<9223372036854775808):ChOk x.orders.length x (fstF x.orders.length ys) (skF x x.orders.length):=by
 refine ⟨fun i hi c hc=> ?_,?_,fun i hi=> ?_⟩
 ·have e:nth (fstF x.orders.length ys) i=Ys ys i:=by
   grind [fstF,Zi]
  rw [e,Ys,Jk] at hc;obtain ⟨h1,h2⟩:=hc;simp only [Zq] at h2;obtain ⟨j,hj,hjl,_⟩:=hC.bst c h1
  have hm:c∈l:=by grind [Z2]
  obtain ⟨S,q1,q2,q3,_⟩:=Qy (hr c hm) (hs c hm);have h16:S<16:=UL q3 (Yw (n:=2) Za hn);have hb:=Zel ⟨S,h16⟩ q2;have hr1:=hr c hm;simp only [rightB,Zv,Zq] at hr1
  grind
 ·have ht:=hx.types;simp only [typesOk,rng,Zq] at ht;refine ⟨Za,fun t _=> ?_⟩;rcases Wm t x.types.length with h | h
  ·have:=ht.2 t h;unfold UE at this;have:=this.1.1.1.1.1.1.2;simp only [rng,Zq] at this;omega
  ·rw [show nth x.types t=default from by grind [nth]]
   decide
 simp_all [skF,Zi,OJ]
def zSt : St:=⟨0,0,[0,0,0,0,0,0]⟩
def LU (x:Inst) (ys:List Col):Int:=Wr x.orders.length ((Yy x x.orders.length:Nat):Int) x (fstF x.orders.length ys) (skF x x.orders.length) 20 (VD x.orders.length ((Yy x x.orders.length:Nat):Int) zSt)
theorem yU (n:Nat):StV n zSt:=⟨rfl,⟨by decide,by simp [zSt]⟩,⟨0,rfl,Za⟩,fun j hj=>by
 have:nth zSt.used j=0:=by
  have:j=0\/j=1\/j=2\/j=3\/j=4\/j=5:=Za
  rcases this with rfl | rfl | rfl | rfl | rfl | rfl<;>rfl
 omega⟩
theorem G0 {α:Type} {r:α->α->Prop} (irr: ∀a,¬r a a) (asy: ∀a b,r a b-> ¬r b a): ∀ {l l':List α},l.Pairwise r->l'.Pairwise r->(∀a,a∈l↔a∈l')->l=l'
 | [],[],_,_,_=>rfl
 | [],b::_,_,_,h=>by have:=(h b).2 Zb;simp at this
 | a::_,[],_,_,h=>by have:=(h a).1 Zb;simp at this
 | a::l,b::l',h1,h2,h=>by
  rw [List.pairwise_cons] at h1 h2
  have hab:a=b:=by
   rcases Z7.1 ((h a).1 Zb) with e | e
   ·exact e
   ·rcases Z7.1 ((h b).2 Zb) with e' | e'
    ·exact e'.symm
    ·exact absurd (h1.1 b e') (asy _ _ (h2.1 a e))
  subst hab
  rw [G0 irr asy h1.2 h2.2 fun c=>⟨fun hc=>by
   rcases Z7.1 ((h c).1 (Yo _ hc)) with e | e
   ·subst e;exact absurd (h1.1 c hc) (irr c)
   ·exact e,fun hc=>by
   rcases Z7.1 ((h c).2 (Yo _ hc)) with e | e
   ·subst e;exact absurd (h2.1 c hc) (irr c)
   ·exact e⟩]
theorem iP {l ys:List Col} (h:Cheap l ys) {c:Col} (hc:c∈l): ∃d∈ys,kd d=kd c/\d.price<=c.price:=by
 obtain ⟨d,hd,e⟩:=h.all c hc;obtain ⟨j,hj,rfl⟩:=ZU.1 hc;obtain ⟨i,hi,_,h3⟩:=h.bst d hd
 grind [Zi]
theorem iO {l ys:List Col} (h:Cheap l ys) {d:Col} (hd:d∈ys):d∈l:=by
 obtain ⟨j,hj,e,_⟩:=h.bst d hd
 grind [Z2]
theorem NZ {n i:Nat} {ys:List Col} :nth (fstF n ys) i=if i<n then Ys ys i else []:=by
 split
 ·grind [fstF,Zi]
 ·rename_i h;rw [nth,Qo,List.getElem?_eq_none (by simp [fstF];omega)];rfl
def fJ (a b:Int):Prop:=b<0\/(0<=a/\a<=b)
theorem SG {x:Inst} {s:St} {r:Col->Int} (hr: ∀c,-1<=r c): ∀ {l:List Col} {a:Int},(∀c∈l,0<=c.price) ->
  fJ (l.foldl (fun o c=>if YN x s c=true then Wb o c.price (r c) else o) a) a/\ ∀c∈l,YN x s c=true->0<=r c->fJ (l.foldl (fun o c=>if YN x s c=true then Wb o c.price (r c) else o) a) (c.price+r c)
 | [],a,_=>⟨by grind [fJ],fun c hc=>by simp at hc⟩
 | d::l,a,hp=>by
  have hd:=hp d Zb;obtain ⟨g1,g2⟩:=SG (x:=x) (s:=s) hr (l:=l) (a:=if YN x s d=true then Wb a d.price (r d) else a) fun c hc=>hp c (Yo _ hc);rw [XS];generalize l.foldl (fun o c=>if YN x s c=true then Wb o c.price (r c) else o) (if YN x s d=true then Wb a d.price (r d) else a)=M at g1 g2;refine ⟨?_,fun c hc hy h0=> ?_⟩
  ·grind [fJ,Wb]
  ·rcases Z7.1 hc with rfl | hc
   ·rw [if_pos hy] at g1
    grind [fJ,Wb]
   grind
theorem HZ {x:Inst} {s:St} {r:Col->Int} : ∀ {l:List Col} {a:Int},l.foldl (fun o c=>if YN x s c=true then Wb o c.price (r c) else o) a=a\/ ∃c∈l,YN x s c=true/\0<=r c/\l.foldl (fun o c=>if YN x s c=true then Wb o c.price (r c) else o) a=c.price+r c
 | [],a=> .inl rfl
 | d::l,a=>by
  rw [XS];rcases HZ (x:=x) (s:=s) (r:=r) (l:=l) (a:=if YN x s d=true then Wb a d.price (r d) else a) with h | ⟨c,h1,h2,h3,h4⟩
  ·rw [h]
   split
   ·rename_i hy;unfold Wb
    split
    ·grind
    omega
   omega
  grind
abbrev Cm := { c:Col // ∃S:Nat,c.set=S/\0<S/\S<16 }
instance : Inhabited Cm := ⟨⟨⟨0, 1, 0, default⟩, 1, rfl, by decide, by decide⟩⟩
def lo (c:Col):Int:=Bc c.set.toNat
def sF (a b:Col):Int:=uI [W0 a.typ b.typ,W0 (lo a) (lo b)]
theorem J0 {a b:Col} :sF a b<0↔a.typ<b.typ\/(a.typ=b.typ/\lo a<lo b):=by
 grind [sF,Fg,jB,jA]
def cfM (a b:Cm):Int:=sF a.val b.val
theorem sH : Go.Sort.SWO (ltOf cfM) where
 irrefl x:=by grind [ltOf,cfM,J0]
 trans x y z h1 h2:=by simp only [ltOf,cfM,Zq,J0] at *;omega
 ntrans x y z h1 h2:=by grind [ltOf,cfM,J0]
theorem Zkm (c:Cm):PC 111 [.p (.int .i64 c.val.set)] (.int .i64 (lo c.val)):=by
 obtain ⟨c,S,h1,h2,h3⟩:=c
 grind [lo,OB]
theorem aS (a b:Cm):PC 110 [.p (Xv a.val),.p (Xv b.val)] (.int .i64 (cfM a b)):=by
 refine Zc Tryz.func110 rfl Za5 ?_;simp (disch:=omega) only [Tryz.f110,go_sem,seval];refine Xj (Zd ?_);refine Zo (En a.val.typ b.val.typ) (Zd ?_);refine Zo (Zkm a) (Zd ?_);refine Zo (Zkm b) (Zd ?_);refine Zo (En (lo a.val) (lo b.val)) (Zd ?_);refine Zo (uJ [W0 a.val.typ b.val.typ,W0 (lo a.val) (lo b.val)] false Zb) (Zd ?_)
 rfl
theorem vU (xs:List Cm) (hl:xs.length<=1048576) {H:List AM.Obj} {o:Nat} (hH:H[o]? =some (.elems 7 (xs.map fun c=>Xv c.val))) :
  ACalls Tryz.prog 109 [.sl o 0 xs.length xs.length,.fn (.func 110) [] []] H fun y H'=>y= .tup []/\ ∃ys:List Cm,ys.Perm xs/\ys.Pairwise (fun a b=> ¬cfM b a<0)/\H'=H.set o (.elems 7 (ys.map fun c=>Xv c.val)) :=
 ACalls.sortFunc OK kY 7 Tryz.isAgg121 Tryz.sizeOf121 (fun c:Cm=>Xv c.val) (fun x=>⟨_,rfl,rfl,rfl⟩) cfM sH 110 aS xs Za hH
theorem DY {n:Nat} {m:Int} {x:Inst} {fst:List (List Col)} {sk:List Int} : ∀(d:Nat) (s:St),∀c∈(YA n m x fst sk d s).1,∃i,i<fst.length/\c∈nth fst i
 | 0,s,c,h=>by simp [YA] at h
 | d+1,s,c,h=>by
  rw [YA] at h
  split at h
  ·simp at h
  ·split at h
   ·rename_i c' hf;simp only [Z7] at h;rcases h with rfl | h
    ·refine ⟨s.ix.toNat,?_,Jf hf⟩;rcases Wm s.ix.toNat fst.length with h | h
     ·exact h
     ·rw [show nth fst s.ix.toNat= [] from by simp [nth,Qo,List.getElem?_eq_none h];rfl] at hf;simp at hf
    ·exact DY d _ c h
   ·exact DY d _ c h
def zPlC : Pln:=⟨true,[],true,[]⟩
def qM (x:Inst) (l:List Col) (p:Pln) (c e:Int):Prop:=(8192<l.length/\p=zPlC/\c=0/\e=4)\/(l.length<=8192/\(∃c∈l,rightB x c=false)/\p=zPlC/\c=0/\e=2) \/
 (l.length<=8192/\(∀c∈l,rightB x c=true)/\ ∃ys,Cheap l ys/\ys.length<=l.length/\((LU x ys<0/\p=zPlC/\c=0/\e=24)\/(0<=LU x ys/\c=LU x ys/\e=0 /\
  ∃zs:List Col,zs.Perm (YA x.orders.length ((Yy x x.orders.length:Nat):Int) x (fstF x.orders.length ys) (skF x x.orders.length) 20 (VD x.orders.length ((Yy x x.orders.length:Nat):Int) zSt)).1/\zs.Pairwise (fun a b=> ¬sF b a<0) /\
   p=⟨false,zs.map (·.route),false,(YA x.orders.length ((Yy x x.orders.length:Nat):Int) x (fstF x.orders.length ys) (skF x x.orders.length) 20 (VD x.orders.length ((Yy x x.orders.length:Nat):Int) zSt)).2⟩)))
theorem DX {n:Nat} {m:Int} {x:Inst} {fst:List (List Col)} {sk:List Int} : ∀(d:Nat) (s:St),(YA n m x fst sk d s).1.length<=d/\(YA n m x fst sk d s).2.length<=d
 | 0,s=>by simp [YA]
 | d+1,s=>by
  rw [YA]
  split
  ·simp
  ·split
   ·rename_i c' hf;have:=DX (n:=n) (m:=m) (x:=x) (fst:=fst) (sk:=sk) d (VX n m s c');simp;omega
   ·have:=DX (n:=n) (m:=m) (x:=x) (fst:=fst) (sk:=sk) d (DT n m s);simp;omega
theorem dB (x:Inst) (l:List Col) (lc:Bool) (hx:InstOk x) (hn:x.orders.length<=4) (ht:x.types.length<=1048576) (hs: ∀c∈l,c.set<9223372036854775808) (hl:l.length<=1048576) :
  ACalls Tryz.prog 78 [.p (Zs x),.p (.list lc (l.map Xv))] [] fun y H'=> ∃p c e,qM x l p c e/\y= .tup [.p (J3 p),.p (.int .i64 c),.p (.int .i64 e)]/\H'= []:=by
 refine Ze [16] Tryz.func78 rfl ZjW ?_;simp (disch:=omega) only [Tryz.f78,go_sem,seval];refine ((aQ x l lc hn ht (fun i=>A7 Za (OU hx _)) hs hl).behind (by rfl) _).mono ?_;rintro y H' ⟨y1,H1,hq,rfl,rfl⟩;rcases hq with ⟨h1,rfl,rfl⟩ | ⟨h1,h2,rfl,rfl⟩ | ⟨h1,h2,ys,⟨hC,hyl⟩,rfl,rfl⟩
 ·simp (disch:=omega) only [shV,shVs,Zk,go_sem,seval];exact ⟨.tup [.p (J3 zPlC),.p (.int .i64 0),.p (.int .i64 4)],[],Weak.mk (by simp (disch:=omega) only [zPlC,Zk,go_sem,seval]),_,_,_,Or.inl ⟨h1,rfl,rfl,rfl⟩,rfl,rfl⟩
 ·simp (disch:=omega) only [shV,shVs,Zk,go_sem,seval];exact ⟨.tup [.p (J3 zPlC),.p (.int .i64 0),.p (.int .i64 2)],[],Weak.mk (by simp (disch:=omega) only [zPlC,Zk,go_sem,seval]),_,_,_,Or.inr (Or.inl ⟨h1,h2,rfl,rfl,rfl⟩),rfl,rfl⟩
 ·have hok:=Sj hx hn hC h2 hs
  have hcl: ∀r∈fstF x.orders.length ys,r.length<=1048576:=fun r hr=>by
   obtain ⟨p,_,rfl⟩:=XH.1 hr
   grind [Ys]
  obtain ⟨m,hm⟩: ∃m:Int,m=((Yy x x.orders.length:Nat):Int):=⟨_,rfl⟩;obtain ⟨B,hB⟩: ∃B,B=LU x ys:=⟨_,rfl⟩;simp (disch:=omega) only [shV,shVs,shO,Wc,V0,Zt,Zk,List.replicate,ZR,ZH,go_sem,seval];rw [<- hm];refine ACalls.mono ((GW x (.list false ((fstF x.orders.length ys).map WD)) (.list false ((skF x x.orders.length).map eI)) m [] zSt rfl (by decide) Za (by decide)).back [Zf x,.cells [.p (.list true []),.p (.list true [])],.cells (List.replicate 6 .junk)] (by rfl)) ?_;rintro y H' ⟨y1,H1,⟨rfl,rfl⟩,rfl,rfl⟩;obtain ⟨v1,_⟩:=Mr (m:=m) (yU x.orders.length)
  have hrg:=Uu (m:=m) hok 20 _ v1
  have hbb:B=Wr x.orders.length m x (fstF x.orders.length ys) (skF x x.orders.length) 20 (VD x.orders.length m zSt):=by rw [hB,LU,hm]
  rw [<- hbb] at hrg;obtain ⟨R,hR⟩: ∃R,R=YA x.orders.length m x (fstF x.orders.length ys) (skF x x.orders.length) 20 (VD x.orders.length m zSt):=⟨_,rfl⟩;obtain ⟨i,w,b0,b1,b2,b3,b4,b5,hw⟩:=Y0 v1.len;have hRr:=hR;rw [hw] at hbb v1 hR ⊢;simp (disch:=omega) only [shV,shVs,shO,Wc,V0,Zt,Zk,List.replicate,ZR,ZH,go_sem,seval];have c3:=((ES x (fstF x.orders.length ys) (skF x x.orders.length) false false m Za (by simp [fstF]) (by simp [skF]) hok hcl 20 ⟨i,w,[b0,b1,b2,b3,b4,b5]⟩ [] Za v1 (by have:=v1.ix;omega) (fun p hp=>by simp at hp)).mono (fun y H' hq=>(⟨hq,by obtain ⟨l',_,_,rfl⟩:=hq;rfl⟩:_/\H'.length=(Wc x (.list false ((fstF x.orders.length ys).map WD)) (.list false ((skF x x.orders.length).map eI)) m []).length))).front (by rfl) (by rfl) [BV ⟨i,w,[b0,b1,b2,b3,b4,b5]⟩]
  refine ACalls.mono (c3.back [Zf x,.cells [.p (.list true []),.p (.list true [])],.cells (List.replicate 6 .junk)] (by rfl)) ?_;rintro y H' ⟨y1,H1,⟨H2,⟨l',hl',rfl,rfl⟩,rfl⟩,rfl,rfl⟩;rw [<- hbb];simp (disch:=omega) only [shV,shVs,shO,Wc,V0,BV,Zt,Zk,List.replicate,ZR,ZH,go_sem,seval];refine cD ?_ ?_<;>intro h3<;>simp (disch:=omega) only [Sh.out h3,go_sem,seval,↓reduceIte]
  ·exact ⟨.tup [.p (J3 zPlC),.p (.int .i64 0),.p (.int .i64 24)],[],Weak.mk (by simp (disch:=omega) only [zPlC,Zk,go_sem,seval]),_,_,_,Or.inr (Or.inr ⟨h1,h2,ys,hC,hyl,Or.inl ⟨Za,rfl,rfl,rfl⟩⟩),rfl,rfl⟩
  ·refine ACalls.mono ((ZdR (BV ⟨i,w,[b0,b1,b2,b3,b4,b5]⟩) (by intro H n;simp (disch:=omega) only [BV,Zt,Zk,go_sem,seval]) (by intro o xs;rfl) x (fstF x.orders.length ys) (skF x x.orders.length) false false m Za (by simp [fstF]) (by simp [skF]) hok hcl ⟨i,w,[b0,b1,b2,b3,b4,b5]⟩ l' v1 hl').back [Zf x,.cells [.p (.list true []),.p (.list true [])],.cells (List.replicate 6 .junk)] (by rfl)) ?_;rintro y H' ⟨y1,H1,⟨l2,A,U,hl2,hAU,rfl,rfl⟩,rfl,rfl⟩;rw [<- hR] at hAU;have hlen:=DX (n:=x.orders.length) (m:=m) (x:=x) (fst:=fstF x.orders.length ys) (sk:=skF x x.orders.length) 20 (VD x.orders.length m zSt)
   rw [<- hRr,<- hAU] at hlen
   have hA: ∀c∈A,∃S:Nat,c.set=S/\0<S/\S<16:=fun c hc=>by
    have hc':c∈(YA x.orders.length m x (fstF x.orders.length ys) (skF x x.orders.length) 20 (VD x.orders.length m zSt)).1:=by grind
    obtain ⟨j,hj,hm2⟩:=DY _ _ _ hc'
    have e:nth (fstF x.orders.length ys) j=Ys ys j:=by
     grind [fstF,Zi]
    rw [e,Ys,Jk] at hm2;obtain ⟨q,hq,hql,_⟩:=hC.bst c hm2.1
    have hmem:c∈l:=by grind [Z2]
    obtain ⟨S,q1,q2,q3,_⟩:=Qy (h2 c hmem) (hs c hmem);exact ⟨S,q1,q2,UL q3 (Yw (n:=2) Za hn)⟩
   obtain ⟨L,hL⟩: ∃L:List Cm,L.map Subtype.val=A:=⟨A.pmap (fun c h=>⟨c,h⟩) hA,by simp [List.map_pmap]⟩;subst hL
   have hLl:(L.map Subtype.val).length=L.length:=Zb
   have hLe:(L.map Subtype.val).map Xv=L.map fun c=>Xv c.val:=Zb
   simp only at hlen;rw [hLl] at hlen;simp (disch:=omega) only [shV,shVs,shO,Wc,V0,BV,Zt,Zk,List.replicate,ZR,ZH,hLl,hLe,go_sem,seval];refine ((vU L Za (H:=_) (o:=7) rfl)).mono ?_;rintro y H' ⟨rfl,zs,hp,hsr,rfl⟩;have hzl:zs.length=L.length:=hp.length_eq;rw [<- hzl] at hlen ⊢;simp (disch:=omega) only [ZQ,ZG,go_sem,seval];obtain ⟨Z,hZ⟩: ∃Z,Z=zs.map Subtype.val:=⟨_,rfl⟩
   have hZl:Z.length=zs.length:=by rw [hZ];simp
   have hZe:Z.map Xv=zs.map fun c=>Xv c.val:=by rw [hZ];simp
   rw [<- hZl] at hlen ⊢
   have htl: ∀k,k<=Z.length->(Z.take k).length=k:=fun k hk=>by simp;omega
   refine Zl [4,10,13,45,46] (fun k:Nat=> [(47,.p (.int .i64 k))]) (fun k=> [Zf x,.cells [.p (.list true []),.p (.list true [])],.cells (List.replicate 6 .junk),.map (l2.map (Nj Bi)),shO 3 (V0 x (.list false ((fstF x.orders.length ys).map WD)) (.list false ((skF x x.orders.length).map eI)) m),BV ⟨i,w,[b0,b1,b2,b3,b4,b5]⟩,.cells (List.replicate 8 .junk),.elems 7 (Z.map Xv),.cells [.sl 9 0 k k,.p (.list false (U.map eI))],.elems 4 ((Z.take k).map fun c=>WM c.route)]) (fun k=>k<=Z.length) (fun k=>Z.length-k) 0 Za ((Weak.nilC (o:=8) (j:=0) 4 (by rfl) (by rfl) Zb).trans (Weak.mk ?_)) ?_
   ·simp (disch:=omega) only [hZe,Jj,ZQ,ZG,ZE,ZJ,Xs,Nat.reduceAdd,shV,shVs,shO,V0,BV,Zt,Zk,List.replicate,ZR,ZH,Zf,go_sem,seval]
   ·intro k hk;simp (disch:=omega) only [shV,shVs,shO,V0,BV,Zt,Zk,List.replicate,Zf,go_sem,seval];refine cD ?_ ?_<;>intro h4<;>simp (disch:=omega) only [Sh.out h4,go_sem,seval,↓reduceIte]
    ·have hk2:k<Z.length:=Za
     simp (disch:=first | omega | (simp only [ZE,ZJ,ZA,ZB,Xd,XG]<;>omega)) only [VJ hk2,hk2,go_sem,seval,↓reduceIte]
     have hsc:Z.take (k+1)=Z.take k++ [nth Z k]:=by rw [X3 hk2,Zi hk2]
     rw [if_pos ⟨htl k hk,Za,Za⟩];simp (disch:=omega) only [htl k hk,ZB,ZA,ZE,ZJ,Xs,eq_self,W2,go_sem,seval];exact ⟨k+1,Za,Za,Weak.mk (by simp (disch:=omega) only [hsc,Xy,Zt,Zk,go_sem,seval])⟩
    ·have hkl:k=Z.length:=Za
     subst hkl;refine Zp (Weak.fz (o:=9) (by rfl)) ?_;refine Zh [] _ _ _ _ ?_;simp (disch:=omega) only [Zt,Zk,ZQ,ZG,X1,go_sem,seval];exact ⟨.tup [.p (J3 ⟨false,Z.map (·.route),false,U⟩),.p (.int .i64 B),.p (.int .i64 0)],[],Weak.mk (by simp (disch:=omega) only [List.map_map,Function.comp_def,go_sem,seval]),_,_,_,Or.inr (Or.inr ⟨h1,h2,ys,hC,hyl,Or.inr ⟨Za,hB,rfl,Z,by grind,by rw [hZ];exact List.pairwise_map.2 hsr,by grind⟩⟩),rfl,rfl⟩
def ZnW (x:Inst) (l:List Col) (a e:Int):Prop:=(8192<l.length/\a=0/\e=4)\/(l.length<=8192/\(∃c∈l,rightB x c=false)/\a=0/\e=2) \/
 (l.length<=8192/\(∀c∈l,rightB x c=true)/\ ∃ys,Cheap l ys/\a=(if LU x ys<0 then 0 else LU x ys)/\e=(if LU x ys<0 then 24 else 0))
def ky (l:List Col) (a:Int):Int×Int×Int:=if a<0 then (1,0,0) else (0,(nth l a.toNat).typ,(nth l a.toNat).set)
def lR (a b:Int×Int×Int):Prop:=a.1<b.1\/(a.1=b.1/\(a.2.1<b.2.1\/(a.2.1=b.2.1/\a.2.2<b.2.2)))
def KE (n:Nat) (l:List Col) (a b:List Int):Prop:= ∀t,t<n->ky l (nth a t)=ky l (nth b t)/\nth a t<=nth b t
def KL (n:Nat) (l:List Col) (a b:List Int):Prop:=(∃i,i<n/\(∀t,t<i->ky l (nth a t)=ky l (nth b t))/\lR (ky l (nth a i)) (ky l (nth b i)))\/KE n l a b
def mI (x:Inst):Int:=((Yy x x.orders.length:Nat):Int)
theorem Gh {x:Inst} (hn:x.orders.length<=4) {k:Nat} (hk:k<x.orders.length):sHas (mI x) k= !(nth x.orders k).off:=by
 grind [mI,WV,Qf]
theorem Cg {n:Nat} {s:St} (h:StV n s) {k:Nat} (hk:k<=62):sHas s.cov k=s.cov.toNat.testBit k:=by
 obtain ⟨C,hC,_⟩:=h.cov
 grind [WV]
structure Ctx (x:Inst) (l ys:List Col):Prop where
 n4:x.orders.length<=4
 t6:x.types.length<=6
 ch:Cheap l ys
 rt: ∀c∈l,rightB x c=true
 st: ∀c∈l,c.set<9223372036854775808
 ok:ChOk x.orders.length x (fstF x.orders.length ys) (skF x x.orders.length)
 sk: ∀k,k<x.orders.length->(nth x.orders k).off=false->(0<=(nth x.orders k).penalty↔0<=skpF x k)/\(0<=skpF x k->skpF x k=skR x k)
theorem ZdA : ∀S:Fin 16,0<S.val-> ∀k:Fin 4,(Bc S.val=(k.val:Int)↔(S.val.testBit k.val=true/\ ∀i:Fin 4,i.val<k.val->S.val.testBit i.val=false)):=by decide+kernel
theorem RS {S n k:Nat} (hS:0<S) (h:S<2^n) (hn:n<=4) (hk:k<n):Bc S=(k:Int)↔(S.testBit k=true/\ ∀i,i<n->S.testBit i=true->k<=i):=by
 have h16:S<16:=UL h (Yw (n:=2) Za hn);rw [show Bc S=(k:Int)↔_ from ZdA ⟨S,h16⟩ hS ⟨k,Za⟩];refine and_congr_right fun _=>⟨fun g i hi hb=> ?_,fun g i hi=> ?_⟩
 ·rcases Wm i k with h1 | h1
  ·have:=g ⟨i,Za⟩ h1
   grind
  ·exact h1
 grind
theorem Ctx.set {x:Inst} {l ys:List Col} (h:Ctx x l ys) {c:Col} (hc:c∈l):c.set=(c.set.toNat:Int)/\0<c.set.toNat/\c.set.toNat<2^x.orders.length/\ ∀i,c.set.toNat.testBit i=true->i<x.orders.length/\(nth x.orders i).off=false:=by
 obtain ⟨S,h1,h2,h3,h4⟩:=Qy (h.rt c hc) (h.st c hc)
 grind
theorem Ctx.typ {x:Inst} {l ys:List Col} (h:Ctx x l ys) {c:Col} (hc:c∈l):(0<=c.typ/\c.typ<x.types.length)/\0<=c.price:=by
 have:=h.rt c hc;simp only [rightB,Zv,Zq] at this;omega
structure Nd (x:Inst) (l:List Col) (a:List Int) (s:St) (k:Nat):Prop where
 len:a.length=x.orders.length
 ix:s.ix=k
 v:StV x.orders.length s
 cov: ∀i,i<x.orders.length->s.cov.toNat.testBit i=decide (0<=nth a i)
 rng: ∀i,i<x.orders.length-> -1<=nth a i/\nth a i<l.length
 used: ∀T:Nat,T<6->nth s.used T=usdI l a T x.orders.length
 grp: ∀i,i<x.orders.length->0<=nth a i-> ∀t,t<x.orders.length->(nth l (nth a i).toNat).set.toNat.testBit t=true->nth a t=nth a i
 old: ∀i,i<x.orders.length->k<=i->0<=nth a i-> ∃t,t<k/\(nth l (nth a i).toNat).set.toNat.testBit t=true
 own: ∀i,i<x.orders.length->0<=nth a i->(nth l (nth a i).toNat).set.toNat.testBit i=true
def Hf (s:St):St:= { s with ix:=s.ix+1 }
def AY (s:St) (c:Col):St:=⟨s.ix+1,((s.cov.toNat|||c.set.toNat:Nat):Int),s.used.set c.typ.toNat (nth s.used c.typ.toNat+1)⟩
theorem Nd.skip {x:Inst} {l:List Col} {a:List Int} {s:St} {k:Nat} (h:Nd x l a s k) (hk:k<x.orders.length) (ho:0<=nth a k-> ∃t,t<k/\(nth l (nth a k).toNat).set.toNat.testBit t=true):Nd x l a (Hf s) (k+1) :=
 ⟨h.len,by simp only [Hf,h.ix];omega,⟨h.v.len,by have:=h.ix;simp only [Hf];omega,h.v.cov,h.v.used⟩,h.cov,h.rng,h.used,h.grp,fun i hi hki h0=>by
  obtain ⟨t,h1,h2⟩:=h.old i hi Za h0
  grind,h.own⟩
theorem Nd.skip' {x:Inst} {l:List Col} {a:List Int} {s:St} {k:Nat} (h:Nd x l a s k) (hk:k<x.orders.length):Nd x l a (Hf s) (k+1):=h.skip hk fun h0=>h.old k hk (Zy _) h0
theorem Si {x:Inst} {l ys:List Col} (hc:Ctx x l ys) {a:List Int} {s:St} {k j:Nat} (h:Nd x l a s k) (hk:k<x.orders.length) (hj:j<l.length):BB x l a j k=true↔(YN x s (nth l j)=true/\Bc (nth l j).set.toNat=(k:Int)):=by
 obtain ⟨hS,hS0,hS1,hS2⟩:=hc.set (Z2 hj);obtain ⟨⟨ht0,ht1⟩,_⟩:=hc.typ (Z2 hj);have ht6:=hc.t6;have hu:=h.used (nth l j).typ.toNat Za;rw [show (((nth l j).typ.toNat:Nat):Int)=(nth l j).typ by omega] at hu;rw [RS hS0 hS1 hc.n4 hk];simp only [BB,YN,EH,Zv,Zq,Kq,h.len,hu]
 constructor
 ·rintro ⟨h1,h2,h3⟩;refine ⟨⟨CI fun i=> ?_,h2⟩,h1,fun i hi hb=>(h3 i hi hb).2⟩;rw [Nat.testBit_and,Nat.zero_testBit]
  cases hb:(nth l j).set.toNat.testBit i with
  | false=>simp
  | true =>
   have hi:=(hS2 i hb).1;rw [h.cov i hi,QR,Ya]
   grind
 ·rintro ⟨⟨h1,h2⟩,h3,h4⟩;refine ⟨h3,h2,fun i hi hb=>⟨?_,h4 i hi hb⟩⟩;have:=ZS (fun z=>z.testBit i) h1;simp only [Nat.testBit_and,Nat.zero_testBit,hb,QR] at this;rw [h.cov i hi,Ya] at this;omega
theorem IU {x:Inst} {l:List Col} {a:List Int} {k:Nat} {S:Nat} {j:Nat} (hl:a.length=x.orders.length) (hk:k<x.orders.length) (hb:S.testBit k=true) (hneg: ∀i,i<x.orders.length->S.testBit i=true->nth a i<0/\k<=i) (hfr: ∀i,i<x.orders.length->S.testBit i=false->nth a i≠(j:Int)) (T:Int) :
  ∀m,m<=x.orders.length->usdI l (VV S a j) T m=usdI l a T m+(if k<m/\(nth l j).typ=T then 1 else 0)
 | 0,_=>by simp [usdI]
 | i+1,hm=>by
  have hi:i<a.length:=Za
  rw [usdI,usdI,IU hl hk hb hneg hfr T i Za];have ZP: ∀t,t<i->nth (VV S a j) t=if S.testBit t=true then (j:Int) else nth a t:=fun t ht=>XC Za
  cases hs:S.testBit i with
  | false =>
   have e:An l (VV S a j) T i=An l a T i:=by
    rw [An,An,XC hi,hs,if_neg Zb]
    by_cases h0:0<=nth a i
    ·have ef:bI (VV S a j) i=bI a i:=by
      rw [Wz,Cr,Cr,XC hi,hs,if_neg Zb]
      grind
     rw [ef]
    ·simp [h0]
   grind
  | true =>
   obtain ⟨hn,hki⟩:=hneg i Za hs
   have e2:An l a T i=false:=by
    simp_all [An,Vs]
   have e1:An l (VV S a j) T i=(decide ((nth l j).typ=T)&&decide (k=i)):=by
    rw [An,XC hi,hs,if_pos rfl,Ud Za,VQ,XD]
    congr 1
    rw [Wz,Cr,XC hi,hs,if_pos rfl,Zq]
    grind
   grind
theorem Nd.child {x:Inst} {l ys:List Col} (hc:Ctx x l ys) {a:List Int} {s:St} {k j:Nat} (h:Nd x l a s k) (hk:k<x.orders.length) (hj:j<l.length) (hcan:BB x l a j k=true):Nd x l (VV (nth l j).set.toNat a j) (AY s (nth l j)) (k+1):=by
 obtain ⟨hS,hS0,hS1,hS2⟩:=hc.set (Z2 hj);obtain ⟨⟨ht0,ht1⟩,_⟩:=hc.typ (Z2 hj);have ht6:=hc.t6;have hl6:s.used.length=6:=h.v.len;have hu:=h.used (nth l j).typ.toNat Za;rw [show (((nth l j).typ.toNat:Nat):Int)=(nth l j).typ by omega] at hu;have hcan':=hcan;simp only [BB,Zv,Zq,Kq,h.len] at hcan';obtain ⟨hb,hcnt,hneg⟩:=hcan';rw [<- hu] at hcnt;have hcount:=hc.ok.typ.2 (nth l j).typ.toNat Za;have hak:=(hneg k hk hb).1
 have hfr: ∀i,i<x.orders.length->(nth l j).set.toNat.testBit i=false->nth a i≠(j:Int):=fun i hi _ e=>by
  have:=h.grp i hi Za k hk (by grind [XD]);omega
 obtain ⟨C,hC,hC2⟩:=h.v.cov;have hS10:(nth l j).set.toNat<1024:=UL hS1 (Yw (n:=2) Za (show x.orders.length<=10 by have:=hc.n4;omega));refine ⟨by rw [UC];exact h.len,by simp only [AY,h.ix];omega,⟨by simp only [StR,AY,VO];exact hl6,by have:=h.ix;simp only [AY];omega,⟨_,rfl,?_⟩,fun t ht=> ?_⟩,fun i hi=> ?_,fun i hi=> ?_,fun T hT=> ?_,fun i hi h0 t ht hbt=> ?_,fun i hi hki h0=> ?_,fun i hi h0=> ?_⟩
 ·rw [hC,XD];exact Ji (n:=10) hC2 hS10
 ·simp only [AY];rw [CT Za]
  split
  ·omega
  ·exact h.v.used t ht
 ·simp only [AY,XD];rw [AP,h.cov i hi,XC (by rw [h.len];exact hi)]
  grind
 ·rw [XC (by rw [h.len];exact hi)]
  split
  ·omega
  ·exact h.rng i hi
 ·simp only [AY];rw [CT Za,IU h.len hk hb hneg hfr T _ (Zy _),h.used T hT]
  grind
 ·rw [XC (i:=i) (by rw [h.len];exact hi)] at h0 hbt ⊢;rw [XC (i:=t) (by rw [h.len];exact ht)]
  cases hbi:(nth l j).set.toNat.testBit i with
  | true =>
   rw [hbi,if_pos rfl,XD] at hbt
   grind
  | false =>
   rw [hbi,if_neg Zb] at h0 hbt;have e:=h.grp i hi h0 t ht hbt
   grind
 ·rw [XC (by rw [h.len];exact hi)] at h0 ⊢
  cases hbi:(nth l j).set.toNat.testBit i with
  | true =>
   rw [if_pos rfl,XD]
   grind
  | false =>
   rw [hbi,if_neg Zb] at h0;rw [if_neg Zb];obtain ⟨t,h1,h2⟩:=h.old i hi Za h0
   grind
 ·rw [XC (by rw [h.len];exact hi)] at h0 ⊢
  cases hbi:(nth l j).set.toNat.testBit i with
  | true=>rw [if_pos rfl,XD];exact hbi
  | false =>
   rw [hbi,if_neg Zb] at h0;rw [if_neg Zb];exact h.own i hi h0
def Lx (x:Inst) (ys:List Col) (D:Nat) (s:St):Int:=Wr x.orders.length (mI x) x (fstF x.orders.length ys) (skF x x.orders.length) D (VD x.orders.length (mI x) s)
theorem fP {x:Inst} {ys:List Col} {D:Nat} {s:St} (h:s.ix=x.orders.length):Lx x ys D s=0:=by
 unfold Lx
 cases D with
 | zero=>rfl
 | succ D =>
  simp_all [Wr,VD,Dh]
theorem D7 {n:Nat} {m:Int} {s:St} {k:Nat} (hk:s.ix=k) (hkn:k<n) (hc:sHas m k=false\/sHas s.cov k=true):VD n m s=VD n m (Hf s):=by
 simp_all [VD,Hf,Fk]
theorem D8 {n:Nat} {m:Int} {s:St} {k:Nat} (hk:s.ix=k) (h1:sHas m k=true) (h2:sHas s.cov k=false):VD n m s=s:=by
 obtain ⟨i,v,u⟩:=s
 simp_all [VD,D9]
theorem Hb {n:Nat} {m:Int} {s:St} {c:Col} {k:Nat} (hk:s.ix=k) (hkn:k<n) (hn:n<=4) (hb:c.set.toNat.testBit k=true):VX n m s c=VD n m (AY s c):=by
 have e:=D7 (n:=n) (m:=m) (s:=⟨s.ix,((s.cov.toNat|||c.set.toNat:Nat):Int),s.used.set c.typ.toNat (nth s.used c.typ.toNat+1)⟩) (k:=k) hk hkn (.inr (by
  simp only
  rw [WV _ _ Za,AP,hb,Bool.or_true]))
 exact e
theorem Aa {x:Inst} {l ys:List Col} (hc:Ctx x l ys) {k:Nat} (hk:k<x.orders.length) {c:Col} (hm:c∈Ys ys k):c∈ys/\c∈l/\Bc c.set.toNat=(k:Int)/\c.set.toNat.testBit k=true:=by
 rw [Ys,Jk,Zq] at hm;have hl:=iO hc.ch hm.1;obtain ⟨_,h0,h1,_⟩:=hc.set hl;exact ⟨hm.1,hl,hm.2,((RS h0 h1 hc.n4 hk).1 hm.2).1⟩
theorem Pc {x:Inst} {l ys:List Col} (hc:Ctx x l ys) {D:Nat} (hD:10<D) {s:St} {k:Nat} (hv:StV x.orders.length s) (hk:s.ix=k) (hkn:k<x.orders.length) (ho:(nth x.orders k).off=false) (hcv:s.cov.toNat.testBit k=false) :
  Lx x ys D s=if 0<=skpF x k then Wb ((Ys ys k).foldl (fun o c=>if YN x s c=true then Wb o c.price (Lx x ys D (AY s c)) else o) (-1)) (skpF x k) (Lx x ys D (Hf s)) else (Ys ys k).foldl (fun o c=>if YN x s c=true then Wb o c.price (Lx x ys D (AY s c)) else o) (-1):=by
 have hn:=hc.n4
 have e1:Lx x ys D s=Wr x.orders.length (mI x) x (fstF x.orders.length ys) (skF x x.orders.length) (D+1) s:=by
  rw [Lx,D8 hk (by grind [Gh]) (by grind [Cg])];exact JE hc.ok _ _ s hv Za Za
 rw [e1,Wr,if_neg Za]
 have e2:nth (fstF x.orders.length ys) s.ix.toNat=Ys ys k:=by simp_all [NZ]
 have e3:nth (skF x x.orders.length) s.ix.toNat=skpF x k:=by grind [skF,Zi]
 have e4:(Ys ys k).foldl (fun o c=>if YN x s c=true then Wb o c.price (Wr x.orders.length (mI x) x (fstF x.orders.length ys) (skF x x.orders.length) D (VX x.orders.length (mI x) s c)) else o) (-1)=(Ys ys k).foldl (fun o c=>if YN x s c=true then Wb o c.price (Lx x ys D (AY s c)) else o) (-1) :=
  J6 fun c hm o=>by rw [Hb hk hkn hn (Aa hc hkn hm).2.2.2];rfl
 simp only [e2,e3,e4]
 rfl
def Ae (x:Inst) (ys:List Col) (D:Nat) (s:St) (c:Col):Bool:=YN x s c&&(decide (0<=Lx x ys D (AY s c))&&decide (c.price+Lx x ys D (AY s c)=Lx x ys D s))
noncomputable def BM (l:List Col) (d:Col):Nat:=open Classical in if h:Bst l l.length d then h.choose else 0
theorem Tm {l:List Col} {d:Col} (h:Bst l l.length d):BM l d<l.length/\nth l (BM l d)=d/\ ∀i,i<l.length->kd (nth l i)=kd d->d.price<(nth l i).price\/(d.price=(nth l i).price/\BM l d<=i):=by
 have e:BM l d=h.choose:=by rw [BM,dif_pos h]
 grind
noncomputable def gr (x:Inst) (l ys:List Col) (D:Nat):Nat->Nat->St->List Int->List Int
 | 0,_,_,a=>a
 | d+1,k,s,a=>if (nth x.orders k).off=true\/0<=nth a k then gr x l ys D d (k+1) (Hf s) a else
  match (Ys ys k).find? (Ae x ys D s) with
  | some c=>gr x l ys D d (k+1) (AY s c) (VV c.set.toNat a (BM l c))
  | none=>gr x l ys D d (k+1) (Hf s) a
theorem Ko {x:Inst} {l ys:List Col} (hc:Ctx x l ys) {a:List Int} {s:St} {k:Nat} (h:Nd x l a s k) (hk:k<x.orders.length) {c:Col} (hm:c∈Ys ys k) (hy:YN x s c=true):BM l c<l.length/\nth l (BM l c)=c/\BB x l a (BM l c) k=true:=by
 obtain ⟨h1,h2,h3,h4⟩:=Aa hc hk hm;obtain ⟨p1,p2,_⟩:=Tm (hc.ch.bst c h1)
 grind [Si]
theorem Cd {x:Inst} {l:List Col} {a:List Int} {k j:Nat} (hl:a.length=x.orders.length) (hcan:BB x l a j k=true):(nth l j).set.toNat.testBit k=true/\ ∀t,t<x.orders.length->(t<k\/0<=nth a t)->nth (VV (nth l j).set.toNat a j) t=nth a t:=by
 simp only [BB,Zv,Kq,hl] at hcan
 grind [XC]
theorem DG {x:Inst} {l ys:List Col} (hc:Ctx x l ys) {D:Nat} : ∀(d k:Nat) (s:St) (a:List Int),k+d=x.orders.length->Nd x l a s k->(gr x l ys D d k s a).length=x.orders.length/\ ∀t,t<x.orders.length->(t<k\/0<=nth a t)->nth (gr x l ys D d k s a) t=nth a t
 | 0,k,s,a,_,h=>⟨h.len,fun _ _ _=>rfl⟩
 | d+1,k,s,a,hd,h=>by
  have hk:k<x.orders.length:=Za
  rw [gr];have skip:=DG hc (D:=D) d (k+1) (Hf s) a Za (h.skip' hk)
  split
  ·grind
  ·split
   ·rename_i c hf;have hsel:=Kg hf;simp only [Ae,Zv] at hsel;obtain ⟨p1,p2,p3⟩:=Ko hc h hk (Jf hf) hsel.1;have hch:=h.child hc hk p1 p3;rw [p2] at hch;have ho:=(Cd h.len p3).2;rw [p2] at ho;obtain ⟨g1,g2⟩:=DG hc (D:=D) d (k+1) (AY s c) _ Za hch;refine ⟨g1,fun t ht hh=> ?_⟩
    rw [g2 t ht (by
     rcases hh with h1 | h1
     ·left;omega
     ·right;rw [ho t ht (.inr h1)];exact h1),ho t ht hh]
   grind
theorem CM {x:Inst} {l:List Col} : ∀(d:Nat) (a:List Int) (p:Int),d<=x.orders.length->a.length=x.orders.length-> ∀q∈KC x l d a p,q.1.length=x.orders.length/\ ∀t,t<x.orders.length->(t<x.orders.length-d\/0<=nth a t)->nth q.1 t=nth a t
 | 0,a,p,_,h,q,hq=>by
  simp only [KC,Z7,Vd,Wi] at hq
  grind
 | d+1,a,p,hd,h,q,hq=>by
  rw [KC] at hq
  split at hq
  ·obtain ⟨g1,g2⟩:=CM d a p Za h q hq;exact ⟨g1,fun t ht hh=>g2 t ht (hh.imp Za id)⟩
  ·rw [Xe,X0] at hq;rcases hq with ⟨j,hj,hq⟩ | hq
   ·split at hq
    ·rename_i hcan;have ho:=(Cd h hcan).2;obtain ⟨g1,g2⟩:=CM d _ _ Za (by rw [UC];exact h) q hq;refine ⟨g1,fun t ht hh=> ?_⟩
     rw [g2 t ht (by
      rcases hh with h1 | h1
      ·left;omega
      ·right;rw [ho t ht (.inr h1)];exact h1),ho t ht hh]
    ·simp at hq
   ·split at hq
    ·obtain ⟨g1,g2⟩:=CM d a _ Za h q hq;exact ⟨g1,fun t ht hh=>g2 t ht (hh.imp Za id)⟩
    ·simp at hq
theorem KE.refl {n:Nat} {l:List Col} {a:List Int} :KE n l a a:=fun _ _=>⟨rfl,YS _⟩
theorem Zdx {l:List Col} {a:Int} (h:a<0):ky l a=(1,0,0):=if_pos h
theorem LO {l:List Col} {a:Int} (h:0<=a):ky l a=(0,(nth l a.toNat).typ,(nth l a.toNat).set):=if_neg Za
theorem Zkf {l:List Col} {i j:Nat} :ky l (i:Int)=ky l (j:Int)↔kd (nth l i)=kd (nth l j):=by
 grind [LO,kd]
theorem kJ {x:Inst} {s:St} {r:Col->Int} {ls:List Col} (hp: ∀c∈ls,0<=c.price) (hr: ∀c∈ls,YN x s c=true-> -1<=r c) {c:Col} (hc:c∈ls) (hy:YN x s c=true) (h0:0<=r c) :
  fJ (ls.foldl (fun o c=>if YN x s c=true then Wb o c.price (r c) else o) (-1)) (c.price+r c):=by
 have e:=J6 (f:=fun o c=>if YN x s c=true then Wb o c.price (r c) else o) (g:=fun o c=>if YN x s c=true then Wb o c.price (max (-1) (r c)) else o) (l:=ls) (b:=(-1:Int)) fun c hc o=>by
  grind
 rw [e];have:=(SG (x:=x) (s:=s) (r:=fun c=>max (-1) (r c)) (fun c=>Za) (l:=ls) (a:= -1) hp).2 c hc hy Za
 grind
theorem Pd {x:Inst} {l ys:List Col} (hc:Ctx x l ys) {D:Nat} {s:St} (hv:StV x.orders.length s): -1<=Lx x ys D s:=(Uu (m:=mI x) hc.ok D _ (Mr hv).1).1
theorem Sf {o p r:Int} (hr: -1<=r) (hp:0<=p):fJ (Wb o p r) o/\(0<=r->fJ (Wb o p r) (p+r)):=by
 grind [fJ,Wb]
theorem yW {x:Inst} {l ys:List Col} (hc:Ctx x l ys) {D:Nat} (hD:10<D) {a:List Int} {s:St} {k:Nat} (h:Nd x l a s k) (hk:k<x.orders.length) (ho:(nth x.orders k).off=false) (hak:nth a k<0) {c:Col} (hm:c∈Ys ys k) (hy:YN x s c=true) (h0:0<=Lx x ys D (AY s c)) :
  fJ (Lx x ys D s) (c.price+Lx x ys D (AY s c)):=by
 have hcv:s.cov.toNat.testBit k=false:=by rw [h.cov k hk];grind
 rw [Pc hc hD h.v h.ix hk ho hcv]
 have nd: ∀e∈Ys ys k,YN x s e=true->StV x.orders.length (AY s e):=fun e he hye=>by
  obtain ⟨p1,p2,p3⟩:=Ko hc h hk he hye;have:=(h.child hc hk p1 p3).v
  grind
 have low:=kJ (x:=x) (s:=s) (r:=fun c=>Lx x ys D (AY s c)) (ls:=Ys ys k) (fun e he=>(hc.typ (Aa hc hk he).2.1).2) (fun e he hye=>Pd hc (nd e he hye)) hm hy h0
 split
 ·rename_i hs;have b:=(Sf (o:=(Ys ys k).foldl (fun o c=>if YN x s c=true then Wb o c.price (Lx x ys D (AY s c)) else o) (-1)) (Pd hc (D:=D) (h.skip' hk).v) hs).1
  grind [fJ]
 ·exact low
theorem qN {x:Inst} {l ys:List Col} (hc:Ctx x l ys) {D:Nat} (hD:10<D) {a:List Int} {s:St} {k:Nat} (h:Nd x l a s k) (hk:k<x.orders.length) (ho:(nth x.orders k).off=false) (hak:nth a k<0) (hs:0<=skpF x k) (h0:0<=Lx x ys D (Hf s)) :
  fJ (Lx x ys D s) (skpF x k+Lx x ys D (Hf s)):=by
 have hcv:s.cov.toNat.testBit k=false:=by rw [h.cov k hk];grind
 rw [Pc hc hD h.v h.ix hk ho hcv,if_pos hs]
 grind [Sf]
theorem RY {x:Inst} {l ys:List Col} (hc:Ctx x l ys) {D:Nat} {a:List Int} {s:St} {k:Nat} (h:Nd x l a s k) (hk:k<x.orders.length) (ho:(nth x.orders k).off=true\/0<=nth a k):Lx x ys D s=Lx x ys D (Hf s):=by
 unfold Lx;rw [D7 h.ix hk (ho.imp (fun e=>by rw [Gh hc.n4 hk,e];rfl) fun e=>by rw [Cg h.v (by have:=hc.n4;omega),h.cov k hk];grind)]
theorem Cs {x:Inst} {l ys:List Col} (hc:Ctx x l ys) {D:Nat} (hD:10<D): ∀(d k:Nat) (s:St) (a b:List Int) (p:Int),k+d=x.orders.length->Nd x l a s k->Nd x l b s k->KE x.orders.length l a b-> ∀q∈KC x l d b p,
  0<=Lx x ys D s/\p+Lx x ys D s<=q.2/\(q.2=p+Lx x ys D s->KL x.orders.length l (gr x l ys D d k s a) q.1)
 | 0,k,s,a,b,p,hd,ha,hb,he,q,hq=>by
  simp only [KC,Z7,Vd,Wi] at hq;subst hq;rw [fP (by rw [ha.ix];omega)];exact ⟨Za,Zb,fun _=> .inr he⟩
 | d+1,k,s,a,b,p,hd,ha,hb,he,q,hq=>by
  have hk:k<x.orders.length:=Za
  have hkd:x.orders.length-(d+1)=k:=Za
  have hneg: ∀t,t<x.orders.length->(0<=nth a t↔0<=nth b t):=fun t ht=>by
   have h1:=ha.cov t ht;rw [hb.cov t ht,decide_eq_decide] at h1;exact h1.symm
  rw [KC,hkd] at hq;rw [gr]
  split at hq
  ·rename_i ho;have ho':(nth x.orders k).off=true\/0<=nth a k:=ho.imp id (hneg k hk).2;rw [if_pos ho',RY hc ha hk ho'];exact Cs hc hD d (k+1) (Hf s) a b p Za (ha.skip' hk) (hb.skip' hk) he q hq
  ·rename_i ho;have ho': ¬((nth x.orders k).off=true\/0<=nth a k):=fun g=>ho (g.imp id (hneg k hk).1);rw [if_neg ho']
   have hoff:(nth x.orders k).off=false:=by
    grind
   have hbk:nth b k<0:=Int.not_le.1 fun g=>ho (.inr g);have hak:nth a k<0:=Int.not_le.1 fun g=>ho' (.inr g)
   -- what was picked stands at k
   have hpick: ∀c,(Ys ys k).find? (Ae x ys D s)=some c->YN x s c=true/\c∈ys/\(∀t,t<k->nth (gr x l ys D d (k+1) (AY s c) (VV c.set.toNat a (BM l c))) t=nth a t)/\nth (gr x l ys D d (k+1) (AY s c) (VV c.set.toNat a (BM l c))) k=BM l c/\nth l (BM l c)=c:=fun c hf=>by
    have hsel:=Kg hf;simp only [Ae,Zv] at hsel;obtain ⟨p1,p2,p3⟩:=Ko hc ha hk (Jf hf) hsel.1;have hch:=ha.child hc hk p1 p3;obtain ⟨c1,c2⟩:=Cd ha.len p3;rw [p2] at hch c1 c2;have g2:=(DG hc (D:=D) d (k+1) (AY s c) _ Za hch).2;refine ⟨hsel.1,(Aa hc hk (Jf hf)).1,fun t ht=> ?_,?_,p2⟩
    ·grind
    ·rw [g2 k hk (.inl Za),XC (by rw [ha.len];exact hk),if_pos c1]
   rw [Xe,X0] at hq;rcases hq with ⟨j,hj,hq⟩ | hq
   ·have hj:=ZO.1 hj
    split at hq
    ·rename_i hcan;obtain ⟨hy,htz⟩:=(Si hc hb hk hj).1 hcan;have hjl:=Z2 hj;obtain ⟨d',hd',hkd',hpr⟩:=iP hc.ch hjl
     have hst:d'.set=(nth l j).set/\d'.typ=(nth l j).typ:=by
      grind [kd]
     have hm:d'∈Ys ys k:=by
      simp_all [Ys]
     have hy':YN x s d'=true:=by grind [YN]
     have hnx:AY s d'=AY s (nth l j):=by grind [AY]
     have hcb:=hb.child hc hk hj hcan;obtain ⟨cb1,cb2⟩:=Cd hb.len hcan;have hqo:=(CM d _ _ Za (by rw [UC];exact hb.len) q hq).2
     have hqt: ∀t,t<k->nth q.1 t=nth b t:=fun t ht=>by rw [hqo t Za (.inl Za),cb2 t Za (.inl ht)]
     have hqk:nth q.1 k=j:=by rw [hqo k hk (.inl Za),XC (by rw [hb.len];exact hk),if_pos cb1]
     obtain ⟨i1,i2,_⟩:=Cs hc hD d (k+1) _ _ _ _ Za hcb hcb KE.refl q hq;rw [<- hnx] at i1 i2;have hle:=yW hc hD ha hk hoff hak hm hy' i1;have hp0:=(hc.typ (Aa hc hk hm).2.1).2
     have hL0:0<=Lx x ys D s/\Lx x ys D s<=d'.price+Lx x ys D (AY s d'):=by
      rcases hle with h | h
      ·-- the least price would be lacking: not so, azs the column leads on
       omega
      ·exact h
     refine ⟨hL0.1,Za,fun hqc=> ?_⟩
     have hpe:d'.price=(nth l j).price:=Za
     have hLe:d'.price+Lx x ys D (AY s d')=Lx x ys D s:=Za
     have hsel:Ae x ys D s d'=true:=by simp_all [Ae]
     have hpos:=Tm (hc.ch.bst d' hd')
     have hpj:BM l d'<=j:=by
      rcases hpos.2.2 j hj hkd'.symm with h | h
      ·omega
      ·exact h.2
     cases hf:(Ys ys k).find? (Ae x ys D s) with
     | none=>rw [Kb] at hf;simp_all
     | some c =>
      obtain ⟨k1,k2,k3,k4,k5⟩:=hpick c hf;simp only
      by_cases hcd:c=d'
      ·subst hcd;obtain ⟨p1,p2,p3⟩:=Ko hc ha hk hm hy';have hca:=ha.child hc hk p1 p3;rw [p2] at hca;rw [<- hnx] at hcb;refine (Cs hc hD d (k+1) _ _ _ _ Za hca hcb (fun t ht=> ?_) q hq).2.2 Za;rw [hst.1,XC (by rw [ha.len];exact ht),XC (by rw [hb.len];exact ht)]
       cases hbt:(nth l j).set.toNat.testBit t with
       | true =>
        rw [if_pos rfl,if_pos rfl,Zkf,p2]
        grind
       | false =>
        rw [if_neg Zb,if_neg Zb];exact he t ht
      ·-- an earlier kind
       have hlt:cfK c d'<0:=by
        have hpw:(Ys ys k).Pairwise fun a b=>cfK a b<0:=hc.ch.asc.filter _;obtain ⟨_,u,w,hab,hno⟩:=List.find?_eq_some_iff_append.1 hf;rw [hab] at hpw hm;rw [E6,List.pairwise_cons] at hpw;rcases Xe.1 hm with h | h
        ·have:=hno d' h
         grind
        ·rcases Z7.1 h with h | h
         ·grind
         ·exact hpw.2.1.1 d' h
       rw [FO] at hlt;refine .inl ⟨k,hk,fun t ht=> ?_,?_⟩
       ·rw [k3 t ht,hqt t ht];exact (he t Za).1
       ·rw [k4,hqk,LO Za,LO Za,XD,XD,k5]
        right
        grind
    ·simp at hq
   ·split at hq
    ·rename_i hpen;obtain ⟨s1,s2⟩:=hc.sk k hk hoff;have hs0:=s1.1 hpen;have hse:=s2 hs0;rw [<- hse] at hq;have hqo:=(CM d _ _ Za hb.len q hq).2;obtain ⟨i1,i2,i3⟩:=Cs hc hD d (k+1) (Hf s) a b _ Za (ha.skip' hk) (hb.skip' hk) he q hq;have hle:=qN hc hD ha hk hoff hak hs0 i1;have hrg:=Pd hc (D:=D) ha.v
     have hL0:0<=Lx x ys D s/\Lx x ys D s<=skpF x k+Lx x ys D (Hf s):=by
      rcases hle with h | h
      ·omega
      ·exact h
     refine ⟨hL0.1,Za,fun hqc=> ?_⟩
     cases hf:(Ys ys k).find? (Ae x ys D s) with
     | none=>grind
     | some c =>
      obtain ⟨k1,k2,k3,k4,k5⟩:=hpick c hf;simp only;refine .inl ⟨k,hk,fun t ht=> ?_,?_⟩
      ·rw [k3 t ht,hqo t Za (.inl Za)];exact (he t Za).1
      ·rw [k4,hqo k hk (.inl Za),LO Za,Zdx hbk]
       left;omega
    ·simp at hq
theorem O2 {x:Inst} {S:Nat} (hn:x.orders.length<=4) (hS:S<9223372036854775808):RW S (Yy x x.orders.length)=(decide (S<2^x.orders.length)&&(List.range x.orders.length).all fun i=> !(S.testBit i&&(nth x.orders i).off)):=by
 rw [Wz,Zv,Zq,RW,ZD,ZD]
 constructor
 ·intro h
  have key: ∀i,S.testBit i=true->i<x.orders.length/\(nth x.orders i).off=false:=fun i hi=>by
   have h63:i<63:=by
    rcases Wm i 63 with h | h
    ·exact h
    ·have:2^63<=2^i:=Yw Za h
     grind [AE]
   grind [Qf]
  refine ⟨Nat.lt_pow_two_of_testBit _ fun i hi=> ?_,fun i _=> ?_⟩
  ·grind
  grind
 ·rintro ⟨h1,h2⟩ i _
  cases hb:S.testBit i with
  | false=>rfl
  | true =>
   have hi:i<x.orders.length:=by
    rcases Wm i x.orders.length with h | h
    ·exact h
    ·have:2^x.orders.length<=2^i:=Yw Za h
     grind [AE]
   have:=h2 i (ZO.2 hi)
   simp_all [Qf]
theorem dP (x:Inst) (c:Col) (hn:x.orders.length<=4) (ht:x.types.length<=1048576) (hs:c.set<9223372036854775808):PC 115 [.p (Zs x),.p (Xv c)] (.bool (rightB x c)):=by
 obtain ⟨B,hB⟩: ∃B,B=rightB x c:=⟨_,rfl⟩;rw [<- hB]
 have h54:((pw 54:Nat):Int)=18014398509481984:=by decide
 refine Zc Tryz.func115 rfl Za8 ?_;simp (disch:=omega) only [Tryz.f115,go_sem,seval];refine Xj (Zd ?_);refine gF ?_ ?_<;>intro h1<;>simp (disch:=omega) only [Sh.out h1,go_sem,seval,↓reduceIte]
 ·grind [rightB]
 ·refine gF ?_ ?_<;>intro h2<;>simp (disch:=omega) only [Sh.out h2,go_sem,seval,↓reduceIte]
  ·grind [rightB]
  ·refine gF ?_ ?_<;>intro h3<;>simp (disch:=omega) only [Sh.out h3,go_sem,seval,↓reduceIte]
   ·grind [rightB]
   ·obtain ⟨S,hS⟩: ∃S:Nat,c.set=S:=⟨c.set.toNat,Za⟩
    have e0:B=(decide (S<2^x.orders.length)&&((List.range x.orders.length).all fun i=> !(S.testBit i&&(nth x.orders i).off))&&(decide (0<=c.price)&&decide (c.price<=18014398509481984))):=by
     grind [rightB,O2]
    rw [hS];refine Zo (Li x.orders.length Za) (Zd ?_);have hpw:pw x.orders.length=2^x.orders.length:=rfl;refine gF ?_ ?_<;>intro h4<;>simp (disch:=omega) only [Sh.out h4,go_sem,seval,↓reduceIte]
    ·grind [Vs]
    ·refine gF ?_ ?_<;>intro h5<;>simp (disch:=omega) only [Sh.out h5,go_sem,seval,↓reduceIte]
     ·grind
     ·refine Zo (Li 54 Za) (Zd ?_);rw [h54];refine cD ?_ ?_<;>intro h6<;>simp (disch:=omega) only [Sh.out h6,go_sem,seval]
      ·grind
      ·have e1:B=((List.range x.orders.length).all fun i=> !(S.testBit i&&(nth x.orders i).off)):=by grind
       refine Zl [2,3] (fun k:Nat=> [(5,.p (.int .i64 k))]) (fun _=> [Zf x,Ls c]) (fun k=>k<=x.orders.length/\ ∀j,j<k->(!(S.testBit j&&(nth x.orders j).off))=true) (fun k=>x.orders.length-k) 0 ⟨Zb,fun j hj=>Za⟩ (Weak.mk ?_) ?_
       ·simp (disch:=omega) only [Zf,Ls,hS,go_sem,seval]
       ·rintro k ⟨hk,hno⟩;simp (disch:=omega) only [Zf,Ls,hS,go_sem,seval];refine cD ?_ ?_<;>intro h7<;>simp (disch:=omega) only [Sh.out h7,go_sem,seval,↓reduceIte]
        ·have hk2:k<x.orders.length:=Za
         refine (LG S k Za Za).use (Zd ?_);refine Jv ?_ ?_<;>intro h8
         ·refine Z0 ?_ ?_<;>intro h9
          ·grind
          ·exact ⟨k+1,⟨Za,Wx hno (by grind)⟩,Za,Weak.mk (by simp (disch:=omega) only [hS,go_sem,seval])⟩
         ·exact ⟨k+1,⟨Za,Wx hno (by rw [h8];rfl)⟩,Za,Weak.mk (by simp (disch:=omega) only [hS,go_sem,seval])⟩
        grind
def zCh : Chc:=⟨false,[],0⟩
def aY (b:Chc):PV:= .agg [.bool b.found,.list (!b.found) (b.places.map eI),.int .i64 b.price]
@[go_sem] theorem Zmf (b:Chc):aY b= .agg [.bool b.found,.list (!b.found) (b.places.map eI),.int .i64 b.price]:=Zm rfl rfl
def MF (b:Chc):AM.Obj:= .cells [.p (.bool b.found),.p (.list (!b.found) (b.places.map eI)),.p (.int .i64 b.price)]
def Ez (x:Inst) (l:List Col):Chc:=(KC x l x.orders.length (List.replicate x.orders.length (-1)) 0).foldl (YZ l) zCh
def fN (x:Inst) (l:List Col) (b:Chc) (e:Int):Prop:=(8192<l.length/\b=zCh/\e=4)\/(l.length<=8192/\(∃c∈l,rightB x c=false)/\b=zCh/\e=2) \/
 (l.length<=8192/\(∀c∈l,rightB x c=true)/\(((Ez x l).found=false/\b=zCh/\e=24)\/((Ez x l).found=true/\b=Ez x l/\e=0)))
theorem Fc {n i:Nat} (h:i<n):nth (List.replicate n (-1:Int)) i= -1:=by
 grind [Zi]
theorem To {x:Inst} {l:List Col} :RngA x l (List.replicate x.orders.length (-1)):=⟨Zb,fun i hi=>by rw [Fc hi];omega⟩
theorem Nc {x:Inst} {l:List Col} (h4:x.orders.length<=4) (h6:x.types.length<=6) (hl:l.length<=1048576) (hs: ∀c∈l,c.set<9223372036854775808) (hr: ∀c∈l,rightB x c=true)
  (hsk: ∀k,k<x.orders.length->(nth x.orders k).off=false->0<=(nth x.orders k).penalty->0<=skR x k/\skR x k<=18014398509481984) (hus: ∀i,scoR 1152921504606846976 (unsF x i).1):ColsR x l :=
 ⟨h4,h6,hl,fun c hc=>by
  obtain ⟨S,q1,q2,q3,_⟩:=Qy (hr c hc) (hs c hc);have h:=hr c hc;simp only [rightB,Zv,Zq] at h
  exact ⟨⟨h.1,h.2.1⟩,h.2.2.2.2,S,q1,UL q3 (Yw (n:=2) Za h4)⟩,hsk,hus⟩
theorem PI (x:Inst) (l:List Col) (lc:Bool) (h4:x.orders.length<=4) (h6:x.types.length<=6) (hl:l.length<=1048576) (hs: ∀c∈l,c.set<9223372036854775808)
  (hsk: ∀k,k<x.orders.length->(nth x.orders k).off=false->0<=(nth x.orders k).penalty->0<=skR x k/\skR x k<=18014398509481984) (hus: ∀i,scoR 1152921504606846976 (unsF x i).1) :
  ACalls Tryz.prog 85 [.p (Zs x),.p (.list lc (l.map Xv))] [] fun y H'=> ∃b e,fN x l b e/\y= .tup [.p (aY b),.p (.int .i64 e)]/\H'= []:=by
 refine Ze [14] Tryz.func85 rfl Zj3 ?_;simp (disch:=omega) only [Tryz.f85,go_sem,seval];refine cD ?_ ?_<;>intro h1<;>simp (disch:=omega) only [Sh.out h1,go_sem,seval,↓reduceIte]
 ·exact ⟨.tup [.p (aY zCh),.p (.int .i64 4)],[],Weak.mk (by simp (disch:=omega) only [zCh,WS,Zk,go_sem,seval]),_,_,.inl ⟨Za,rfl,rfl⟩,rfl,rfl⟩
 ·refine Zl [1,2,4] (fun k:Nat=> [(6,.p (.int .i64 k))]) (fun _=> [Zf x,MF zCh]) (fun k=>k<=l.length/\ ∀j,j<k->rightB x (nth l j)=true) (fun k=>l.length-k) 0 ⟨Zb,fun j hj=>Za⟩ (Weak.mk ?_) ?_
  ·simp (disch:=omega) only [Zf,MF,zCh,WS,Zk,go_sem,seval]
  ·rintro k ⟨hk,hno⟩;simp (disch:=omega) only [Zf,MF,zCh,WS,Zk,go_sem,seval];refine cD ?_ ?_<;>intro h2<;>simp (disch:=omega) only [Sh.out h2,go_sem,seval,↓reduceIte]
   ·have hk2:k<l.length:=Za
    refine Xj (Zd ?_);refine Zo (dP x (nth l k) h4 Za (hs _ (Z2 hk2))) (Zd ?_)
    cases hr:rightB x (nth l k) with
    | false =>
     refine G3 ?_;exact ⟨.tup [.p (aY zCh),.p (.int .i64 2)],[],Weak.mk (by simp (disch:=omega) only [zCh,WS,Zk,go_sem,seval]),_,_,.inr (.inl ⟨Za,⟨_,Z2 hk2,hr⟩,rfl,rfl⟩),rfl,rfl⟩
    | true =>
     refine G4 ?_;exact ⟨k+1,⟨Za,Wx hno hr⟩,Za,wk⟩
   ·have hr: ∀c∈l,rightB x c=true:=fun c hc=>by
     obtain ⟨j,hj,rfl⟩:=ZU.1 hc
     grind [Zi]
    have hC:=Nc h4 h6 hl hs hr hsk hus;clear hno hk h2;refine Z3 [14] [2,4,7] (fun k:Nat=> [(8,.sl 3 0 k k),(9,.p (.int .i64 k))]) (fun k=> [Zf x,MF zCh,UW x lc l zCh,.elems 1 ((List.replicate k (-1:Int)).map eI)]) (fun k=>k<=x.orders.length) (fun k=>x.orders.length-k) 0 Zb (Weak.ofNil 8 1 (by simp (disch:=omega) only [go_sem,seval]) Zb (Weak.mk ?_)) ?_
    ·simp (disch:=omega) only [Zf,MF,UW,zCh,WS,Zk,List.replicate_zero,ZJ,go_sem,seval]
    ·intro k hk;simp (disch:=omega) only [Zf,MF,UW,zCh,WS,Zk,go_sem,seval];refine cD ?_ ?_<;>intro h2<;>simp (disch:=omega) only [Sh.out h2,go_sem,seval,↓reduceIte]
     ·have hk2:k<x.orders.length:=Za
      have hrp:(List.replicate k (-1:Int))++ [-1]=List.replicate (k+1) (-1):=by rw [E7]
      simp (disch:=omega) only [AF,go_sem,seval];rw [if_pos ⟨Za,Za⟩];refine Zd ?_;exact ⟨k+1,Za,Za,Weak.mk (by simp (disch:=omega) only [<- hrp,Xy,Zt,Zk,go_sem,seval])⟩
     ·have hkn:k=x.orders.length:=Za
      subst hkn;refine Zp (Weak.fz (o:=3) (by rfl)) ?_;refine Zh [] _ _ _ _ ?_;simp (disch:=omega) only [Zt,Zk,ZQ,ZG,AF,eq_self,go_sem,seval];have ht:=TL x lc l hC x.orders.length (List.replicate x.orders.length (-1)) 0 zCh (Zy _) To Za Za (fun h=>by cases h);rw [AU] at ht;obtain ⟨B,hB⟩: ∃B,B=Ez x l:=⟨_,rfl⟩;rw [show (KC x l x.orders.length (List.replicate x.orders.length (-1)) 0).foldl (YZ l) zCh=B from hB.symm] at ht;refine ACalls.mono (((ht.mono fun y H' hq=>(⟨hq,by grind⟩:_/\H'.length= [UW x lc l zCh].length)).front (by rfl) (by rfl) [.dead]).back [Zf x,MF zCh] (by rfl)) ?_
      rintro y H' ⟨y1,H1,⟨H2,⟨rfl,rfl⟩,rfl⟩,rfl,rfl⟩;obtain ⟨f,bp,bc⟩:=B
      cases f with
      | false =>
       simp (disch:=omega) only [shV,shVs,shO,UW,Zf,MF,zCh,Zt,Zk,ZR,ZH,WS,go_sem,seval];exact ⟨.tup [.p (aY zCh),.p (.int .i64 24)],[],Weak.mk (by simp (disch:=omega) only [zCh,WS,Zk,go_sem,seval]),_,_,.inr (.inr ⟨Za,hr,.inl ⟨by rw [<- hB],rfl,rfl⟩⟩),rfl,rfl⟩
      | true =>
       simp (disch:=omega) only [shV,shVs,shO,UW,Zf,MF,zCh,Zt,Zk,ZR,ZH,Yx,go_sem,seval];exact ⟨.tup [.p (aY ⟨true,bp,bc⟩),.p (.int .i64 0)],[],Weak.mk (by simp (disch:=omega) only [Yx,go_sem,seval]),_,_,.inr (.inr ⟨Za,hr,.inr ⟨by rw [<- hB],hB,rfl⟩⟩),rfl,rfl⟩
theorem lS {l:List Col} {x y:Int} (hx: -1<=x) (hy: -1<=y) (h:ky l x=ky l y):(x<0->x=y)/\(y<0->x=y)/\(0<=x->0<=y/\(nth l x.toNat).typ=(nth l y.toNat).typ/\(nth l x.toNat).set=(nth l y.toNat).set):=by
 unfold ky at h
 grind
theorem Dy {l:List Col} : ∀ {a b:List Int},a.length=b.length->(∀t,t<a.length-> -1<=nth a t/\ -1<=nth b t/\ky l (nth a t)=ky l (nth b t))->KG l a b=none
 | [],[],_,_=>MX
 | [],_::_,h,_=>by simp at h
 | _::_,[],h,_=>by simp at h
 | x::a,y::b,hl,h=>by
  have ih:=Dy (l:=l) (a:=a) (b:=b) (by grind) fun t ht=>h (t+1) (by grind);obtain ⟨h1,h2,h3⟩:=h 0 Zb;obtain ⟨k1,k2,k3⟩:=lS (show-1<=x from h1) (show-1<=y from h2) h3;rw [KG]
  grind
theorem Sc {l:List Col} : ∀ {a b:List Int} {i:Nat},a.length=b.length->i<a.length->(∀t,t<a.length-> -1<=nth a t/\ -1<=nth b t)->(∀t,t<i->ky l (nth a t)=ky l (nth b t))->lR (ky l (nth a i)) (ky l (nth b i))->KG l a b=some true/\KG l b a=some false
 | [],_,_,_,h,_,_,_=>by simp at h
 | _::_,[],_,h,_,_,_,_=>by simp at h
 | x::a,y::b,0,_,_,hr,_,h=>by
  obtain ⟨h1,h2⟩:=hr 0 Zb;have h':lR (ky l x) (ky l y):=h
  have hne:x≠y:=fun e=>by grind [lR]
  rw [KG,KG,if_neg hne,if_neg (Ne.symm hne)];unfold ky lR at h'
  grind
 | x::a,y::b,i+1,hl,hi,hr,he,h=>by
  have ih:=Sc (l:=l) (a:=a) (b:=b) (i:=i) (by grind) (by grind) (fun t ht=>hr (t+1) (by grind)) (fun t ht=>he (t+1) Za) h;obtain ⟨h1,h2⟩:=hr 0 Zb;have h3:ky l x=ky l y:=he 0 Za;obtain ⟨k1,k2,k3⟩:=lS (show-1<=x from h1) (show-1<=y from h2) h3;rw [KG,KG]
  grind
theorem Sd : ∀ {a b:List Int},a.length=b.length->(∀t,t<a.length->nth a t<=nth b t)->a=b\/(EA a b=true/\EA b a=false)
 | [],[],_,_=> .inl rfl
 | [],_::_,h,_=>by simp at h
 | _::_,[],h,_=>by simp at h
 | x::a,y::b,hl,h=>by
  have h0:x<=y:=h 0 Zb;rw [EA,EA]
  by_cases hxy:x=y
  ·subst hxy;rw [if_pos rfl,if_pos rfl];rcases Sd (a:=a) (b:=b) (by grind) (fun t ht=>h (t+1) (by grind)) with e | e
   ·grind
   grind
  grind
theorem yV {x:Inst} {l:List Col} {a b:List Int} (ha:RngA x l a) (hb:RngA x l b) (h:KL x.orders.length l a b):a=b\/(FJ l a b=true/\FJ l b a=false):=by
 have hl:a.length=b.length:=by rw [ha.1,hb.1]
 have hr: ∀t,t<a.length-> -1<=nth a t/\ -1<=nth b t:=fun t ht=>⟨(ha.2 t (by rw [<- ha.1];exact ht)).1,(hb.2 t (by rw [<- ha.1];exact ht)).1⟩;rcases h with ⟨i,hi,he,hlt⟩ | h
 ·obtain ⟨h1,h2⟩:=Sc hl (by rw [ha.1];exact hi) hr he hlt
  grind [Jt]
 ·have h1:=Dy (l:=l) hl fun t ht=>⟨(hr t ht).1,(hr t ht).2,(h t (by rw [<- ha.1];exact ht)).1⟩;have h2:=Dy (l:=l) hl.symm fun t ht=>⟨(hr t Za).2,(hr t Za).1,((h t (by rw [<- hb.1];exact ht)).1).symm⟩;rcases Sd hl fun t ht=>(h t (by rw [<- ha.1];exact ht)).2 with e | ⟨e1,e2⟩
  ·exact .inl e
  grind [HG]
def Prf (l:List Col) (P:List Int) (W:Int) (q:List Int×Int):Prop:=W<=q.2/\(q.2=W->P=q.1\/(FJ l P q.1=true/\FJ l q.1 P=false))
theorem OX {l:List Col} {P:List Int} {W:Int} : ∀ {L:List (List Int×Int)},(∀q∈L,Prf l P W q)->L.foldl (YZ l) ⟨true,P,W⟩=⟨true,P,W⟩
 | [],_=>rfl
 | q::L,h=>by
  have e:YZ l ⟨true,P,W⟩ q=⟨true,P,W⟩:=by
   obtain ⟨h1,h2⟩:=h q Zb;unfold YZ
   split
   ·rename_i hc;rcases hc with hc | hc | ⟨hc,hd⟩
    ·cases hc
    ·simp only at hc;omega
    ·simp only at hc hd;rcases h2 hc with e | ⟨_,e⟩
     ·rw [<- e,hc]
     ·rw [e] at hd;cases hd
   ·rfl
  rw [XS,e];exact OX fun q hq=>h q (Yo _ hq)
theorem IT {l:List Col} {P:List Int} {W:Int} : ∀ {L:List (List Int×Int)} {b:Chc},(b.found=false\/Prf l P W (b.places,b.price))->(∀q∈L,Prf l P W q)->(P,W)∈L->L.foldl (YZ l) b=⟨true,P,W⟩
 | [],_,_,_,hm=>by simp at hm
 | q::L,b,hb,h,hm=>by
  rw [XS];have hq:=h q Zb;have hL: ∀q∈L,Prf l P W q:=fun q hq=>h q (Yo _ hq)
  by_cases e:q=(P,W)
  ·have:YZ l b q=⟨true,P,W⟩:=by
    subst e;unfold YZ
    split
    ·rfl
    ·rename_i hc;rcases hb with hb | ⟨h1,h2⟩
     ·grind
     ·simp only at h1 h2 hc
      have h3:b.price=W:=by
       omega
      rcases h2 h3 with e | ⟨e,_⟩
      ·obtain ⟨f,bp,bc⟩:=b
       grind
      grind
   grind [OX]
  ·refine IT ?_ hL (by
    rcases Z7.1 hm with h | h
    ·exact absurd h.symm e
    ·exact h)
   unfold YZ
   split
   ·exact .inr hq
   ·exact hb
theorem SI {x:Inst} {l ys:List Col} (hc:Ctx x l ys) {D:Nat} (hD:10<D): ∀(d k:Nat) (s:St) (a:List Int) (p:Int),k+d=x.orders.length->Nd x l a s k->0<=Lx x ys D s->(gr x l ys D d k s a,p+Lx x ys D s)∈KC x l d a p
 | 0,k,s,a,p,hd,ha,h0=>by
  rw [fP (by rw [ha.ix];omega),Vj,gr,KC];simp
 | d+1,k,s,a,p,hd,ha,h0=>by
  have hk:k<x.orders.length:=Za
  have hkd:x.orders.length-(d+1)=k:=Za
  rw [KC,hkd,gr]
  split
  ·rename_i ho;rw [RY hc ha hk ho] at h0 ⊢;exact SI hc hD d (k+1) _ a p Za (ha.skip' hk) h0
  ·rename_i ho
   have hoff:(nth x.orders k).off=false:=by
    cases e:(nth x.orders k).off with
    | false=>rfl
    | true=>exact absurd (.inl e) ho
   have hak:nth a k<0:=Int.not_le.1 fun g=>ho (.inr g)
   have hcv:s.cov.toNat.testBit k=false:=by rw [ha.cov k hk];exact Vs Za
   rw [Xe,X0]
   cases hf:(Ys ys k).find? (Ae x ys D s) with
   | some c =>
    left
    have hsel:=Kg hf;simp only [Ae,Zv,Zq] at hsel;obtain ⟨p1,p2,p3⟩:=Ko hc ha hk (Jf hf) hsel.1;have hch:=ha.child hc hk p1 p3;rw [p2] at hch;refine ⟨BM l c,ZO.2 p1,?_⟩;rw [if_pos p3,p2];have:=SI hc hD d (k+1) _ _ (p+c.price) Za hch hsel.2.1;rw [show p+c.price+Lx x ys D (AY s c)=p+Lx x ys D s by omega] at this;exact this
   | none =>
    right
    rw [Kb] at hf;have hdec:=Pc hc hD ha.v ha.ix hk hoff hcv;have hno: ∀c∈Ys ys k,YN x s c=true->0<=Lx x ys D (AY s c)->c.price+Lx x ys D (AY s c)≠Lx x ys D s:=fun c hm hy hL e=>hf c hm (by simp only [Ae,hy,Ud hL,Ud e,Bool.and_self]);obtain ⟨s1,s2⟩:=hc.sk k hk hoff;have hfold:=HZ (x:=x) (s:=s) (r:=fun c=>Lx x ys D (AY s c)) (l:=Ys ys k) (a:= -1)
    by_cases hs:0<=skpF x k
    ·rw [if_pos (s1.2 hs),<- s2 hs];rw [if_pos hs] at hdec;unfold Wb at hdec
     split at hdec
     ·rename_i hb;have:=SI hc hD d (k+1) _ a (p+skpF x k) Za (ha.skip' hk) hb.1;rw [show p+skpF x k+Lx x ys D (Hf s)=p+Lx x ys D s by omega] at this;exact this
     ·exfalso;rcases hfold with e | ⟨c,h1,h2,h3,h4⟩
      ·unfold Wb at e;omega
      ·exact hno c h1 h2 h3 (by rw [hdec];exact h4.symm)
    ·exfalso;rw [if_neg hs] at hdec;rcases hfold with e | ⟨c,h1,h2,h3,h4⟩
     ·omega
     ·exact hno c h1 h2 h3 (by rw [hdec];exact h4.symm)
def Tu (l:List Col) (g:List Int) (T:Nat):Nat->List Col
 | 0=> []
 | i+1=>Tu l g T i++(if 0<=nth g i/\(nth l (nth g i).toNat).typ=T/\(nth l (nth g i).toNat).set%(pw i:Nat)=0 then [nth l (nth g i).toNat] else [])
def MG (l:List Col) (g:List Int) (n:Nat):Nat->List Col
 | 0=> []
 | T+1=>MG l g n T++Tu l g T n
def fM (x:Inst) (g:List Int):Nat->List Int
 | 0=> []
 | i+1=>fM x g i++(if nth g i<0/\(nth x.orders i).off=false then [(i:Int)] else [])
theorem Mj {l:List Col} {g:List Int} {T:Nat} : ∀k,(Tu l g T k).length<=k
 | 0=>Zy _
 | k+1=>by
  have:=Mj (l:=l) (g:=g) (T:=T) k;rw [Tu,ZA];split<;>simp<;>omega
theorem Mk {l:List Col} {g:List Int} {n:Nat} : ∀T,(MG l g n T).length<=T*n
 | 0=>by simp [MG]
 | T+1=>by
  have:=Mk (l:=l) (g:=g) (n:=n) T;have:=Mj (l:=l) (g:=g) (T:=T) n;rw [MG,ZA,XO];omega
theorem My {x:Inst} {g:List Int} : ∀k,(fM x g k).length<=k
 | 0=>Zy _
 | k+1=>by
  have:=My (x:=x) (g:=g) k;rw [fM,ZA];split<;>simp<;>omega
def MH (x:Inst) (l:List Col) (p:Pln) (c e:Int):Prop:= ∃b,fN x l b e/\(e≠0->p=zPlC/\c=0)/\(e=0->c=b.price/\p=⟨false,(MG l b.places b.places.length x.types.length).map (·.route),false,fM x b.places b.places.length⟩)
def fL (v w:V):AM.Obj:= .cells [v,w]
theorem Na (x:Inst) (l:List Col) (lc:Bool) (h4:x.orders.length<=4) (h6:x.types.length<=6) (hl:l.length<=1048576) (hs: ∀c∈l,c.set<9223372036854775808)
  (hsk: ∀k,k<x.orders.length->(nth x.orders k).off=false->0<=(nth x.orders k).penalty->0<=skR x k/\skR x k<=18014398509481984) (hus: ∀i,scoR 1152921504606846976 (unsF x i).1) :
  ACalls Tryz.prog 55 [.p (Zs x),.p (.list lc (l.map Xv))] [] fun y H'=> ∃p c e,MH x l p c e/\y= .tup [.p (J3 p),.p (.int .i64 c),.p (.int .i64 e)]/\H'= []:=by
 refine Ze [18] Tryz.func55 rfl ZjC ?_;simp (disch:=omega) only [Tryz.f55,go_sem,seval];refine ((PI x l lc h4 h6 hl hs hsk hus).behind (by rfl) _).mono ?_;rintro y H' ⟨y1,H1,⟨b,e,hb,rfl,rfl⟩,rfl,rfl⟩;simp (disch:=omega) only [shV,shVs,Zk,go_sem,seval];refine cD ?_ ?_<;>intro h1<;>simp (disch:=omega) only [Sh.out h1,go_sem,seval,↓reduceIte]
 ·exact ⟨.tup [.p (J3 zPlC),.p (.int .i64 0),.p (.int .i64 e)],[],Weak.mk (by simp (disch:=omega) only [zPlC,Zk,go_sem,seval]),_,_,_,⟨b,hb,fun _=>⟨rfl,rfl⟩,fun h=>absurd h h1⟩,rfl,rfl⟩
 ·have he:e=0:=Za
  subst he;have hcv:=hb;rcases hb with ⟨_,_,h⟩ | ⟨_,_,_,h⟩ | ⟨hl2,hr,⟨_,_,h⟩ | ⟨hf,rfl,_⟩⟩
  ·cases h
  ·cases h
  ·cases h
  ·have hC:=Nc h4 h6 hl hs hr hsk hus;have hrg:RngA x l (Ez x l).places:=(MA (x:=x) (l:=l) (b:=zCh) (fun h=>by cases h) (AV x.orders.length To)) hf;obtain ⟨⟨f,g,c⟩,hB⟩: ∃B,B=Ez x l:=⟨_,rfl⟩;rw [<- hB] at hcv hf hrg ⊢;simp only at hf hrg;subst hf;have hgl:g.length=x.orders.length:=hrg.1;refine Zl [1,2,4,7,9] (fun T:Nat=> [(10,.p (.int .i64 T))]) (fun T=> [Zf x,fL (.p (.list true [])) (.p (.list true [])),MF ⟨true,g,c⟩,fL (.sl 4 0 (MG l g g.length T).length (MG l g g.length T).length) (.p (.list true [])),.elems 4 ((MG l g g.length T).map fun c=>WM c.route)]) (fun T=>T<=x.types.length) (fun T=>x.types.length-T) 0 Zb ((Weak.nilC (o:=3) (j:=0) 4 (by rfl) (by rfl) Zb).trans (Weak.mk ?_)) ?_
   ·simp (disch:=omega) only [Zf,fL,MF,Yx,MG,Zk,ZJ,ZQ,ZG,go_sem,seval]
   ·intro T hT;obtain ⟨R,hR⟩: ∃R,R=MG l g g.length T:=⟨_,rfl⟩;have hRl:=Mk (l:=l) (g:=g) (n:=g.length) T;rw [<- hR] at hRl ⊢
    have hRs:MG l g g.length (T+1)=R++Tu l g T g.length:=by rw [hR];rfl
    have hTn:T*g.length<=6*4:=AO Za Za;simp (disch:=omega) only [Zf,fL,MF,Yx,go_sem,seval];refine cD ?_ ?_<;>intro h2<;>simp (disch:=omega) only [Sh.out h2,go_sem,seval,↓reduceIte]
    ·obtain ⟨W,hW⟩: ∃W:Nat->List Col,W=fun i=>R++Tu l g T i:=⟨_,rfl⟩
     have hW0:W 0=R:=by grind [Tu]
     have hWn:MG l g g.length (T+1)=W g.length:=by rw [hRs,hW]
     have hWl: ∀i,(W i).length<=R.length+i:=fun i=>by
      grind [Mj]
     have hWs: ∀i,W (i+1)=W i++(if 0<=nth g i/\(nth l (nth g i).toNat).typ=T/\(nth l (nth g i).toNat).set%(pw i:Nat)=0 then [nth l (nth g i).toNat] else []):=fun i=>by grind [Tu]
     clear hW hRs;refine Zl [1,2,4,7,9,10] (fun i:Nat=> [(11,.p (.int .i64 i))]) (fun i=> [Zf x,fL (.p (.list true [])) (.p (.list true [])),MF ⟨true,g,c⟩,fL (.sl 4 0 (W i).length (W i).length) (.p (.list true [])),.elems 4 ((W i).map fun c=>WM c.route)]) (fun i=>i<=g.length) (fun i=>g.length-i) 0 Zb (Weak.mk ?_) ?_
     ·simp (disch:=omega) only [Zf,fL,MF,Yx,hW0,go_sem,seval]
     ·intro i hi
      have hQl:(W i).length<=28:=by grind
      have hQs:=hWs i;simp (disch:=omega) only [Zf,fL,MF,Yx,go_sem,seval];refine Z0 ?_ ?_<;>intro h3
      ·have hi2:i<g.length:=Za
       have hri:=hrg.2 i Za;refine Xj (Zd ?_);refine Jv ?_ ?_<;>intro h5
       ·have hj:(nth g i).toNat<l.length:=Za
        obtain ⟨⟨t0,t1⟩,⟨c0,c1⟩,S,hS,hS2⟩:=hC.col _ (Z2 hj);refine Jv ?_ ?_<;>intro h7
        ·have hpp:0<pw i/\pw i<=pw 4:=⟨GE i,KD Za⟩;refine Zo (Li i Za) (Zd ?_);rw [hS];refine Z0 ?_ ?_<;>intro h8
         ·rw [if_pos ⟨h5,h7,by grind⟩] at hQs;refine ZF 12 mixed Zg Zg ?_;refine Zd ?_;exact ⟨i+1,Za,Za,Weak.mk (by simp (disch:=omega) only [hQs,Xy,Zt,Zk,ZA,ZE,ZJ,Xs,go_sem,seval])⟩
         ·rw [if_neg (fun h=>h8 (by grind)),Yp] at hQs;exact ⟨i+1,Za,Za,Weak.mk (by simp (disch:=omega) only [hQs,go_sem,seval])⟩
        ·rw [if_neg (fun h=>h7 h.2.1),Yp] at hQs;exact ⟨i+1,Za,Za,Weak.mk (by simp (disch:=omega) only [hQs,go_sem,seval])⟩
       ·rw [if_neg (fun h=>h5 h.1),Yp] at hQs;exact ⟨i+1,Za,Za,Weak.mk (by simp (disch:=omega) only [hQs,go_sem,seval])⟩
      ·have hig:i=g.length:=Za
       subst hig;exact ⟨T+1,Za,Za,Weak.mk (by simp (disch:=omega) only [hWn,go_sem,seval])⟩
    ·have hTt:T=x.types.length:=Za
     subst hTt;refine Z3 [18] [2,4,7,9] (fun i:Nat=> [(12,.p (.int .i64 i))]) (fun i=> [Zf x,fL (.p (.list true [])) (.p (.list true [])),MF ⟨true,g,c⟩,fL (.sl 4 0 R.length R.length) (.sl 5 0 (fM x g i).length (fM x g i).length),.elems 4 (R.map fun c=>WM c.route),.elems 1 ((fM x g i).map eI)]) (fun i=>i<=g.length) (fun i=>g.length-i) 0 Zb ((Weak.nilC (o:=3) (j:=1) 1 (by rfl) (by rfl) Zb).trans (Weak.mk ?_)) ?_
     ·simp (disch:=omega) only [Zf,fL,MF,Yx,fM,Zk,ZJ,ZQ,ZG,go_sem,seval]
     ·intro i hi;obtain ⟨U,hU⟩: ∃U,U=fM x g i:=⟨_,rfl⟩;have hUl:=My (x:=x) (g:=g) i
      have hUs:fM x g (i+1)=U++(if nth g i<0/\(nth x.orders i).off=false then [(i:Int)] else []):=by rw [hU];rfl
      rw [<- hU] at hUl ⊢;simp (disch:=omega) only [Zf,fL,MF,Yx,go_sem,seval];refine cD ?_ ?_<;>intro h3<;>simp (disch:=omega) only [Sh.out h3,go_sem,seval,↓reduceIte]
      ·have hi2:i<g.length:=Za
       refine Jv ?_ ?_<;>intro h5
       ·cases ho:(nth x.orders i).off with
        | true =>
         rw [if_neg (by rw [ho];simp),Yp] at hUs;refine G4 ?_;exact ⟨i+1,Za,Za,Weak.mk (by simp (disch:=omega) only [hUs,go_sem,seval])⟩
        | false =>
         rw [if_pos ⟨h5,ho⟩] at hUs;refine G3 ?_;exact ⟨i+1,Za,Za,Weak.mk (by simp (disch:=omega) only [hUs,Xy,Zt,Zk,ZA,ZE,ZJ,Xs,go_sem,seval])⟩
       ·rw [if_neg (fun h=>h5 h.1),Yp] at hUs;exact ⟨i+1,Za,Za,Weak.mk (by simp (disch:=omega) only [hUs,go_sem,seval])⟩
      ·have hig:i=g.length:=Za
       subst hig;refine Zp (Weak.fz (o:=4) (by rfl)) ?_;refine Zp (Weak.fz (o:=5) (by rfl)) ?_;refine Zh [] _ _ _ _ ?_;simp (disch:=omega) only [Zt,Zk,ZQ,ZG,eq_self,go_sem,seval];refine Bz [3] [1,2] [2] 4 mixed Zg Zg Zg Zg Zb (Zd ?_);refine ⟨fun q hq p' hp=> ?_,?_⟩
       ·simp only [Z7,Vd,Wi] at hq;rcases hq with rfl | rfl
        ·obtain rfl:7=p':=WR hp;exact V8 (by decide)
        ·obtain rfl:114=p':=WR hp;exact V8 (by decide)
       ·refine NL 3 _ _ Zg (by refine Zd ?_;exact ⟨rfl,rfl⟩) ?_;refine ⟨fun k hk=>by simp at hk;subst hk;rfl,LQ ?_⟩;refine Zd ?_;exact ⟨.tup [.p (J3 ⟨false,R.map (·.route),false,U⟩),.p (.int .i64 c),.p (.int .i64 0)],[],Weak.mk (by simp (disch:=omega) only [List.map_map,Function.comp_def,go_sem,seval]),_,_,_,⟨_,hcv,fun h=>absurd rfl h,fun _=>⟨rfl,by rw [hR,hU]⟩⟩,rfl,rfl⟩
end Go.Proofs.YtjkkdmeebhjaiaaGreatDoor.K
