/- Declarations that the closing texts need, part 16: joined by tools/slim.py. -/
import Derived.Test.YtjkkdmeebhjaiaaGreatDoorI15
import Derived.Shelf.SlSortCmp.NoneTotal
set_option linter.unusedVariables false
set_option linter.unusedSimpArgs false
namespace Go.AM
open Go.RowKit Go.Shelf Go.Lib Go.Sort Go.Proofs
theorem aZ {W w':World} {H':List AM.Obj} {ι':List (Option Nat)} (g:Good KK [] [] W H' ι' w'): ∃q os',w'=grow (W.drewN q) os':=by
 refine ⟨w'.drawn-W.drawn,w'.heap.extract W.heap.size w'.heap.size,?_⟩
 have h1:w'.heap=W.heap++w'.heap.extract W.heap.size w'.heap.size:=by
  apply Array.ext_getElem?;intro i
  by_cases hi:i<W.heap.size
  ·rw [Cc hi];exact g.keep i hi Zb
  ·rw [Array.getElem?_append_right Za];have:=g.size;rw [Array.getElem?_extract]
   split
   ·congr 1;omega
   ·rw [Array.getElem?_eq_none Za]
 have h2:W.drawn<=w'.drawn:=g.tape.2.resolve_right fun h=>h;have h3:=g.tape.1;have h4:=g.os;have h5:=g.output
 cases w'
 simp only [grow,World.drewN] at *
 congr 1
 omega
def Nz (c:Array Value) (k i:Nat):List Value:=(List.range k).map fun j=>c.getD (i*k+j) undef
theorem EJ (c k i):(Nz c k i).length=k:=by simp [Nz]
theorem BA {c k i j} (h:j<k):(Nz c k i)[j]! =c.getD (i*k+j) undef:=by
 rw [List.getElem!_eq_getElem?_getD,Nz,Xc,List.getElem?_range h];rfl
theorem ACalls.sortFunc {P : Program} {ρ : Ren} (L : SlLaysF0.n6 P ρ) (hg : Zk P (ρ.f 6)) (k : Nat) (aE : ∀ w, (isAgg (ρ.t 24)).run P w = .ok true w) (zE : ∀ w, (Go.sizeOf (ρ.t 24)).run P w = .ok k w)
    {β : Type} [Inhabited β] (f : β -> PV) (hf : ∀ x, ∃ cs, f x = .agg cs /\ cs.length = k /\ cs.all (·.one) = true) (cf : β -> β -> Int) (hO : SWO (ltOf cf)) (g : FuncId)
    (hcmp : ∀ x y, ACalls P g [.p (f x), .p (f y)] [] fun r H' => r = .p (.int .i64 (cf x y)) /\ H' = []) (xs : List β) (hlen : xs.length < 4611686018427387904) {H : List AM.Obj} {o : Nat} (hHo : H[o]? = some (.elems k (xs.map f))) :
    ACalls P (ρ.f 6) [.sl o 0 xs.length xs.length, .fn (.func g) [] []] H fun y H' => y = .tup [] /\ ∃ ys : List β, ys.Perm xs /\ ys.Pairwise (fun a b => ¬ cf b a < 0) /\ H' = H.set o (.elems k (ys.map f)) := by
  refine ⟨hg, fun F ι w vs hr hv => ?_⟩;obtain ⟨hv1, hv2⟩ := hv;have h0 := hv2 0 _ rfl;have h1 := hv2 1 _ rfl
  have hvs : vs = #[vs.getD 0 undef, vs.getD 1 undef] := by
    apply Array.ext
    · simpa using hv1
    · intro i h2 h3
      have : i = 0 \/ i = 1 := by simp at hv1; omega
      rcases this with rfl | rfl <;> simp [Array.getD, h2]
  rw [hvs];generalize vs.getD 0 undef = v0 at h0 ⊢;generalize vs.getD 1 undef = v1 at h1 ⊢;clear hvs hv1 hv2
  cases h1 with | fn _ _ _ a e hs ht _ _ =>
  have ea : a = #[] := HA (by simpa using hs);have ee : e = #[] := HA (by simpa using ht);subst ea; subst ee;generalize hL : xs.length = n at h0 hlen
  by_cases hz : n = 0
  · subst hz
    obtain rfl : xs = [] := List.length_eq_zero_iff.1 hL
    have e1 : H.set o (.elems k (([] : List β).map f)) = H := by
      apply Q1;intro i;rw [Q9]
      split
      · rename_i hi; subst hi; rw [hHo]; simp [(ZE.1 hHo).1]
      · rfl
    obtain ⟨ad, cap, rfl⟩ : ∃ ad cap, v0 = .slice ad 0 cap := by
      cases h0 with
      | slNil => exact ⟨_, _, rfl⟩
      | sl => exact ⟨_, _, rfl⟩
      | slD _ _ _ _ _ hd => rw [hHo] at hd; cases hd
      | slS _ _ _ _ _ S2 xs2 hd hne => rw [hHo] at hd; simp at hd; obtain ⟨_, rfl⟩ := hd; simp at hne
      | slC _ _ _ _ _ _ hd => rw [hHo] at hd; cases hd
    refine (AnyF.slices_SortFunc_none L ad cap _ w).mono ?_;rintro e w' ⟨rfl, rfl⟩;exact ⟨.tup [], _, ι, _, rfl, ⟨rfl, [], .refl _, .nil, e1.symm⟩, Good.refl hr, .tup [] #[] Zb Zb⟩
  have hn : 0 < n := Za
  cases h0 with
  | slNil => omega
  | slD _ _ _ _ _ hd => rw [hHo] at hd; cases hd
  | slS _ _ _ _ _ S ys hd hlt => rw [hHo] at hd; simp at hd; obtain ⟨_, rfl⟩ := hd; simp at hlt; omega
  | slC _ _ _ _ _ _ hd => rw [hHo] at hd; cases hd
  | sl _ _ _ _ b S cap t ys c hι hH ht2 hw hcap hl hle hm =>
  rw [hHo] at hH;simp at hH;obtain ⟨rfl, rfl⟩ := hH;rcases hr.elm o k (xs.map f) hHo with ⟨e1, _⟩ | ⟨b2, c2, t2, cap2, e1, e2, e3, e4, e5, e6, e7⟩
  · rw [hι] at e1; cases e1
  rw [hι] at e1;simp at e1; subst e1;rw [hw] at e2;simp at e2;obtain ⟨rfl, rfl⟩ := e2;have hbs : b < w.heap.size := (hr.avo o b hι).2;have hbF : ¬ F b := (hr.avo o b hι).1
  -- an index, made one that there is
  let ix : Nat -> Nat := fun i => if i < n then i else 0
  have hix : ∀ i, ix i < n := fun i => by simp only [ix]; split <;> omega
  have hixe : ∀ i, i < n -> ix i = i := fun i hi => by simp only [ix]; rw [if_pos hi]
  let enc : Nat -> List Value := fun i => Nz c k (ix i)
  have hk : ∀ x, (enc x).length = k := fun x => EJ _ _ _
  -- one cell of an element
  have cell : ∀ i, i < n -> ∃ cs, f (nth xs i) = .agg cs /\ cs.length = k /\ ∀ (j : Nat) (y : PV), cs[j]? = some y -> y.one = true /\ RP (Own F ι) w y (c.getD (i * k + j) undef) := fun i hi => by
    obtain ⟨cs, q1, q2, q3⟩ := hf (nth xs i);refine ⟨cs, q1, q2, fun j y hj => ⟨ZH.1 q3 y (Xi hj), ?_⟩⟩;refine e7 i (f (nth xs i)) j y ?_ (by rw [q1]; exact hj);rw [Xc, U8 Za, Zg Za]; rfl
  have one : ∀ x, ∀ v ∈ enc x, v.oneCell' = true := fun x v hv => by
    obtain ⟨j, hj, rfl⟩ := Z1.1 hv
    have hjk : j < k := by rw [hk] at hj; exact hj
    obtain ⟨cs, q1, q2, q3⟩ := cell (ix x) (hix x);have hg := q3 j (cs[j]'(Za)) Zb
    have e9 : (enc x)[j] = c.getD (ix x * k + j) undef := by
      have := BA (c := c) (i := ix x) hjk;rw [List.getElem!_eq_getElem?_getD, U8 (by rw [EJ]; exact hjk)] at this;exact this
    rw [e9];exact hg.2.oneCell hg.1
  let d : Array Nat := Array.range n
  have hd : d.size = n := by simp [d]
  let cf' : Nat -> Nat -> Int := fun i j => cf (nth xs (ix i)) (nth xs (ix j))
  have hO' : SWO (ltOf cf') := ⟨fun x => hO.irrefl _, fun x y z h1 h2 => hO.trans _ _ _ h1 h2, fun x y z h1 h2 => hO.ntrans _ _ _ h1 h2⟩
  have hsz : n * k <= c.size := by
    rw [e3]; exact X4 k (by simpa [hL] using e4)
  have hcell : ∀ j, j < c.size -> w.cell? ⟨b, j, none⟩ = some (c.getD j undef) := fun j hj => by
    simp [World.cell?, hw, hj]
  have hHolds : HoldsK enc k w b (0 * k) d := fun j hj => by
    have hj2 : j < n * k := by simpa [hd] using hj
    have k0 : 0 < k := by rcases Nat.eq_zero_or_pos k with h | h; · subst h; simp at hj2
                          · exact h
    rw [get_flatK enc k d j (by rw [hd]; exact hj2)];have hdj : j / k < n := Nat.div_lt_of_lt_mul (by rw [Kp]; exact hj2)
    have hde : d[j / k]! = j / k := by simp [d, hdj]
    rw [hde]
    have e9 : (enc (j / k))[j % k]! = c.getD j undef := by
      show (Nz c k (ix (j / k)))[j % k]! = _
      rw [hixe _ hdj, BA (Nat.mod_lt _ k0), Nat.div_add_mod']
    rw [e9, Nat.zero_mul, Xz];exact ⟨hcell j Za, by simp [World.frozen?, hw]⟩
  have hcmp' : CmpLays P g #[] enc k cf' b (0 * k) d.size w := fun m os dk hdk x y => by
    generalize hW : sortWorldK enc k w b (0 * k) m dk os = W
    have hKeep : Keeps (Own F ι) w KK W := fun b' hb' hs' => by
      have hne : b' ≠ b := fun e => hb' (.inr (e ▸ Xi hι));refine ⟨fun h => h, ?_, ?_⟩
      · rw [<- hW]; simp [sortWorldK, grow, putRowK, putRow, mapBlock, ahead]; omega
      · rw [<- hW]
        simp only [sortWorldK, grow, putRowK, putRow, mapBlock, ahead];rw [Cc (by simpa using hs'), De, if_neg (fun e => hne e.symm)]
        rfl
    have heW : Env KK [] W := (hr.env.of (w' := W) (ι' := ι) (by rw [<- hW]; simp [sortWorldK, grow, putRowK, putRow, mapBlock, ahead]) (fun b' hb' hni => by
      have hne : b' ≠ b := fun e => hni (e ▸ Xi hι);rw [<- hW];simp only [sortWorldK, grow, putRowK, putRow, mapBlock, ahead];rw [Cc (by simpa using hb'), De, if_neg (fun e => hne e.symm)]
      rfl) (fun _ _ h => h)).noth
    have arg : ∀ i, RV KK [] [] W (.p (f (nth xs (ix i)))) (.agg (enc i).toArray) := fun i => by
      obtain ⟨cs, q1, q2, q3⟩ := cell (ix i) (hix i);refine .p _ _ ?_;rw [q1]
      refine (RP.agg cs (enc i).toArray (by simp [hk, q2]) fun j y hj => ?_ : RP KK W _ _).weaker fun b hb => by
        rcases hb with hb | hb
        · exact hb
        · simp at hb
      have hjk : j < k := by rw [<- q2]; exact (ZE.1 hj).1
      have e9 : (enc i).toArray.getD j undef = c.getD (ix i * k + j) undef := by
        have := BA (c := c) (i := ix i) hjk;rw [List.getElem!_eq_getElem?_getD, U8 (by rw [EJ]; exact hjk)] at this;simp only [Xx, A6];rw [U8 (by rw [hk]; exact hjk), Q4];rw [Q4] at this;simpa only [Xx] using this
      rw [e9];exact (q3 j y hj).2.ext hKeep
    refine ((hcmp (nth xs (ix x)) (nth xs (ix y))).2 KK [] W _ (EN heW) ⟨rfl, fun j q hj => ?_⟩).mono ?_
    · cases j with
      | zero => simp at hj; subst hj; exact arg x
      | succ j => cases j with
        | zero => simp at hj; subst hj; exact arg y
        | succ j => simp at hj
    · rintro e' w' ⟨x', H', ι', v, rfl, ⟨rfl, rfl⟩, gd, rv⟩
      cases rv with | p _ _ rp =>
      rw [rp.int_inv];exact ⟨rfl, aZ gd⟩
  have eg := (hcmp default default).1;have main := AnyQ.slices_SortFunc L k aE zE enc hk one cf' hO' g #[] b (0 * k) cap d w (fun args w => eg args w) hcmp' hHolds hbs (by rw [hd]; exact hlen);rw [hd] at main;refine main.mono ?_;rintro e' w' ⟨rfl, d', m, os, hp, hso, rfl⟩;obtain ⟨p1, _, p3⟩ := hp;rw [hd] at p1
  have hperm : d'.toList.Perm (List.range n) := by
    have e8 : (d'.extract 0 n).toList = d'.toList := by rw [<- p1]; simp
    have e9 : (d.extract 0 n).toList = List.range n := by
      have : d.extract 0 n = d := by rw [<- hd]; simp
      rw [this]; simp [d]
    rw [e8, e9] at p3; exact p3
  have hlt : ∀ i ∈ d'.toList, i < n := fun i hi => by simpa using hperm.mem_iff.1 hi
  have hlt2 : ∀ i, i < n -> d'.toList[i]?.isSome = true := fun i hi => by simp [p1, hi]
  have hget : ∀ i (hi : i < n), d'[i]! = d'.toList[i]'(by simp [p1, hi]) := fun i hi => by
    rw [getElem!_pos d' i Za]; simp
  let ys : List β := d'.toList.map (nth xs)
  have hyl : ys.length = n := by simp [ys, p1]
  have hys : ∀ i (hi : i < n), ys[i]'(Za) = nth xs d'[i]! := fun i hi => by
    simp only [ys, Bb]; rw [hget i hi]
  have hdl : ∀ i, i < n -> d'[i]! < n := fun i hi => by rw [hget i hi]; exact hlt _ (Q2 _)
  have yperm : ys.Perm xs := by
    have h9 : (List.range n).map (nth xs) = xs := by
      refine Us (by simp [hL]) fun i h1 h2 => ?_;simp only [Bb, List.getElem_range];rw [Zg h2]
    have := hperm.map (nth xs);rw [h9] at this; exact this
  have ysort : ys.Pairwise fun a b => ¬ cf b a < 0 := by
    rw [JI];intro i j hi hj hij;rw [hys i Za, hys j Za];have h9 := hso i j (Nat.zero_le _) hij Za;simp only [ltOf, cf', XQ] at h9;rwa [hixe _ (hdl j Za), hixe _ (hdl i Za)] at h9
  let c' : Array Value := putCells id (0 * k) (flatK enc k d') c
  have hcs : c'.size = c.size := by simp [c', putCells]
  have hat : (sortWorldK enc k w b (0 * k) m d' os).heap[b]? = some (.cells c' t (0, 0)) := by
    simp only [sortWorldK, grow, putRowK, putRow, mapBlock, ahead];rw [Cc (by simpa using hbs), De, if_pos rfl]
    show Option.map _ w.heap[b]? = _
    rw [hw]; rfl
  have hoth : ∀ q, q < w.heap.size -> q ≠ b -> (sortWorldK enc k w b (0 * k) m d' os).heap[q]? = w.heap[q]? := fun q hq hne => by
    simp only [sortWorldK, grow, putRowK, putRow, mapBlock, ahead];rw [Cc (by simpa using hq), De, if_neg (fun e => hne e.symm)]
    rfl
  have hc' : ∀ i j, i < n -> j < k -> c'.getD (i * k + j) undef = c.getD (d'[i]! * k + j) undef := fun i j hi hj => by
    have hb1 : i * k + j < n * k := by
      have := X4 k (show i + 1 <= n from hi);rw [Xo, Vl] at this; omega
    have e8 : (flatK enc k d')[i * k + j]! = c.getD (d'[i]! * k + j) undef := by
      rw [get_flatK enc k d' _ (by rw [p1]; exact hb1)]
      have q1 : (i * k + j) / k = i := by rw [Kp, Nat.mul_add_div Za, Kj hj]; omega
      have q2 : (i * k + j) % k = j := by rw [Kp, Nat.mul_add_mod, Bc hj]
      rw [q1, q2]
      show (Nz c k (ix d'[i]!))[j]! = _
      rw [BA hj, hixe _ (hdl i hi)]
    have e9 : c'[i * k + j]? = some ((flatK enc k d')[i * k + j]!) := by
      simp only [c', putCells, Array.getElem?_mapIdx];rw [Array.getElem?_eq_getElem Za];simp only [Option.map_some, Nat.zero_mul, Nat.zero_le, true_and, Xz, size_flatK, p1, hb1, if_true, Nat.sub_zero, id]
    rw [Xx, e9, Q4, e8]
  have good := Yn (w' := sortWorldK enc k w b (0 * k) m d' os) (c := c') (t := t) (xs' := ys.map f) (cap := cap2) (b' := b) hr (o := o) (S := k) (xs := xs.map f) hHo rfl (Tp.of rfl (by simp [sortWorldK, grow, putRowK, putRow, mapBlock, ahead])) rfl
    (fun c0 t0 h => by rw [hw] at h; simp at h; obtain ⟨rfl, rfl⟩ := h; exact ⟨rfl, hcs⟩) (by simp [sortWorldK, grow, putRowK, putRow, mapBlock, ahead]) hat hoth (.inl ⟨hι, .inl ⟨by simp [hyl, hL], fun c0 t0 h => by rw [hw] at h; simp at h; obtain ⟨rfl, rfl⟩ := h; exact ⟨rfl, hcs⟩⟩⟩)
    (by rw [hcs]; exact e3) (by simp only [ZB, hyl]; simpa [hL] using e4) e5
    (fun i x hi => by
      rw [Xc, ZI] at hi;obtain ⟨y, _, rfl⟩ := hi;obtain ⟨cs, q1, q2, _⟩ := hf y
      rw [q1]; exact q2)
    (fun i x j y hi hj => by
      rw [Xc, ZI] at hi;obtain ⟨z, hz, rfl⟩ := hi
      have hin : i < n := by have := (ZE.1 hz).1; omega
      have e8 : z = nth xs d'[i]! := by
        obtain ⟨h9, h10⟩ := ZE.1 hz;rw [<- h10]; exact hys i hin
      obtain ⟨cs, q1, q2, q3⟩ := cell _ (hdl i hin);rw [e8, q1] at hj
      have hjk : j < k := by rw [<- q2]; exact (ZE.1 hj).1
      rw [hc' i j hin hjk]
      exact (q3 j y hj).2)
  have ZJ : ι.set o (some b) = ι := by
    refine Q1 fun i => ?_;rw [Q9]
    split
    · rename_i e; subst e
      have := (ZE.1 hι).1;rw [if_pos this, hι]
    · rfl
  rw [ZJ] at good;exact ⟨.tup [], _, ι, .tuple #[], rfl, ⟨rfl, ys, yperm, ysort, rfl⟩, good, .tup [] #[] rfl (fun j c hj => by simp at hj)⟩
end Go.AM
namespace Go.Proofs.YtjkkdmeebhjaiaaGreatDoor.K
open Go Go.AM Go.Proofs
set_option maxRecDepth 8000
set_option maxHeartbeats 8000000
deriving instance DecidableEq for Itm
theorem XP {v w:Itm} :v=w↔v.kind=w.kind/\v.a=w.a:=by cases v;cases w;simp
def DW (a b:Itm):Int:=if WS a.kind b.kind=0 then WS a.a b.a else WS a.kind b.kind
theorem IM (a b:Itm):PC 62 [.p (Yb a),.p (Yb b)] (.int .i64 (DW a b)):=by
 refine Zc Tryz.func62 rfl ZeK ?_;simp (disch:=omega) only [Tryz.f62,go_sem,seval];refine XN ?_;simp (disch:=omega) only [go_sem,seval];refine Zo (CO a.kind b.kind) ?_;simp (disch:=omega) only [go_sem,seval];refine Zo (CO a.a b.a) ?_;simp (disch:=omega) only [go_sem,seval];refine Zo (lZ [WS a.kind b.kind,WS a.a b.a] false Zb) ?_;simp (disch:=omega) only [go_sem,seval];rw [Du,DW]
def HL (x:Inst) (o:Int):Bool:=decide (o<0)||decide ((x.orders.length:Int)<=o)||(nth x.orders o.toNat).off
theorem HK (x:Inst) (o:Int) (hl:x.orders.length<=1048576):PC 60 [.p (ZW x),.p (.int .i64 o)] (.bool (HL x o)):=by
 refine Zc Tryz.func60 rfl ZeI ?_;simp (disch:=omega) only [Tryz.f60,go_sem,seval];refine gF ?_ ?_<;>intro h<;>simp (disch:=omega) only [Sh.out h,go_sem,seval]
 ·simp [HL,h]
 ·refine gF ?_ ?_<;>intro h2<;>simp (disch:=omega) only [Sh.out h2,go_sem,seval]
  ·simp [HL,h2]
  ·simp [HL,h,h2]
def bO (x:Inst) (i:Nat):List Itm:=if (nth x.orders i).off=true then [] else
 (if (nth x.orders i).pick.place≠ -1 then [⟨1,i⟩] else [])++(if (nth x.orders i).drp.place≠ -1 then [⟨2,i⟩] else [])++(if (nth x.orders i).skills≠0 then [⟨4,i⟩] else [])++(if (nth x.orders i).penalty= -1 then [⟨10,i⟩] else [])
def B9 (x:Inst) (k:Nat):List Itm:=(List.range k).flatMap (bO x)
theorem F1 (x k):B9 x (k+1)=B9 x k++bO x k:=by simp [B9,Yq]
theorem lA (x i):(bO x i).length<=4:=by
 unfold bO
 split
 ·simp
 ·simp only [Zy]
  split<;>split<;>split<;>split<;>simp
theorem AY (x): ∀k,(B9 x k).length<=4*k
 | 0=>by simp [B9]
 | k+1=>by
  have h1:=AY x k;have h2:=lA x k;rw [F1,Zy];omega
def hO (x:Inst) (m:List Itm) (i:Nat):List AM.Obj:= [Zh x,.cells [.sl 2 0 m.length m.length],.elems 2 (m.map Yb),.cells [.p (.int .i64 (i:Nat))]]
theorem C5 (x:Inst) (m:List Itm) (i:Nat) (has:Bool) (kind:Int) (hm:m.length<=1048576):ACalls Tryz.prog 88 [.p (.bool has),.p (.int .i64 kind),.ptr 1 0,.ptr 3 0] (hO x m i) fun y H'=>y= .tup []/\H'=hO x (if has=true then m++ [⟨kind,i⟩] else m) i:=by
 refine Zj [] Tryz.func88 rfl Ze1 ?_
 cases has with
 | true =>
  simp (disch:=omega) only [Tryz.f88,hO,Zh,go_sem,seval];exact ⟨.tup [],hO x (m++ [⟨kind,i⟩]) i,Weak.mk (by simp (disch:=omega) only [hO,Zh,go_sem,seval]),rfl,by simp [hO,Zh,Yb]⟩
 | false =>
  simp (disch:=omega) only [Tryz.f88,hO,Zh,go_sem,seval];exact ⟨.tup [],hO x m i,Weak.mk (by simp (disch:=omega) only [hO,Zh,go_sem,seval]),rfl,by simp [hO,Zh]⟩
theorem HJ (x:Inst) (hl:x.orders.length<=1000):ACalls Tryz.prog 59 [.p (ZW x)] [] fun y H'=> ∃m:List Itm,m=B9 x x.orders.length/\y= .sl 0 0 m.length m.length/\H'= [.elems 2 (m.map Yb)]:=by
 refine ZM [2] Tryz.func59 rfl ZeH ?_;simp (disch:=omega) only [Tryz.f59,go_sem,seval];refine Zr (Weak.nilC (o:=1) (j:=0) 2 rfl rfl Zb) ?_;refine Zf [] _ _ _ _ ?_;simp (disch:=omega) only [Z7,ZX,ZP,ZA,go_sem,seval];refine Zn [3,8,9] (fun q:Nat×List Itm=> [(10,.p (.int .i64 q.1))]) (fun q=> [Zh x,.cells [.sl 2 0 q.2.length q.2.length],.elems 2 (q.2.map Yb)]) (fun q=>q.1<=x.orders.length/\q.2=B9 x q.1) (fun q=>x.orders.length-q.1) (0,[]) ⟨Zb,by simp [B9]⟩ (Weak.mk ?_) ?_
 ·simp (disch:=omega) only [Zh,go_sem,seval]
 ·rintro ⟨i,m⟩ ⟨hi,hm⟩;simp only at hi hm
  have hml:m.length<=4*i:=by rw [hm];exact AY x i
  have hsc:=F1 x i;simp (disch:=omega) only [Zh,go_sem,seval];refine cD ?_ ?_<;>intro h<;>simp (disch:=omega) only [Sh.out h,go_sem,seval]
  ·have hi2:i<x.orders.length:=Za
   refine cD ?_ ?_<;>intro h2<;>simp (disch:=omega) only [Sh.out h2,go_sem,seval]
   ·exact ⟨(i+1,m),⟨by simp only;omega,by simp only [hsc,bO,h2,if_true,hm,VM]⟩,by simp only;omega,Weak.mk (by simp (disch:=omega) only [Zh,go_sem,seval])⟩
   ·have c1:=C5 x m i (decide ((nth x.orders i).pick.place≠ -1)) 1 Za
    have ifl: ∀ {c:Prop} [Decidable c] (m:List Itm) (v:Itm),(if decide c=true then m++ [v] else m)=m++(if c then [v] else []):=fun {c} _ m v=>by by_cases h:c<;>simp [h]
    have ifn: ∀ {c:Prop} [Decidable c] (v:Itm),(if c then [v] else []).length<=1:=fun {c} _ v=>by split<;>simp
    rw [ifl] at c1;refine c1.useP (L:= [_]) (by rfl) ?_ (by rfl) (by rfl);have n1:=ifn (c:=(nth x.orders i).pick.place≠ -1) ⟨1,i⟩;have n2:=ifn (c:=(nth x.orders i).drp.place≠ -1) ⟨2,i⟩;have n3:=ifn (c:=(nth x.orders i).skills≠0) ⟨4,i⟩;have n4:=ifn (c:=(nth x.orders i).penalty= -1) ⟨10,i⟩
    have hit:bO x i=(if (nth x.orders i).pick.place≠ -1 then [⟨1,i⟩] else [])++(if (nth x.orders i).drp.place≠ -1 then [⟨2,i⟩] else [])++(if (nth x.orders i).skills≠0 then [⟨4,i⟩] else [])++(if (nth x.orders i).penalty= -1 then [⟨10,i⟩] else []):=by rw [bO,if_neg (by rw [h2];simp)]
    generalize hA:(if (nth x.orders i).pick.place≠ -1 then [(⟨1,i⟩:Itm)] else [])=A at hit n1 c1 ⊢;have c2:=C5 x (m++A) i (decide ((nth x.orders i).drp.place≠ -1)) 2 (by simp;omega);rw [ifl] at c2;generalize (if (nth x.orders i).drp.place≠ -1 then [(⟨2,i⟩:Itm)] else [])=B at hit n2 c2;have c3:=C5 x (m++A++B) i (decide ((nth x.orders i).skills≠0)) 4 (by simp;omega);rw [ifl] at c3;generalize (if (nth x.orders i).skills≠0 then [(⟨4,i⟩:Itm)] else [])=C at hit n3 c3;have c4:=C5 x (m++A++B++C) i (decide ((nth x.orders i).penalty= -1)) 10 (by simp;omega)
    rw [ifl] at c4;generalize (if (nth x.orders i).penalty= -1 then [(⟨10,i⟩:Itm)] else [])=D at hit n4 c4;generalize hm1:m++A=m1 at c2 c3 c4 ⊢;generalize hm2:m1++B=m2 at c2 c3 c4 ⊢;generalize hm3:m2++C=m3 at c3 c4 ⊢;generalize hm4:m3++D=m4 at c4;simp (disch:=omega) only [hO,Zh,YF,go_sem,seval];refine c2.useP (L:= [_]) (by rfl) ?_ (by rfl) (by rfl);simp (disch:=omega) only [hO,Zh,YF,go_sem,seval];refine c3.useP (L:= [_]) (by rfl) ?_ (by rfl) (by rfl);simp (disch:=omega) only [hO,Zh,YF,go_sem,seval];refine c4.useP (L:= [_]) (by rfl) ?_ (by rfl) (by rfl)
    simp (disch:=omega) only [hO,Zh,YF,go_sem,seval];refine ⟨(i+1,m4),⟨by simp only;omega,?_⟩,by simp only;omega,Weak.mk (by simp (disch:=omega) only [hO,Zh,YF,go_sem,seval])⟩;simp only [hsc,hit,<- hm4,<- hm3,<- hm2,<- hm1,hm,WZ]
  ·have hin:i=x.orders.length:=Za
   subst hin;exact ⟨m,hm,2,by simp (disch:=omega) only [Zh,go_sem,seval]⟩
def bP (k:Nat):List Itm:=(List.range k).flatMap fun (i:Nat)=> [⟨3,i⟩,⟨7,i⟩,⟨8,i⟩,⟨9,i⟩]
def Fv (x:Inst) (i:Nat):List Itm:=if (!HL x (nth x.apart i).1&& !HL x (nth x.apart i).2)=true then [⟨5,i⟩] else []
def bM (x:Inst) (k:Nat):List Itm:=(List.range k).flatMap (Fv x)
def Hs (x:Inst) (i:Nat):List Itm:=if (!HL x (nth x.before i).2)=true then [⟨6,i⟩] else []
def bN (x:Inst) (k:Nat):List Itm:=(List.range k).flatMap (Hs x)
def Fy (x:Inst):List Itm:=B9 x x.orders.length++bP x.types.length++bM x x.apart.length++bN x x.before.length
theorem Ld (k):bP (k+1)=bP k++ [⟨3,k⟩,⟨7,k⟩,⟨8,k⟩,⟨9,k⟩]:=by simp [bP,Yq]
theorem AX (x k):bM x (k+1)=bM x k++Fv x k:=by simp [bM,Yq]
theorem Eg (x k):bN x (k+1)=bN x k++Hs x k:=by simp [bN,Yq]
theorem C8 : ∀k,(bP k).length=4*k
 | 0=>by simp [bP]
 | k+1=>by rw [Ld,Zy,C8 k];simp;omega
theorem Hr (x): ∀k,(bM x k).length<=k
 | 0=>by simp [bM]
 | k+1=>by
  have h1:=Hr x k
  have h2:(Fv x k).length<=1:=by unfold Fv;split<;>simp
  rw [AX,Zy];omega
theorem Ht (x): ∀k,(bN x k).length<=k
 | 0=>by simp [bN]
 | k+1=>by
  have h1:=Ht x k
  have h2:(Hs x k).length<=1:=by unfold Hs;split<;>simp
  rw [Eg,Zy];omega
theorem VZ {a b:Itm} :DW a b<0↔a.kind<b.kind\/(a.kind=b.kind/\a.a<b.a):=by
 unfold DW
 split
 ·rename_i h;rw [FJ] at h;rw [Om];omega
 ·rename_i h;rw [FJ] at h;rw [Om];omega
theorem TT : Go.Sort.SWO (ltOf DW) where
 irrefl x:=by simp only [ltOf,XQ,VZ];omega
 trans x y z h1 h2:=by simp only [ltOf,Zp,VZ] at *;omega
 ntrans x y z h1 h2:=by simp only [ltOf,XQ,VZ] at *;omega
theorem L7 (xs:List Itm) (hne:xs≠ []) (hl:xs.length<=1048576) {H:List AM.Obj} {o:Nat} (hH:H[o]? =some (.elems 2 (xs.map Yb))) :
  ACalls Tryz.prog 61 [.sl o 0 xs.length xs.length,.fn (.func 62) [] []] H fun y H'=>y= .tup []/\ ∃ys:List Itm,ys.Perm xs/\ys.Pairwise (fun a b=> ¬DW b a<0)/\H'=H.set o (.elems 2 (ys.map Yb)) :=
 ACalls.sortFunc SE ZeJ 2 Tryz.isAgg41 Tryz.sizeOf41 Yb (fun x=>⟨_,rfl,rfl,rfl⟩) DW TT 62 IM xs Za hH
theorem RJ (x:Inst) (ho:x.orders.length<=1000) (ht:0<x.types.length/\x.types.length<=1000) (ha:x.apart.length<=1000) (hb:x.before.length<=1000):ACalls Tryz.prog 31 [.p (ZW x)] [] fun y H'=> ∃m:List Itm,(m.Perm (Fy x)/\m.Pairwise (fun a b=> ¬DW b a<0))/\y= .sl 0 0 m.length m.length/\H'= [.elems 2 (m.map Yb)]:=by
 refine ZM [] Tryz.func31 rfl Zep ?_;simp (disch:=omega) only [Tryz.f31,go_sem,seval];obtain ⟨os,hos⟩: ∃os,os=B9 x x.orders.length:=⟨_,rfl⟩;have hosl:=AY x x.orders.length;rw [<- hos] at hosl;refine ACalls.useF (S:=2) (n:=os.length) (xs:=os.map Yb) ((HJ x ho).mono fun y H' ⟨m,hm,h1,h2⟩=>by rw [hos,<- hm];exact ⟨h1,h2⟩) ?_;simp (disch:=omega) only [go_sem,seval];obtain ⟨ks,hks⟩: ∃ks:List Int,ks= [3,7,8,9]:=⟨_,rfl⟩
 have hkl:ks.length=4:=by rw [hks];rfl
 have hke:(ks.map eI).length=ks.length:=Zb
 refine Zn [1,15] (fun q:Nat×List Itm=> [(3,.sl 1 0 q.2.length q.2.length),(16,.p (.int .i64 q.1))]) (fun q=> [Zh x,.elems 2 (q.2.map Yb)]) (fun q=>q.1<=x.types.length/\q.2=os++bP q.1) (fun q=>x.types.length-q.1) (0,os) ⟨Zb,by simp [bP]⟩ (Weak.mk ?_) ?_
 ·simp (disch:=omega) only [Zh,go_sem,seval]
 ·rintro ⟨i,m⟩ ⟨hi,hm⟩;simp only at hi hm
  have hml:m.length=os.length+4*i:=by rw [hm,Zy,C8]
  simp (disch:=omega) only [Zh,go_sem,seval];refine cD ?_ ?_<;>intro h<;>simp (disch:=omega) only [Sh.out h,go_sem,seval]
  ·have hi2:i<x.types.length:=Za
   refine Zn [1,4,15,16,20] (fun q:Nat×List Itm=> [(3,.sl 1 0 q.2.length q.2.length),(19,.sl 2 0 ks.length ks.length),(21,.p (.int .i64 q.1))]) (fun q=> [Zh x,.elems 2 (q.2.map Yb),.elems 1 (ks.map eI)]) (fun q=>q.1<=4/\q.2=m++(ks.take q.1).map fun c=>(⟨c,i⟩:Itm)) (fun q=>4-q.1) (0,m) ⟨Zb,Zb⟩ (Weak.mk ?_) ?_
   ·rw [hks];simp (disch:=omega) only [Zh,Zt,Zm,ZL,ZY,go_sem,seval]
   ·rintro ⟨k,m2⟩ ⟨hk,hm2⟩;simp only at hk hm2
    have hm2l:m2.length=m.length+k:=by rw [hm2];simp;omega
    simp (disch:=omega) only [Zh,go_sem,seval];refine cD ?_ ?_<;>intro h2<;>simp (disch:=omega) only [Sh.out h2,QT,go_sem,seval]
    ·have hk2:k<ks.length:=Za
     have htk:ks.take (k+1)=ks.take k++ [nth ks k]:=by rw [Yu hk2,Zg hk2]
     simp (disch:=omega) only [hk2,go_sem,seval];exact ⟨(k+1,m2++ [⟨nth ks k,i⟩]),⟨by simp only;omega,by simp only [htk,hm2,Yg,WZ];rfl⟩,by simp only;omega,Weak.mk (by simp (disch:=omega) only [Zh,go_sem,seval])⟩
    ·have hk4:k=4:=Za
     subst hk4;refine ⟨(i+1,m2),⟨by simp only;omega,?_⟩,by simp only;omega,Weak.mk (by simp (disch:=omega) only [Zh,go_sem,seval])⟩;simp only [Ld,hm2,hm,WZ];rw [hks];rfl
  ·have hin:i=x.types.length:=Za
   subst hin;clear hi h;refine Zn [1,34,35] (fun q:Nat×List Itm=> [(3,.sl 1 0 q.2.length q.2.length),(36,.p (.int .i64 q.1))]) (fun q=> [Zh x,.elems 2 (q.2.map Yb)]) (fun q=>q.1<=x.apart.length/\q.2=m++bM x q.1) (fun q=>x.apart.length-q.1) (0,m) ⟨Zb,by simp [bM]⟩ (Weak.mk ?_) ?_
   ·simp (disch:=omega) only [Zh,go_sem,seval]
   ·rintro ⟨i,m2⟩ ⟨hi,hm2⟩;simp only at hi hm2
    have hm2l:m2.length<=m.length+i:=by have:=Hr x i;rw [hm2,Zy];omega
    simp (disch:=omega) only [Zh,go_sem,seval];refine cD ?_ ?_<;>intro h<;>simp (disch:=omega) only [Sh.out h,go_sem,seval]
    ·have hi2:i<x.apart.length:=Za
     refine (HK x (nth x.apart i).1 Za).use ?_;simp (disch:=omega) only [go_sem,seval];refine gT ?_ ?_<;>intro h2<;>simp (disch:=omega) only [Sh.out h2,go_sem,seval]
     ·refine (HK x (nth x.apart i).2 Za).use ?_;simp (disch:=omega) only [go_sem,seval];refine cD ?_ ?_<;>intro h3<;>simp (disch:=omega) only [Sh.out h3,go_sem,seval]
      ·exact ⟨(i+1,m2++ [⟨5,i⟩]),⟨by simp only;omega,by simp only [AX,Fv,h2,h3,Bool.and_self,if_true,hm2,WZ]⟩,by simp only;omega,Weak.mk (by simp (disch:=omega) only [Zh,go_sem,seval])⟩
      ·exact ⟨(i+1,m2),⟨by simp only;omega,by simp [AX,Fv,h2,h3,hm2]⟩,by simp only;omega,Weak.mk (by simp (disch:=omega) only [Zh,go_sem,seval])⟩
     ·exact ⟨(i+1,m2),⟨by simp only;omega,by simp [AX,Fv,h2,hm2]⟩,by simp only;omega,Weak.mk (by simp (disch:=omega) only [Zh,go_sem,seval])⟩
    ·have hin:i=x.apart.length:=Za
     subst hin;clear hi h;refine Zn [1,60,61] (fun q:Nat×List Itm=> [(3,.sl 1 0 q.2.length q.2.length),(62,.p (.int .i64 q.1))]) (fun q=> [Zh x,.elems 2 (q.2.map Yb)]) (fun q=>q.1<=x.before.length/\q.2=m2++bN x q.1) (fun q=>x.before.length-q.1) (0,m2) ⟨Zb,by simp [bN]⟩ (Weak.mk ?_) ?_
     ·simp (disch:=omega) only [Zh,go_sem,seval]
     ·rintro ⟨i,m3⟩ ⟨hi,hm3⟩;simp only at hi hm3
      have hm3l:m3.length<=m2.length+i:=by have:=Ht x i;rw [hm3,Zy];omega
      simp (disch:=omega) only [Zh,go_sem,seval];refine cD ?_ ?_<;>intro h<;>simp (disch:=omega) only [Sh.out h,go_sem,seval]
      ·have hi2:i<x.before.length:=Za
       refine (HK x (nth x.before i).2 Za).use ?_;simp (disch:=omega) only [go_sem,seval];refine cD ?_ ?_<;>intro h2<;>simp (disch:=omega) only [Sh.out h2,go_sem,seval]
       ·exact ⟨(i+1,m3++ [⟨6,i⟩]),⟨by simp only;omega,by simp only [Eg,Hs,h2,if_true,hm3,WZ]⟩,by simp only;omega,Weak.mk (by simp (disch:=omega) only [Zh,go_sem,seval])⟩
       ·exact ⟨(i+1,m3),⟨by simp only;omega,by simp [Eg,Hs,h2,hm3]⟩,by simp only;omega,Weak.mk (by simp (disch:=omega) only [Zh,go_sem,seval])⟩
      ·have hin:i=x.before.length:=Za
       subst hin
       have hpre:m3=Fy x:=by rw [hm3,hm2,hm,hos];rfl
       have hne:m3≠ []:=fun e=>by have:=ZC List.length hpre;rw [e] at this;simp [Fy,C8] at this;omega
       refine (L7 m3 hne Za (H:=_) (o:=1) rfl).mono ?_;rintro y H' ⟨rfl,ys,h1,h2,rfl⟩;have hyl:ys.length=m3.length:=h1.length_eq;simp (disch:=omega) only [Z7,ZX,go_sem,seval];rw [<- hyl];exact ⟨ys,⟨by rw [<- hpre];exact h1,h2⟩,1,by simp (disch:=omega) only [go_sem,seval]⟩
def WR (x:Inst) (i:Int):Bool:=decide (0<=i)&&decide (i<(x.orders.length:Int))&& !(nth x.orders i.toNat).off
theorem Ly {x o} :HL x o= !WR x o:=by
 unfold HL WR
 by_cases h1:o<0
 ·have: ¬ 0<=o:=Za
  simp [h1,this]
 ·by_cases h2:(x.orders.length:Int)<=o
  ·have: ¬o<(x.orders.length:Int):=Za
   simp [h2,this]
  ·have h3:0<=o:=Za
   have h4:o<(x.orders.length:Int):=Za
   simp [h1,h2,h3,h4]
def KQ (o:Ord) (kind:Int):Bool:=if kind=1 then decide (0<=o.pick.place) else if kind=2 then decide (0<=o.drp.place) else if kind=4 then decide (o.skills≠0) else decide (o.penalty= -1)
def XI (x:Inst) (v:Itm):Bool :=
 if v.kind=1\/v.kind=2\/v.kind=4\/v.kind=10 then WR x v.a&&KQ (nth x.orders v.a.toNat) v.kind
 else if v.kind=3\/v.kind=7\/v.kind=8\/v.kind=9 then decide (0<=v.a)&&decide (v.a<(x.types.length:Int))
 else if v.kind=5 then decide (0<=v.a)&&decide (v.a<(x.apart.length:Int))&&WR x (nth x.apart v.a.toNat).1&&WR x (nth x.apart v.a.toNat).2
 else if v.kind=6 then decide (0<=v.a)&&decide (v.a<(x.before.length:Int))&&WR x (nth x.before v.a.toNat).2
 else false
theorem OY {x i} {v:Itm} :v∈bO x i↔(nth x.orders i).off=false/\v.a=(i:Int)/\((v.kind=1/\(nth x.orders i).pick.place≠ -1)\/(v.kind=2/\(nth x.orders i).drp.place≠ -1)\/(v.kind=4/\(nth x.orders i).skills≠0)\/(v.kind=10/\(nth x.orders i).penalty= -1)):=by
 have one: ∀(c:Prop) [Decidable c] (w:Itm),v∈(if c then [w] else [])↔c/\v.kind=w.kind/\v.a=w.a:=fun c _ w=>by
  split<;>simp_all [XP]
 unfold bO
 split
 ·rename_i h;simp [h]
 ·rename_i h;simp only [Z5,one]
  have h2:(nth x.orders i).off=false:=by simpa using h
  simp only [h2,true_and]
  constructor
  ·rintro (((⟨h1,h2,h3⟩ | ⟨h1,h2,h3⟩) | ⟨h1,h2,h3⟩) | ⟨h1,h2,h3⟩)
   ·exact ⟨h3,.inl ⟨h2,h1⟩⟩
   ·exact ⟨h3,.inr (.inl ⟨h2,h1⟩)⟩
   ·exact ⟨h3,.inr (.inr (.inl ⟨h2,h1⟩))⟩
   ·exact ⟨h3,.inr (.inr (.inr ⟨h2,h1⟩))⟩
  ·rintro ⟨h3,(⟨h2,h1⟩ | ⟨h2,h1⟩ | ⟨h2,h1⟩ | ⟨h2,h1⟩)⟩
   ·exact .inl (.inl (.inl ⟨h1,h2,h3⟩))
   ·exact .inl (.inl (.inr ⟨h1,h2,h3⟩))
   ·exact .inl (.inr ⟨h1,h2,h3⟩)
   ·exact .inr ⟨h1,h2,h3⟩
theorem Dn {n} {v:Itm} :v∈bP n↔(v.kind=3\/v.kind=7\/v.kind=8\/v.kind=9)/\0<=v.a/\v.a<(n:Int):=by
 simp only [bP,XS,ZO,Z4,W0,Wl,XP]
 constructor
 ·rintro ⟨i,hi,h⟩;rcases h with ⟨h1,h2⟩ | ⟨h1,h2⟩ | ⟨h1,h2⟩ | ⟨h1,h2⟩<;>refine ⟨by simp [h1],Za,Za⟩
 ·rintro ⟨h,h1,h2⟩;refine ⟨v.a.toNat,Za,?_⟩
  have:v.a=(v.a.toNat:Int):=Za
  rcases h with h | h | h | h<;>simp [h,<- this]
theorem HF {x n} {v:Itm} :v∈bM x n↔v.kind=5/\0<=v.a/\v.a<(n:Int)/\WR x (nth x.apart v.a.toNat).1=true/\WR x (nth x.apart v.a.toNat).2=true:=by
 simp only [bM,XS,ZO,Fv,Ly,Bool.not_not,Zs]
 constructor
 ·rintro ⟨i,hi,h⟩
  split at h
  ·rename_i h3;simp only [Z4,W0,Wl,XP] at h
   have e:v.a.toNat=i:=Za
   rw [e];exact ⟨h.1,Za,Za,h3⟩
  ·simp at h
 ·rintro ⟨h,h1,h2,h3⟩;refine ⟨v.a.toNat,Za,?_⟩;rw [if_pos h3];simp only [Z4,W0,Wl,XP];exact ⟨h,Za⟩
theorem OX {x n} {v:Itm} :v∈bN x n↔v.kind=6/\0<=v.a/\v.a<(n:Int)/\WR x (nth x.before v.a.toNat).2=true:=by
 simp only [bN,XS,ZO,Hs,Ly,Bool.not_not]
 constructor
 ·rintro ⟨i,hi,h⟩
  split at h
  ·rename_i h3;simp only [Z4,W0,Wl,XP] at h
   have e:v.a.toNat=i:=Za
   rw [e];exact ⟨h.1,Za,Za,h3⟩
  ·simp at h
 ·rintro ⟨h,h1,h2,h3⟩;refine ⟨v.a.toNat,Za,?_⟩;rw [if_pos h3];simp only [Z4,W0,Wl,XP];exact ⟨h,Za⟩
theorem Bi {x:Inst} (hp:Plc x) {v:Itm} :v∈B9 x x.orders.length↔(v.kind=1\/v.kind=2\/v.kind=4\/v.kind=10)/\WR x v.a=true/\KQ (nth x.orders v.a.toNat) v.kind=true:=by
 simp only [B9,XS,ZO,OY]
 constructor
 ·rintro ⟨i,hi,h0,ha,h⟩
  have e:v.a.toNat=i:=Za
  have hpl:=hp _ (Zz hi);rw [e];refine ⟨?_,by simp only [WR,e,h0,Km,UM,Zs,Zp];omega,?_⟩
  ·rcases h with h | h | h | h<;>simp [h.1]
  ·rcases h with h | h | h | h<;>simp only [KQ,h.1]<;>simp [h.2]<;>omega
 ·rintro ⟨hk,ha,ho⟩;simp only [WR,Zs,Zp,XE] at ha;refine ⟨v.a.toNat,Za,ha.2,Za,?_⟩;rcases hk with h | h | h | h<;>simp only [KQ,h] at ho<;>simp at ho<;>simp [h]<;>first | exact ho | omega
theorem Lq {x:Inst} (hp:Plc x) {v:Itm} :v∈Fy x↔XI x v=true:=by
 simp only [Fy,Z5,Bi hp,Dn,HF,OX,XI]
 by_cases h1:v.kind=1\/v.kind=2\/v.kind=4\/v.kind=10
 ·rw [if_pos h1]
  have h2: ¬(v.kind=3\/v.kind=7\/v.kind=8\/v.kind=9):=Za
  have h3: ¬v.kind=5:=Za
  have h4: ¬v.kind=6:=Za
  simp [h1,h2,h3,h4]
 ·rw [if_neg h1]
  by_cases h2:v.kind=3\/v.kind=7\/v.kind=8\/v.kind=9
  ·rw [if_pos h2]
   have h3: ¬v.kind=5:=Za
   have h4: ¬v.kind=6:=Za
   simp [h1,h2,h3,h4]
  ·rw [if_neg h2]
   by_cases h3:v.kind=5
   ·rw [if_pos h3];simp [h1,h2,h3,UP]
   ·rw [if_neg h3]
    by_cases h4:v.kind=6
    ·rw [if_pos h4];simp [h1,h2,h3,h4,UP]
    ·simp [h1,h2,h3,h4]
theorem RI (x i):(bO x i).Nodup:=by
 unfold bO
 split
 ·simp
 ·split<;>split<;>split<;>split<;>simp
theorem QU {f:Nat->List Itm} {n:Nat} (h: ∀i,(f i).Nodup) (ha: ∀i,∀v∈f i,v.a=(i:Int)):((List.range n).flatMap f).Nodup:=by
 rw [List.Nodup,List.pairwise_flatMap];refine ⟨fun i _=>h i,List.Pairwise.imp ?_ (List.nodup_range (n:=n))⟩;intro i j hij v hv w hw e;have h1:=ha i v hv;have h2:=ha j w hw;rw [e] at h1;omega
theorem EI {x:Inst} (hp:Plc x):(Fy x).Nodup:=by
 have n1:(B9 x x.orders.length).Nodup:=QU (RI x) fun i v hv=>(OY.1 hv).2.1
 have n2:(bP x.types.length).Nodup:=QU (fun i=>Zb) fun i v hv=>by
  simp only [Z4,W0,Wl] at hv;rcases hv with rfl | rfl | rfl | rfl<;>rfl
 have n3:(bM x x.apart.length).Nodup:=QU (fun i=>by unfold Fv;split<;>simp) fun i v hv=>by
  unfold Fv at hv;split at hv
  ·simp at hv;rw [hv]
  ·simp at hv
 have n4:(bN x x.before.length).Nodup:=QU (fun i=>by unfold Hs;split<;>simp) fun i v hv=>by
  unfold Hs at hv;split at hv
  ·simp at hv;rw [hv]
  ·simp at hv
 rw [Fy,A9,A9,A9];refine ⟨⟨⟨n1,n2,fun v hv w hw e=> ?_⟩,n3,fun v hv w hw e=> ?_⟩,n4,fun v hv w hw e=> ?_⟩
 ·subst e;have h1:=(Bi hp).1 hv;have h2:=Dn.1 hw;omega
 ·subst e;have h2:=HF.1 hw;rcases Z5.1 hv with hv | hv
  ·have h1:=(Bi hp).1 hv;omega
  ·have h1:=Dn.1 hv;omega
 ·subst e;have h2:=OX.1 hw;rcases Z5.1 hv with hv | hv
  ·rcases Z5.1 hv with hv | hv
   ·have h1:=(Bi hp).1 hv;omega
   ·have h1:=Dn.1 hv;omega
  ·have h1:=HF.1 hv;omega
def HT (x:Inst) (k:Nat) (a:Nat):List Itm:=if XI x ⟨k+1,a⟩=true then [⟨k+1,a⟩] else []
def Ct (x:Inst) (k n:Nat):List Itm:=(List.range n).flatMap (HT x k)
def JO (x:Inst):Nat:=max (max (max x.orders.length x.types.length) x.apart.length) x.before.length
def Yw (x:Inst) (n:Nat):List Itm:=(List.range n).flatMap fun k=>Ct x k (JO x)
theorem Gv (x k n):Ct x k (n+1)=Ct x k n++HT x k n:=by simp [Ct,Yq]
theorem Gu (x n):Yw x (n+1)=Yw x n++Ct x n (JO x):=by simp [Yw,Yq]
theorem Bj {x k a} {v:Itm} :v∈HT x k a↔XI x v=true/\v.kind=(k:Int)+1/\v.a=(a:Int):=by
 unfold HT
 constructor
 ·intro h
  split at h
  ·simp at h;subst h;rename_i h2;exact ⟨h2,rfl,rfl⟩
  ·simp at h
 ·rintro ⟨h1,h2,h3⟩;have:v=⟨(k:Int)+1,a⟩:=XP.2 ⟨h2,h3⟩;subst this;rw [if_pos h1];simp
theorem Uv {x:Inst} {v:Itm} :v∈Yw x 10↔XI x v=true:=by
 simp only [Yw,Ct,XS,ZO,Bj]
 constructor
 ·rintro ⟨k,_,a,_,h,_⟩;exact h
 ·intro h
  have hk:1<=v.kind/\v.kind<=10/\0<=v.a/\v.a<(JO x:Int):=by
   unfold XI at h;unfold JO
   split at h
   ·simp only [WR,Zs,Zp] at h;omega
   ·split at h
    ·simp only [Zs,Zp] at h;omega
    ·split at h
     ·simp only [Zs,Zp] at h;omega
     ·split at h
      ·simp only [Zs,Zp] at h;omega
      ·simp at h
  exact ⟨(v.kind-1).toNat,Za,v.a.toNat,Za,h,Za,Za⟩
theorem JX (x:Inst) (n:Nat):(Yw x n).Pairwise fun a b=>DW a b<0:=by
 rw [Yw,List.pairwise_flatMap];refine ⟨fun k _=> ?_,List.Pairwise.imp ?_ (List.pairwise_lt_range (n:=n))⟩
 ·rw [Ct,List.pairwise_flatMap];refine ⟨fun a _=>by unfold HT;split<;>simp,List.Pairwise.imp ?_ (List.pairwise_lt_range (n:=_))⟩;intro i j hij v hv w hw;have h1:=Bj.1 hv;have h2:=Bj.1 hw;rw [VZ];omega
 ·intro i j hij v hv w hw;simp only [Ct,XS,Bj] at hv hw;obtain ⟨_,_,h1⟩:=hv;obtain ⟨_,_,h2⟩:=hw;rw [VZ];omega
theorem CW {α:Type} {R:α->α->Prop} (asym: ∀a b,R a b-> ¬R b a): ∀ {l m:List α},l.Pairwise R->m.Pairwise R->(∀v,v∈l↔v∈m)->l=m
 | [],[],_,_,_=>rfl
 | [],b::m,_,_,h=>absurd ((h b).2 Zb) Zb
 | a::l,[],_,_,h=>absurd ((h a).1 Zb) Zb
 | a::l,b::m,hl,hm,h=>by
  rw [List.pairwise_cons] at hl hm
  have e:a=b:=by
   rcases Z4.1 ((h a).1 Zb) with e | e
   ·exact e
   ·rcases Z4.1 ((h b).2 Zb) with e2 | e2
    ·exact e2.symm
    ·exact absurd (hl.1 b e2) (asym _ _ (hm.1 a e))
  subst e;have irr: ¬R a a:=fun h=>asym a a h h;rw [CW asym hl.2 hm.2 fun v=>⟨fun hv=> ?_,fun hv=> ?_⟩]
  ·rcases Z4.1 ((h v).1 (by simp [hv])) with e | e
   ·subst e;exact absurd (hl.1 _ hv) irr
   ·exact e
  ·rcases Z4.1 ((h v).2 (by simp [hv])) with e | e
   ·subst e;exact absurd (hm.1 _ hv) irr
   ·exact e
theorem bQ {x:Inst} (hp:Plc x) {m:List Itm} (h1:m.Perm (Fy x)) (h2:m.Pairwise fun a b=> ¬DW b a<0):m=Yw x 10:=by
 refine CW (R:=fun a b=>DW a b<0) (fun a b h k=> ?_) ?_ (JX x 10) fun v=> ?_
 ·rw [VZ] at h k;omega
 ·have h3:m.Nodup:=h1.nodup_iff.2 (EI hp);have h4:=List.Pairwise.and h2 h3;refine h4.imp ?_;rintro a b ⟨h5,h6⟩;rw [VZ] at h5 ⊢;have: ¬(a.kind=b.kind/\a.a=b.a):=fun h=>h6 (XP.2 h);omega
 ·rw [h1.mem_iff,Lq hp,Uv]
theorem lB (x:Inst) (hp:Plc x) (ho:x.orders.length<=1000) (ht:0<x.types.length/\x.types.length<=1000) (ha:x.apart.length<=1000) (hb:x.before.length<=1000):PC 31 [.p (ZW x)] (.list false ((Yw x 10).map Yb)):=by
 refine ACalls.frozen (S:=2) (n:=(Yw x 10).length) Zb ?_;refine (RJ x ho ht ha hb).mono ?_;rintro y H' ⟨m,⟨h1,h2⟩,h3,h4⟩;rw [bQ hp h1 h2] at h3 h4;exact ⟨h3,h4⟩
def yT (l:List Itm) (v:Itm):Int:=match l.findIdx? (fun w=>decide (v=w)) with | some i=>(i:Int) | none=> -1
theorem yU {l:List Itm} {v:Itm} {k:Nat} (hk:k<l.length) (h:v=nth l k) (hno: ∀j,j<k-> ¬v=nth l j):yT l v=(k:Int):=by
 have:l.findIdx? (fun w=>decide (v=w))=some k:=by
  rw [Un];refine ⟨hk,by rw [<- Zg hk];simpa using h,fun j hj=> ?_⟩;have h2:=hno j hj;rw [Zg Za] at h2;simpa using h2
 simp [yT,this]
theorem yV {l:List Itm} {v:Itm} (hno: ∀j,j<l.length-> ¬v=nth l j):yT l v= -1:=by
 have:l.findIdx? (fun w=>decide (v=w))=none:=by
  rw [Db];intro x hx;obtain ⟨j,hj,rfl⟩:=Z1.1 hx;have:=hno j hj;rw [Zg hj] at this;simpa using this
 simp [yT,this]
theorem nP {l:List Itm} {v:Itm} :0<=yT l v↔v∈l:=by
 unfold yT
 cases h:l.findIdx? (fun w=>decide (v=w)) with
 | none =>
  rw [Db] at h
  have:v ∉ l:=fun hm=>by simpa using h v hm
  simp [this]
 | some i =>
  rw [Un] at h;obtain ⟨h1,h2,_⟩:=h
  have h3:v=l[i]:=by simpa using h2
  have:v∈l:=by rw [h3];exact Q2 _
  simp [this]
theorem RG (l:List Itm) (c:Bool) (v:Itm) (hl:l.length<=1048576):PC 87 [.p (.list c (l.map Yb)),.p (Yb v)] (.int .i64 (yT l v)):=by
 refine Zc Tryz.func87 rfl Ze0 ?_;simp (disch:=omega) only [Tryz.f87,go_sem,seval];refine Zn [0,3,7] (fun k:Nat=> [(8,.p (.int .i64 k))]) (fun _=> [.cells [.p (.int .i64 v.kind),.p (.int .i64 v.a)]]) (fun k=>k<=l.length/\ ∀j,j<k-> ¬v=nth l j) (fun k=>l.length-k) 0 Zb (Weak.mk ?_) ?_
 ·simp (disch:=omega) only [go_sem,seval]
 ·rintro k ⟨hk,hno⟩;simp (disch:=omega) only [go_sem,seval];refine cD ?_ ?_<;>intro h<;>simp (disch:=omega) only [Sh.out h,go_sem,seval]
  ·have hk2:k<l.length:=Za
   refine XN ?_;simp (disch:=omega) only [go_sem,seval];refine cD ?_ ?_<;>intro h2<;>simp (disch:=omega) only [Sh.out h2,go_sem,seval]
   ·have:v=nth l k:=by rw [XP];simpa using h2
    rw [yU hk2 this hno]
   ·have: ¬v=nth l k:=by rw [XP];simpa using h2
    exact ⟨k+1,⟨Za,ZR.2 ⟨hno,this⟩⟩,Za,wk⟩
  ·have hkl:k=l.length:=Za
   subst hkl;rw [yV hno]
theorem V0 (l:List Itm) (c:Bool) (v:Itm) (hl:l.length<=1048576):PC 58 [.p (.list c (l.map Yb)),.p (Yb v)] (.bool (decide (v∈l))):=by
 refine Zc Tryz.func58 rfl ZeG ?_;simp (disch:=omega) only [Tryz.f58,go_sem,seval];refine (RG l c v hl).use ?_;simp (disch:=omega) only [go_sem,seval];simp only [nP]
theorem Fm (l:List Typ) (c:Bool) (hl:l.length<=1048576):ACalls Tryz.prog 63 [.p (.list c (l.map XY))] [] fun y H'=>y= .sl 0 0 l.length l.length/\H'= [.elems 14 (l.map XY)]:=by
 refine Zj [1] Tryz.func63 rfl ZeL ?_;simp (disch:=omega) only [Tryz.f63,go_sem,seval];refine Wj (DP (e:=63) (cl:=c) (xs:=l.map XY) Tryz.underlying26 (by rfl) Zb fun b hb=> ?_);refine Zf [] _ _ _ _ ?_;simp (disch:=omega) only [go_sem,seval];refine cD ?_ ?_<;>intro h<;>simp (disch:=omega) only [Sh.out h,go_sem,seval]
 ·have:l= []:=by simpa using hb h
  subst this;exact ⟨_,_,Weak.nil 0 14 rfl Zb,rfl,rfl⟩
 ·refine Zf [] _ _ _ _ ?_;simp (disch:=omega) only [go_sem,seval];exact we
theorem Fl (l:List Ord) (c:Bool) (hl:l.length<=1048576):ACalls Tryz.prog 64 [.p (.list c (l.map Yc))] [] fun y H'=>y= .sl 0 0 l.length l.length/\H'= [.elems 16 (l.map Yc)]:=by
 refine Zj [1] Tryz.func64 rfl ZeM ?_;simp (disch:=omega) only [Tryz.f64,go_sem,seval];refine Wj (DP (e:=67) (cl:=c) (xs:=l.map Yc) Tryz.underlying27 (by rfl) Zb fun b hb=> ?_);refine Zf [] _ _ _ _ (Zd ?_);refine cD ?_ ?_<;>intro h<;>simp (disch:=omega) only [Sh.out h,go_sem,seval]
 ·have:l= []:=by simp_all
  subst this;exact ⟨_,_,Weak.nil 0 16 rfl Zb,rfl,rfl⟩
 ·refine Zf [] _ _ _ _ (Zd ?_);exact we
def Xb (l:List (Int×Int)) (w:List Itm) (kind:Int) (k:Nat):List (Int×Int):=(List.range k).flatMap fun (i:Nat)=>if (⟨kind,i⟩:Itm)∈w then [] else [nth l i]
theorem X3 (l w kind k):Xb l w kind (k+1)=Xb l w kind k++if (⟨kind,k⟩:Itm)∈w then [] else [nth l k]:=by simp [Xb,Yq]
theorem F2 (l w kind): ∀k,(Xb l w kind k).length<=k
 | 0=>by simp [Xb]
 | k+1=>by
  have:=F2 l w kind k;rw [X3,Zy]
  split<;>simp<;>omega
theorem Gm (l:List (Int×Int)) (w:List Itm) (kind:Int) (c d:Bool) (hl:l.length<=1048576) (hw:w.length<=1048576):PC 67 [.p (.list c (l.map eP)),.p (.list d (w.map Yb)),.p (.int .i64 kind)] (.list false ((Xb l w kind l.length).map eP)):=by
 refine ACalls.frozen (S:=2) (n:=(Xb l w kind l.length).length) Zb ?_
 suffices hh:ACalls Tryz.prog 67 [.p (.list c (l.map eP)),.p (.list d (w.map Yb)),.p (.int .i64 kind)] [] fun y H'=> ∃m:List (Int×Int),m=Xb l w kind l.length/\y= .sl 0 0 m.length m.length/\H'= [.elems 2 (m.map eP)] by
  refine hh.mono ?_;rintro x H' ⟨m,rfl,h1,h2⟩;exact ⟨h1,h2⟩
 refine ZM [2] Tryz.func67 rfl ZeO ?_;simp (disch:=omega) only [Tryz.f67,go_sem,seval];refine Zr (Weak.ofNil 7 2 (by simp (disch:=omega) only [go_sem,seval]) Zb (Weak.refl _ _ _)) ?_;refine Zf [] _ _ _ _ ?_;simp (disch:=omega) only [go_sem,seval];refine Zn [1,2,10,11] (fun q:Nat×List (Int×Int)=> [(7,.sl 0 0 q.2.length q.2.length),(12,.p (.int .i64 q.1))]) (fun q=> [.elems 2 (q.2.map eP)]) (fun q=>q.1<=l.length/\q.2=Xb l w kind q.1) (fun q=>l.length-q.1) (0,[]) ⟨Zb,by simp [Xb]⟩ (Weak.mk ?_) ?_
 ·simp (disch:=omega) only [go_sem,seval]
 ·rintro ⟨k,m⟩ ⟨hk,hm⟩;simp only at hk hm;have hml:=F2 l w kind k;rw [<- hm] at hml;have hs:=X3 l w kind k;simp (disch:=omega) only [go_sem,seval];refine cD ?_ ?_<;>intro h<;>simp (disch:=omega) only [Sh.out h,go_sem,seval]
  ·have hk2:k<l.length:=Za
   refine (V0 w d ⟨kind,k⟩ hw).use ?_;simp (disch:=omega) only [go_sem,seval];refine cD ?_ ?_<;>intro h2<;>simp (disch:=omega) only [Sh.out h2,go_sem,seval]
   ·have h3: ¬(⟨kind,k⟩:Itm)∈w:=by simpa using h2
    exact ⟨(k+1,m++ [nth l k]),⟨by simp only;omega,by simp only [hs,h3,Ys,hm]⟩,by simp only;omega,wk⟩
   ·have h3:(⟨kind,k⟩:Itm)∈w:=by simpa using h2
    exact ⟨(k+1,m),⟨by simp only;omega,by simp only [hs,h3,if_true,hm,VM]⟩,by simp only;omega,wk⟩
  ·have hkl:k=l.length:=Za
   subst hkl;exact ⟨m,hm,0,by simp (disch:=omega) only [go_sem,seval]⟩
def Bq (o:Ord) (kind:Int):Ord :=
 if kind=1 then { o with pick:= { o.pick with cls:=4096 } }
 else if kind=2 then { o with drp:= { o.drp with cls:=4096 } }
 else if kind=4 then { o with skills:=0 }
 else if kind=10 then { o with penalty:=0 }
 else o
theorem KA {α β:Type} {f:α->β} {l:List α} {i:Nat} {a:α} :(l.map f).set i (f a)=(l.set i a).map f:=by rw [UN]
theorem lU (os:List Ord) (i:Nat) (hi:i<os.length):ACalls Tryz.prog 93 [.ep 0 i 2 os.length] [.elems 16 (os.map Yc)] fun y H'=>y= .tup []/\H'= [.elems 16 ((os.set i (Bq (nth os i) 1)).map Yc)]:=by
 refine Zj [] Tryz.func93 rfl pJ ?_;simp (disch:=omega) only [Tryz.f93,go_sem,seval];exact ⟨_,_,Weak.refl _ _ _,rfl,by rw [<- KA];rfl⟩
theorem lS (os:List Ord) (i:Nat) (hi:i<os.length):ACalls Tryz.prog 93 [.ep 0 i 6 os.length] [.elems 16 (os.map Yc)] fun y H'=>y= .tup []/\H'= [.elems 16 ((os.set i (Bq (nth os i) 2)).map Yc)]:=by
 refine Zj [] Tryz.func93 rfl pJ ?_;simp (disch:=omega) only [Tryz.f93,go_sem,seval];exact ⟨_,_,Weak.refl _ _ _,rfl,by rw [<- KA];rfl⟩
theorem cP {α:Type} [Inhabited α] {l:List α} {i:Nat} (h:i<l.length):l.set i (nth l i)=l:=by
 rw [Zg h];exact List.set_getElem_self h
theorem Ku (os:List Ord) (i:Nat) (k:Int) (hi:i<os.length):ACalls Tryz.prog 65 [.ep 0 i 0 os.length,.p (.int .i64 k)] [.elems 16 (os.map Yc)] fun y H'=>y= .tup []/\H'= [.elems 16 ((os.set i (Bq (nth os i) k)).map Yc)]:=by
 refine Zj [] Tryz.func65 rfl ZeN ?_;simp (disch:=omega) only [Tryz.f65,go_sem,seval];refine cD ?_ ?_<;>intro h1<;>simp (disch:=omega) only [Sh.out h1,go_sem,seval]
 ·subst h1;refine (lU os i hi).useH ?_;simp (disch:=omega) only [go_sem,seval];exact ⟨_,_,Weak.refl _ _ _,rfl,rfl⟩
 ·refine cD ?_ ?_<;>intro h2<;>simp (disch:=omega) only [Sh.out h2,go_sem,seval]
  ·subst h2;refine (lS os i hi).useH ?_;simp (disch:=omega) only [go_sem,seval];exact ⟨_,_,Weak.refl _ _ _,rfl,rfl⟩
  ·refine cD ?_ ?_<;>intro h3<;>simp (disch:=omega) only [Sh.out h3,go_sem,seval]
   ·subst h3;exact ⟨_,_,Weak.refl _ _ _,rfl,by rw [<- KA];rfl⟩
   ·refine cD ?_ ?_<;>intro h4<;>simp (disch:=omega) only [Sh.out h4,go_sem,seval]
    ·subst h4;exact ⟨_,_,Weak.refl _ _ _,rfl,by rw [<- KA];rfl⟩
    ·have:Bq (nth os i) k=nth os i:=by rw [Bq,if_neg h1,if_neg h2,if_neg h3,if_neg h4]
     rw [this,cP hi];exact ⟨_,_,Weak.refl _ _ _,rfl,rfl⟩
theorem CB {α:Type} {cs:List α} {j:Nat} {v:α} (h:j<cs.length):List.take 1 (List.drop j (cs.set j v))= [v]:=by
 rw [U6 (by simpa using h)];simp
theorem fU {α:Type} {cs:List α} {j:Nat} {v:α} (h:cs[j]? =some v):List.take 1 (List.drop j cs)= [v]:=by
 obtain ⟨h1,h2⟩:=ZE.1 h;rw [U6 h1,h2];simp
theorem Ia {α:Type} : ∀ {cs:List α} {j:Nat},Qh cs j []=cs
 | [],_=>rfl
 | _::_,0=>rfl
 | _::_,_+1=>by simp [Qh,Ia]
theorem BL {α:Type} : ∀ {cs:List α} {j:Nat} {v:α},Qh cs j [v]=cs.set j v
 | [],_,_=>rfl
 | x::l,0,v=>by simp [Qh,Ia]
 | x::l,j+1,v=>by simp [Qh,BL (cs:=l)]
theorem DC {H:List AM.Obj} {n:Nat} {x x':V} (hx:CI H n x x'): ∀ {cs:List V} {j:Nat},(∀v∈cs,refB n v=true)->Mr H n (cs.set j x) (cs.set j x')
 | [],_,_=>by simp [Mr]
 | y::l,0,h=>⟨hx,E9 l fun j c hc=>h c (Yp _ (Xi hc))⟩
 | y::l,j+1,h=>⟨.inr (.inl ⟨rfl,h y Zb⟩),DC hx fun v hv=>h v (Yp _ hv)⟩
theorem SK (cs:List V) (b:Nat) (l:List Int) (c:Bool) (hb:b+14<=cs.length) (hp: ∀n,∀v∈cs,refB n v=true) (h4:cs[b+4]? =some (.p (.list c (l.map eI)))) (hl:l.length<=1048576):ACalls Tryz.prog 66 [.ptr 0 b,.p (.int .i64 3)] [.cells cs] fun y H'=>y= .tup []/\H'= [.cells (cs.set (b+4) (.p (.list false ((List.replicate l.length (1000:Int)).map eI))))]:=by
 refine Zj [] Tryz.func66 rfl pI ?_;have h5:=fU h4
 have h6:b+4+1<=cs.length:=Za
 simp (disch:=omega) only [Tryz.f66,h5,h6,go_sem,seval];refine ACalls.useF (S:=1) (n:=l.length) (xs:=l.map eI) (Fk l c hl) ?_;simp (disch:=omega) only [h6,BL,CB,Kl,go_sem,seval];refine Zn [0,20] (fun q:Nat×List Int=> [(21,.p (.int .i64 q.1))]) (fun q=> [.cells (cs.set (b+4) (.sl 1 0 l.length l.length)),.elems 1 (q.2.map eI)]) (fun q=>q.1<=l.length/\q.2=List.replicate q.1 (1000:Int)++l.drop q.1) (fun q=>l.length-q.1) (0,l) Zb (Weak.mk ?_) ?_
 ·simp (disch:=omega) only [h6,BL,CB,Kl,go_sem,seval];exact DC (by simp (disch:=omega) only [go_sem,seval]) (hp 2)
 ·rintro ⟨k,m⟩ ⟨hk,hm⟩;simp only at hk hm
  have hml:m.length=l.length:=by rw [hm];simp;omega
  rw [<- hml] at hk ⊢
  have hme:(m.map eI).length=m.length:=Zb
  simp (disch:=omega) only [go_sem,seval];refine cD ?_ ?_<;>intro h<;>simp (disch:=omega) only [Sh.out h,go_sem,seval]
  ·have hk2:k<m.length:=Za
   simp (disch:=omega) only [h6,BL,CB,Kl,go_sem,seval];refine ⟨(k+1,m.set k 1000),⟨by simp only;omega,?_⟩,by simp only;omega,Weak.mk ?_⟩
   ·rw [hm]
    have hkl:k<l.length:=Za
    simp only;rw [List.set_append_right _ _ Zb,U6 hkl,List.replicate_succ',WZ];simp only [Df,Kq,ZX,ZP,ZA]
   ·simp (disch:=omega) only [gY,ZX,List.headD_cons,go_sem,seval];refine ⟨DC ?_ (hp 2),?_⟩
    ·simp (disch:=omega) only [go_sem,seval]
    ·exact KA (f:=eI)
  ·have hkl:k=m.length:=Za
   subst hkl
   have hm2:m=List.replicate m.length (1000:Int):=by rw [hml,JL,VM] at hm;rw [hml];exact hm
   rw [<- hm2];refine ⟨_,_,?_,rfl,rfl⟩;refine Weak.mk ?_;simp (disch:=omega) only [go_sem,seval];refine DC ?_ (hp 1);simp (disch:=omega) only [go_sem,seval]
theorem E6 (cs:List V) (b:Nat) (k:Int) (j:Nat) (v:Int) (hk:(k=7/\j=8/\v=4096)\/(k=8/\j=9/\v=4096)\/(k=9/\j=1/\v=10)) (hb:b+14<=cs.length) (hp: ∀n,∀v∈cs,refB n v=true):ACalls Tryz.prog 66 [.ptr 0 b,.p (.int .i64 k)] [.cells cs] fun y H'=>y= .tup []/\H'= [.cells (cs.set (b+j) (.p (.int .i64 v)))]:=by
 refine Zj [] Tryz.func66 rfl pI ?_
 have h6:b+j+1<=cs.length:=Za
 rcases hk with ⟨rfl,rfl,rfl⟩ | ⟨rfl,rfl,rfl⟩ | ⟨rfl,rfl,rfl⟩ <;>
 ·simp (disch:=omega) only [Tryz.f66,h6,BL,go_sem,seval];exact ⟨_,_,Weak.refl _ _ _,rfl,rfl⟩
def CE (t:Typ) (kind:Int):Typ :=
 if kind=3 then { t with cap_c:=false,cap:=List.replicate t.cap.length 1000 }
 else if kind=7 then { t with cls:=4096 }
 else if kind=8 then { t with drive:=4096 }
 else if kind=9 then { t with count:=10 }
 else t
theorem FU {S:Nat} {x' v:PV} {j:Nat} : ∀ {xs:List PV} {i:Nat} (h:i<xs.length),(∀x∈xs,x.cells.length=S)->j<S->x'.cells=(xs[i]).cells.set j v->Vb (xs.set i x')=(Vb xs).set (i*S+j) v
 | [],_,h,_,_,_=>absurd h Zb
 | x::xs,0,_,hS,hj,he=>by
  have hx:=hS x Zb
  simp only [Vb,ZX,VL,Nat.zero_mul,Xz,List.getElem_cons_zero] at *
  rw [he,List.set_append_left _ _ Za]
 | x::xs,i+1,h,hS,hj,he=>by
  have hx:=hS x Zb;have:=FU (xs:=xs) (i:=i) (by simpa using h) (fun y hy=>hS y (by simp [hy])) hj (by simpa using he)
  simp only [Vb,Z7,VL] at *
  rw [this,List.set_append_right _ _ (by rw [hx,Xo];omega),hx]
  congr 2
  rw [Xo];omega
theorem UV (ts:List Typ) (i:Nat) (k:Int) (hk:k=3\/k=7\/k=8\/k=9) (hi:i<ts.length) (hc:(nth ts i).cap.length<=1048576) {H:List AM.Obj} {o:Nat} (hH:H[o]? =some (.elems 14 (ts.map XY))):ACalls Tryz.prog 66 [.ep o i 0 ts.length,.p (.int .i64 k)] H fun y H'=>y= .tup []/\H'=H.set o (.elems 14 ((ts.set i (CE (nth ts i) k)).map XY)):=by
 have hS: ∀(us:List Typ),∀x∈us.map XY,x.cells.length=14:=fun us x hx=>by
  obtain ⟨t,_,rfl⟩:=Xj.1 hx
  rfl
 have hlen:(ts.map XY).length=ts.length:=Zb
 have hg:=Zg hi
 have main: ∀(j:Nat) (v:PV),j<14->(XY (CE (nth ts i) k)).cells=(XY (nth ts i)).cells.set j v->(∀cs:List V,i*14+14<=cs.length->(∀n,∀v∈cs,refB n v=true)->cs[i*14+4]? =some (.p (.list (nth ts i).cap_c ((nth ts i).cap.map eI)))->ACalls Tryz.prog 66 [.ptr 0 (i*14),.p (.int .i64 k)] [.cells cs] fun y H'=>y= .tup []/\H'= [.cells (cs.set (i*14+j) (.p v))]) ->
   ACalls Tryz.prog 66 [.ep o i 0 ts.length,.p (.int .i64 k)] H fun y H'=>y= .tup []/\H'=H.set o (.elems 14 ((ts.set i (CE (nth ts i) k)).map XY)):=fun j v hj he h=>by
  rw [<- hlen];refine ACalls.atF (S:=14) (ps:= [.int .i64 k]) hH (hS _) (hS _) (fun sp=> ?_) Zb;have hfl:=Ka (hS ts);have h4:(Vb (ts.map XY))[i*14+4]? =some (.list (nth ts i).cap_c ((nth ts i).cap.map eI)):=B4 (S:=14) (hS ts) i (XY (nth ts i)) 4 _ (by rw [Xc,U8 hi,hg];rfl) rfl;have h4l:=(ZE.1 h4).1;refine (h _ (by simp [hfl];omega) (fun n v hv=> ?_) ?_).mono ?_
  ·rcases Z5.1 hv with hv | hv
   ·obtain ⟨y,_,rfl⟩:=Xj.1 hv
    rfl
   ·rw [List.eq_of_mem_replicate hv];rfl
  ·rw [YQ (by simpa using h4l),Xc,h4];rfl
  ·rintro y H' ⟨h1,rfl⟩;refine ⟨h1,List.replicate sp .junk,Zb,?_⟩;have hf:=FU (S:=14) (x':=XY (CE (nth ts i) k)) (v:=v) (j:=j) (xs:=ts.map XY) (i:=i) (by simpa using hi) (hS ts) hj (by rw [Bb,<- hg];exact he);rw [KA] at hf;rw [hf,UN,List.set_append_left _ _ (by simp [hfl];omega)]
 rcases hk with rfl | rfl | rfl | rfl
 ·exact main 4 _ Za rfl fun cs h1 h2 h3=>SK cs _ _ _ h1 h2 h3 hc
 ·exact main 8 _ Za rfl fun cs h1 h2 _=>E6 cs _ 7 8 4096 Zb h1 h2
 ·exact main 9 _ Za rfl fun cs h1 h2 _=>E6 cs _ 8 9 4096 Zb h1 h2
 ·exact main 1 _ Za rfl fun cs h1 h2 _=>E6 cs _ 9 1 10 Zb h1 h2
structure ISz (x:Inst):Prop where
 plc:Plc x
 ord:x.orders.length<=1000
 typ0:0<x.types.length
 typ:x.types.length<=1000
 ap:x.apart.length<=1000
 be:x.before.length<=1000
theorem QC {x:Inst} (h:ISz x):(Yw x 10).length<=1048576:=by
 have e:(Yw x 10).Perm (Fy x):=by
  refine (List.perm_ext_iff_of_nodup ?_ (EI h.plc)).2 fun v=>by rw [Uv,Lq h.plc]
  exact (JX x 10).imp fun {a b} hh e=>by subst e;rw [VZ] at hh;omega
 rw [e.length_eq];have h1:=AY x x.orders.length;have h2:=C8 (k:=x.types.length);have h3:=Hr x x.apart.length;have h4:=Ht x x.before.length;have:=h.ord;have:=h.typ;have:=h.ap;have:=h.be;simp only [Fy,Zy];omega
theorem Hu (x:Inst) (h:ISz x):PC 31 [.p (ZW x)] (.list false ((Yw x 10).map Yb)):=lB x h.plc h.ord ⟨h.typ0,h.typ⟩ h.ap h.be
theorem kY (x:Inst) (h:ISz x) (v:Itm):PC 29 [.p (ZW x),.p (Yb v)] (.bool (XI x v)):=by
 refine Zc Tryz.func29 rfl Zen ?_;simp (disch:=omega) only [Tryz.f29,go_sem,seval];refine XN ?_;simp (disch:=omega) only [go_sem,seval];refine Zo (Hu x h) ?_;simp (disch:=omega) only [go_sem,seval];refine Zo (V0 (Yw x 10) false v (QC h)) ?_;simp (disch:=omega) only [go_sem,seval];simp [Uv]
theorem Jf (o:Ord) (k:Int) (hk:k=1\/k=2\/k=4\/k=10):PC 57 [.p (Yc o),.p (.int .i64 k)] (.bool (KQ o k)):=by
 refine Zc Tryz.func57 rfl ZeF ?_;rcases hk with rfl | rfl | rfl | rfl
 ·simp (disch:=omega) only [Tryz.f57,KQ,go_sem,seval]
 ·simp (disch:=omega) only [Tryz.f57,KQ,go_sem,seval]
 ·simp (disch:=omega) only [Tryz.f57,KQ,go_sem,seval]
 ·simp (disch:=omega) only [Tryz.f57,KQ,go_sem,seval]
theorem Uz (x:Inst) (i:Int) (hl:x.orders.length<=1048576):PC 56 [.p (ZW x),.p (.int .i64 i)] (.bool (WR x i)):=by
 refine Zc Tryz.func56 rfl ZeE ?_;simp (disch:=omega) only [Tryz.f56,go_sem,seval];refine gT ?_ ?_<;>intro h<;>simp (disch:=omega) only [Sh.out h,go_sem,seval]
 ·refine gT ?_ ?_<;>intro h2<;>simp (disch:=omega) only [Sh.out h2,go_sem,seval]
  ·simp [WR,h,h2]
  ·simp [WR,h2]
 ·simp [WR,h]
theorem eM (x:Inst) (h:ISz x) (v:Itm):PC 28 [.p (ZW x),.p (Yb v)] (.bool (XI x v)):=by
 have s1:=h.ord;have s2:=h.typ;have s3:=h.ap;have s4:=h.be;refine Zc Tryz.func28 rfl Zem ?_;obtain ⟨k,a⟩:=v
 have gO: ∀k:Int,(k=1\/k=2\/k=4\/k=10)->XI x ⟨k,a⟩=(WR x a&&KQ (nth x.orders a.toNat) k):=fun k h=>by simp only [XI];rw [if_pos h]
 by_cases h1:k=1\/k=2\/k=4\/k=10
 ·rw [gO k h1];rcases h1 with rfl | rfl | rfl | rfl
  ·simp (disch:=omega) only [Tryz.f28,go_sem,seval];refine XN ?_;simp (disch:=omega) only [go_sem,seval];refine Zo (Uz x a Za) ?_;simp (disch:=omega) only [go_sem,seval];refine gT ?_ ?_<;>intro h<;>simp (disch:=omega) only [Sh.out h,go_sem,seval]
   ·have h2:0<=a/\a<(x.orders.length:Int):=by simp only [WR,Zs,Zp] at h;omega
    simp (disch:=omega) only [go_sem,seval];refine Zo (Jf (nth x.orders a.toNat) 1 Za) ?_;simp (disch:=omega) only [go_sem,seval];simp [h]
  ·simp (disch:=omega) only [Tryz.f28,go_sem,seval];refine XN ?_;simp (disch:=omega) only [go_sem,seval];refine Zo (Uz x a Za) ?_;simp (disch:=omega) only [go_sem,seval];refine gT ?_ ?_<;>intro h<;>simp (disch:=omega) only [Sh.out h,go_sem,seval]
   ·have h2:0<=a/\a<(x.orders.length:Int):=by simp only [WR,Zs,Zp] at h;omega
    simp (disch:=omega) only [go_sem,seval];refine Zo (Jf (nth x.orders a.toNat) 2 Za) ?_;simp (disch:=omega) only [go_sem,seval];simp [h]
  ·simp (disch:=omega) only [Tryz.f28,go_sem,seval];refine XN ?_;simp (disch:=omega) only [go_sem,seval];refine Zo (Uz x a Za) ?_;simp (disch:=omega) only [go_sem,seval];refine gT ?_ ?_<;>intro h<;>simp (disch:=omega) only [Sh.out h,go_sem,seval]
   ·have h2:0<=a/\a<(x.orders.length:Int):=by simp only [WR,Zs,Zp] at h;omega
    simp (disch:=omega) only [go_sem,seval];refine Zo (Jf (nth x.orders a.toNat) 4 Za) ?_;simp (disch:=omega) only [go_sem,seval];simp [h]
  ·simp (disch:=omega) only [Tryz.f28,go_sem,seval];refine XN ?_;simp (disch:=omega) only [go_sem,seval];refine Zo (Uz x a Za) ?_;simp (disch:=omega) only [go_sem,seval];refine gT ?_ ?_<;>intro h<;>simp (disch:=omega) only [Sh.out h,go_sem,seval]
   ·have h2:0<=a/\a<(x.orders.length:Int):=by simp only [WR,Zs,Zp] at h;omega
    simp (disch:=omega) only [go_sem,seval];refine Zo (Jf (nth x.orders a.toNat) 10 Za) ?_;simp (disch:=omega) only [go_sem,seval];simp [h]
 ·by_cases h2:k=3\/k=7\/k=8\/k=9
  ·rcases h2 with rfl | rfl | rfl | rfl
   ·simp (disch:=omega) only [Tryz.f28,go_sem,seval];refine gT ?_ ?_<;>intro hq<;>simp (disch:=omega) only [Sh.out hq,go_sem,seval]
    ·simp [XI,hq]
    ·simp [XI,hq]
   ·simp (disch:=omega) only [Tryz.f28,go_sem,seval];refine gT ?_ ?_<;>intro hq<;>simp (disch:=omega) only [Sh.out hq,go_sem,seval]
    ·simp [XI,hq]
    ·simp [XI,hq]
   ·simp (disch:=omega) only [Tryz.f28,go_sem,seval];refine gT ?_ ?_<;>intro hq<;>simp (disch:=omega) only [Sh.out hq,go_sem,seval]
    ·simp [XI,hq]
    ·simp [XI,hq]
   ·simp (disch:=omega) only [Tryz.f28,go_sem,seval];refine gT ?_ ?_<;>intro hq<;>simp (disch:=omega) only [Sh.out hq,go_sem,seval]
    ·simp [XI,hq]
    ·simp [XI,hq]
  ·by_cases h3:k=5
   ·subst h3;simp (disch:=omega) only [Tryz.f28,go_sem,seval];refine XN ?_;simp (disch:=omega) only [go_sem,seval];refine gT ?_ ?_<;>intro hq<;>simp (disch:=omega) only [Sh.out hq,go_sem,seval]
    ·refine gT ?_ ?_<;>intro hq2<;>simp (disch:=omega) only [Sh.out hq2,go_sem,seval]
     ·refine Zo (Uz x (nth x.apart a.toNat).1 Za) ?_;simp (disch:=omega) only [go_sem,seval];refine gT ?_ ?_<;>intro hq3<;>simp (disch:=omega) only [Sh.out hq3,go_sem,seval]
      ·refine Zo (Uz x (nth x.apart a.toNat).2 Za) ?_;simp (disch:=omega) only [go_sem,seval];simp [XI,hq,hq2,hq3]
      ·simp [XI,hq3]
     ·simp [XI,hq2]
    ·simp [XI,hq]
   ·by_cases h4:k=6
    ·subst h4;simp (disch:=omega) only [Tryz.f28,go_sem,seval];refine XN ?_;simp (disch:=omega) only [go_sem,seval];refine gT ?_ ?_<;>intro hq<;>simp (disch:=omega) only [Sh.out hq,go_sem,seval]
     ·refine gT ?_ ?_<;>intro hq2<;>simp (disch:=omega) only [Sh.out hq2,go_sem,seval]
      ·refine Zo (Uz x (nth x.before a.toNat).2 Za) ?_;simp (disch:=omega) only [go_sem,seval];simp [XI,hq,hq2]
      ·simp [XI,hq2]
     ·simp [XI,hq]
    ·have e1: ¬k=1:=Za
     have e2: ¬k=2:=Za
     have e3: ¬k=3:=Za
     have e4: ¬k=4:=Za
     have e7: ¬k=7:=Za
     have e8: ¬k=8:=Za
     have e9: ¬k=9:=Za
     have e10: ¬k=10:=Za
     simp (disch:=omega) only [Tryz.f28,XI,e1,e2,e3,e4,h3,h4,e7,e8,e9,e10,go_sem,seval]
theorem EM (x k): ∀n,(Ct x k n).length<=n
 | 0=>by simp [Ct]
 | n+1=>by
  have h1:=EM x k n
  have h2:(HT x k n).length<=1:=by unfold HT;split<;>simp
  rw [Gv,Zy];omega
theorem Gt (x): ∀n,(Yw x n).length<=n*JO x
 | 0=>by simp [Yw]
 | n+1=>by
  have h1:=Gt x n;have h2:=EM x n (JO x);rw [Gu,Zy,Xo];omega
theorem eQ (x:Inst) (h:ISz x):PC 10 [.p (ZW x)] (.list false ((Yw x 10).map Yb)):=by
 have s1:=h.ord;have s2:=h.typ;have s3:=h.ap;have s4:=h.be;have hrl:=QC h;refine ACalls.frozen (S:=2) (n:=(Yw x 10).length) Zb ?_
 suffices hh:ACalls Tryz.prog 10 [.p (ZW x)] [] fun y H'=> ∃m:List Itm,m=Yw x 10/\y= .sl 0 0 m.length m.length/\H'= [.elems 2 (m.map Yb)] by
  refine hh.mono ?_;rintro x H' ⟨m,rfl,h1,h2⟩;exact ⟨h1,h2⟩
 have hm1:JO x<=1000:=by unfold JO;omega
 have hmost:max (max (max (x.orders.length:Int) x.types.length) x.apart.length) x.before.length=(JO x:Int):=by unfold JO;omega
 refine ZM [1] Tryz.func10 rfl Zeg ?_;simp (disch:=omega) only [Tryz.f10,go_sem,seval];refine Wj (jG 12 (by rfl) (by rfl) ?_);simp (disch:=omega) only [go_sem,seval];refine ⟨_,Sl rfl rfl rfl rfl rfl,?_⟩;rw [hmost];have hrn:=Gt x;have hsK:=Gv x;have hsI:=Gu x;have hlK:=EM x;generalize JO x=M at hm1 hrn hsI;refine Zf [3] _ _ _ _ ?_;simp (disch:=omega) only [go_sem,seval];refine Zr (Weak.ofNil 4 2 (by simp (disch:=omega) only [go_sem,seval]) Zb (Weak.refl _ _ _)) ?_;refine Zf [] _ _ _ _ ?_
 simp (disch:=omega) only [go_sem,seval];refine Zn [1,3] (fun q:Nat×List Itm=> [(4,.sl 1 0 q.2.length q.2.length),(5,.p (.int .i64 (q.1+1)))]) (fun q=> [Zh x,.elems 2 (q.2.map Yb)]) (fun q=>q.1<=10/\q.2=Yw x q.1) (fun q=>10-q.1) (0,[]) ⟨Zb,by simp [Yw]⟩ (Weak.mk ?_) ?_
 ·simp (disch:=omega) only [Zh,go_sem,seval]
 ·rintro ⟨k,m⟩ ⟨hk,hm⟩;simp only at hk hm;have hml:=hrn k;rw [<- hm] at hml;have hml2:k*M<=10*1000:=Nat.mul_le_mul hk hm1;simp (disch:=omega) only [Zh,go_sem,seval];refine cD ?_ ?_<;>intro hq<;>simp (disch:=omega) only [Sh.out hq,go_sem,seval]
  ·have hk2:k<10:=Za
   refine Zn [1,3,5] (fun q:Nat×List Itm=> [(4,.sl 1 0 q.2.length q.2.length),(6,.p (.int .i64 q.1))]) (fun q=> [Zh x,.elems 2 (q.2.map Yb)]) (fun q=>q.1<=M/\q.2=m++Ct x k q.1) (fun q=>M-q.1) (0,m) ⟨Zb,by simp [Ct]⟩ (Weak.mk ?_) ?_
   ·simp (disch:=omega) only [Zh,go_sem,seval]
   ·rintro ⟨a,m2⟩ ⟨ha,hm2⟩;simp only at ha hm2;have hm2l:=hlK k a
    have hm2l2:m2.length=m.length+(Ct x k a).length:=by rw [hm2,Zy]
    have hs:=hsK k a;simp (disch:=omega) only [Zh,go_sem,seval];refine cD ?_ ?_<;>intro h2<;>simp (disch:=omega) only [Sh.out h2,go_sem,seval]
    ·have ha2:a<M:=Za
     refine (eM x h ⟨(k:Int)+1,a⟩).use ?_;simp (disch:=omega) only [go_sem,seval];refine cD ?_ ?_<;>intro h3<;>simp (disch:=omega) only [Sh.out h3,go_sem,seval]
     ·exact ⟨(a+1,m2++ [⟨(k:Int)+1,a⟩]),⟨by simp only;omega,by simp only [hs,HT,h3,if_true,hm2,WZ]⟩,by simp only;omega,Weak.mk (by simp (disch:=omega) only [Zh,go_sem,seval])⟩
     ·exact ⟨(a+1,m2),⟨by simp only;omega,by simp [hs,HT,h3,hm2]⟩,by simp only;omega,Weak.mk (by simp (disch:=omega) only [Zh,go_sem,seval])⟩
    ·have haM:a=M:=Za
     subst haM;exact ⟨(k+1,m2),⟨by simp only;omega,by simp only [hsI,hm2,hm]⟩,by simp only;omega,Weak.mk (by simp (disch:=omega) only [Zh,go_sem,seval])⟩
  ·have hk10:k=10:=Za
   subst hk10;exact ⟨m,hm,1,by simp (disch:=omega) only [Zh,go_sem,seval]⟩
def YE (o:Ord) (at':Int) (l:List Itm):Ord:= { o with
 pick:= { o.pick with cls:=if (⟨1,at'⟩:Itm)∈l then 4096 else o.pick.cls }
 drp:= { o.drp with cls:=if (⟨2,at'⟩:Itm)∈l then 4096 else o.drp.cls }
 skills:=if (⟨4,at'⟩:Itm)∈l then 0 else o.skills
 penalty:=if (⟨10,at'⟩:Itm)∈l then 0 else o.penalty }
def Yx (t:Typ) (at':Int) (l:List Itm):Typ:= { t with
 cap_c:=if (⟨3,at'⟩:Itm)∈l then false else t.cap_c
 cap:=if (⟨3,at'⟩:Itm)∈l then List.replicate t.cap.length 1000 else t.cap
 cls:=if (⟨7,at'⟩:Itm)∈l then 4096 else t.cls
 drive:=if (⟨8,at'⟩:Itm)∈l then 4096 else t.drive
 count:=if (⟨9,at'⟩:Itm)∈l then 10 else t.count }
theorem cZ (o a):YE o a []=o:=by simp [YE]
theorem fW (o a):Yx o a []=o:=by simp [Yx]
theorem Gg (o a l) (v:Itm):YE o a (l++ [v])=if v.a=a then Bq (YE o a l) v.kind else YE o a l:=by
 obtain ⟨k,b⟩:=v
 by_cases h:b=a
 ·subst h
  by_cases h1:k=1
  ·subst h1;simp [YE,Bq,XP]
  ·by_cases h2:k=2
   ·subst h2;simp [YE,Bq,XP]
   ·by_cases h4:k=4
    ·subst h4;simp [YE,Bq,XP]
    ·by_cases h10:k=10
     ·subst h10;simp [YE,Bq,XP]
     ·have e1: ¬ 1=k:=fun h=>h1 h.symm;have e2: ¬ 2=k:=fun h=>h2 h.symm;have e4: ¬ 4=k:=fun h=>h4 h.symm;have e10: ¬ 10=k:=fun h=>h10 h.symm;simp [YE,Bq,XP,h1,h2,h4,h10,e1,e2,e4,e10]
 ·have e: ¬a=b:=fun h2=>h h2.symm;simp [YE,XP,h,e]
theorem GF (o a l) (v:Itm):Yx o a (l++ [v])=if v.a=a then CE (Yx o a l) v.kind else Yx o a l:=by
 obtain ⟨k,b⟩:=v
 by_cases h:b=a
 ·subst h
  by_cases h1:k=3
  ·subst h1;simp [Yx,CE,XP];split<;>simp
  ·by_cases h2:k=7
   ·subst h2;simp [Yx,CE,XP]
   ·by_cases h4:k=8
    ·subst h4;simp [Yx,CE,XP]
    ·by_cases h10:k=9
     ·subst h10;simp [Yx,CE,XP]
     ·have e1: ¬ 3=k:=fun h=>h1 h.symm;have e2: ¬ 7=k:=fun h=>h2 h.symm;have e4: ¬ 8=k:=fun h=>h4 h.symm;have e10: ¬ 9=k:=fun h=>h10 h.symm;simp [Yx,CE,XP,h1,h2,h4,h10,e1,e2,e4,e10]
 ·have e: ¬a=b:=fun h2=>h h2.symm;simp [Yx,XP,h,e]
def ZV (os:List Ord) (w:List Itm):List Ord:=(List.range os.length).map fun (i:Nat)=>YE (nth os i) i w
def ZZ (ts:List Typ) (w:List Itm):List Typ:=(List.range ts.length).map fun (i:Nat)=>Yx (nth ts i) i w
theorem Yi (os w):(ZV os w).length=os.length:=by simp [ZV]
theorem Y0 (os w):(ZZ os w).length=os.length:=by simp [ZZ]
theorem KY {α:Type} [Inhabited α] {f:Nat->α} {n i:Nat} (h:i<n):nth ((List.range n).map f) i=f i:=by
 rw [Zg (by simpa using h)];simp
theorem ZF {os w i} (h:i<os.length):nth (ZV os w) i=YE (nth os i) i w:=KY h
theorem Yj {os w i} (h:i<os.length):nth (ZZ os w) i=Yx (nth os i) i w:=KY h
theorem KW {α:Type} [Inhabited α] (l:List α):(List.range l.length).map (fun i=>nth l i)=l:=by
 apply Us
 ·simp
 ·intro i h1 h2;simp [Zg h2]
theorem Gi (os):ZV os []=os:=by simp only [ZV,cZ];exact KW os
theorem GH (os):ZZ os []=os:=by simp only [ZZ,fW];exact KW os
theorem Nm {o:Ord} {k:Int} (h:k=3\/k=7\/k=8\/k=9\/k=5\/k=6):Bq o k=o:=by
 unfold Bq;rw [if_neg Za,if_neg Za,if_neg Za,if_neg Za]
theorem NO {o:Typ} {k:Int} (h:k=1\/k=2\/k=4\/k=10\/k=5\/k=6):CE o k=o:=by
 unfold CE;rw [if_neg Za,if_neg Za,if_neg Za,if_neg Za]
theorem Kv {os:List Ord} {w:List Itm} {v:Itm} {i:Nat} (hi:i<os.length) (hv:v.a=(i:Int)):(ZV os w).set i (Bq (nth (ZV os w) i) v.kind)=ZV os (w++ [v]):=by
 rw [ZF hi];apply Us
 ·simp [ZV]
 ·intro j h1 h2
  have hj:j<os.length:=by simpa [ZV] using h2
  rw [List.getElem_set];simp only [ZV,Bb,List.getElem_range,Gg,hv]
  by_cases e:i=j
  ·subst e;simp
  ·have: ¬(i:Int)=j:=Za
   simp [e,this]
theorem KG {os:List Typ} {w:List Itm} {v:Itm} {i:Nat} (hi:i<os.length) (hv:v.a=(i:Int)):(ZZ os w).set i (CE (nth (ZZ os w) i) v.kind)=ZZ os (w++ [v]):=by
 rw [Yj hi];apply Us
 ·simp [ZZ]
 ·intro j h1 h2
  have hj:j<os.length:=by simpa [ZZ] using h2
  rw [List.getElem_set];simp only [ZZ,Bb,List.getElem_range,GF,hv]
  by_cases e:i=j
  ·subst e;simp
  ·have: ¬(i:Int)=j:=Za
   simp [e,this]
theorem VB {os:List Ord} {w:List Itm} {v:Itm} (h:v.kind=3\/v.kind=7\/v.kind=8\/v.kind=9\/v.kind=5\/v.kind=6):ZV os (w++ [v])=ZV os w:=by
 simp only [ZV,Gg,Nm h,ite_self]
theorem VE {os:List Typ} {w:List Itm} {v:Itm} (h:v.kind=1\/v.kind=2\/v.kind=4\/v.kind=10\/v.kind=5\/v.kind=6):ZZ os (w++ [v])=ZZ os w:=by
 simp only [ZZ,GF,NO h,ite_self]
def Zl (x:Inst) (l:List Itm):Inst:=⟨x.net,false,ZZ x.types l,false,ZV x.orders l,false,Xb x.apart l 5 x.apart.length,false,Xb x.before l 6 x.before.length⟩
def Wp (x:Inst) (l:List Itm) (i:Nat):Int:=if XI x (nth l i)=true then (if nth l i∈l.take i then 6 else 0) else 7
def U0 (x:Inst) (l:List Itm):Int:=(((List.range l.length).map (Wp x l)).find? fun e=>decide (e≠0)).getD 0
theorem AL {x:Inst} {l:List Itm} {k:Nat} (hk:k<l.length) (h0: ∀j,j<k->Wp x l j=0) (h:Wp x l k≠0):U0 x l=Wp x l k:=by
 have:((List.range l.length).map (Wp x l)).find? (fun e=>decide (e≠0))=some (Wp x l k):=by
  rw [HB];refine ⟨by simpa using h,k,by simpa using hk,Zb,fun j hj=> ?_⟩;have:=h0 j hj;simp [this]
 rw [U0,this];rfl
theorem Hh {x:Inst} {l:List Itm} (h: ∀j,j<l.length->Wp x l j=0):U0 x l=0:=by
 have:((List.range l.length).map (Wp x l)).find? (fun e=>decide (e≠0))=none:=by
  rw [Af];intro e he;obtain ⟨j,hj,rfl⟩:=Xj.1 he;have:=h j (by simpa using hj);simp [this]
 rw [U0,this];rfl
theorem Vg {x l i} :Wp x l i=0↔XI x (nth l i)=true/\nth l i ∉ l.take i:=by
 unfold Wp
 split
 ·split<;>simp_all
 ·simp_all
theorem Rt {x:Inst} {l:List Itm} :U0 x l=0↔ ∀j,j<l.length->Wp x l j=0:=by
 refine ⟨fun h j hj=> ?_,Hh⟩
 induction j using Nat.strongRecOn with
 | ind j ih =>
  by_cases h2:Wp x l j=0
  ·exact h2
  ·rw [AL hj (fun i hi=>ih i hi Za) h2] at h;exact h
theorem IU {x:Inst} {l:List Itm} :U0 x l=0↔(∀v∈l,XI x v=true)/\l.Nodup:=by
 rw [Rt]
 constructor
 ·intro h;refine ⟨fun v hv=> ?_,?_⟩
  ·obtain ⟨j,hj,rfl⟩:=Z1.1 hv;have:=(Vg.1 (h j hj)).1;rwa [Zg hj] at this
  ·rw [List.Nodup,JI];intro i j hi hj hij e;have:=(Vg.1 (h j hj)).2;rw [Zg hj,<- e] at this;exact this (Z1.2 ⟨i,by simp;omega,Zb⟩)
 ·rintro ⟨h1,h2⟩ j hj;refine Vg.2 ⟨h1 _ (Zz hj),fun hm=> ?_⟩;obtain ⟨i,hi,e⟩:=Z1.1 hm
  have hi2:i<j:=by simp at hi;omega
  rw [List.Nodup,JI] at h2;refine h2 i j Za hj hi2 ?_;rw [Zg hj] at e;rw [<- e];simp
def HU (x:Inst) (l:List Itm):Inst:=if U0 x l=0 then Zl x l else zeroI
theorem kU {n word sm l i} :Oz n word sm l i= []↔R5 n (nth l i)=true/\(l.take i).any (sm (nth l i))=false:=by
 unfold Oz;split<;>(try split)<;>simp_all
theorem I3 {n word sm l} :Qs n word sm l l.length= []↔l.length<=16/\(∀p∈l,R5 n p=true)/\l.Pairwise (fun p q=>sm q p=false):=by
 rw [Qs,Uq,List.flatMap_eq_nil_iff];refine and_congr (by unfold Mo;split<;>simp<;>omega) ?_;simp only [ZO,kU]
 constructor
 ·intro h;refine ⟨fun p hp=> ?_,?_⟩
  ·obtain ⟨i,hi,rfl⟩:=Z1.1 hp;have:=(h i hi).1;rwa [Zg hi] at this
  ·rw [JI];intro i j hi hj hij;have:=(h j hj).2;rw [WC,Zg hj] at this;have h2:=this l[i] (Z1.2 ⟨i,by simp;omega,Zb⟩);simpa using h2
 ·rintro ⟨h1,h2⟩ i hi;refine ⟨h1 _ (Zz hi),?_⟩;rw [WC];intro p hp;obtain ⟨j,hj,rfl⟩:=Z1.1 hp;rw [JI] at h2
  have hji:j<i:=by simp at hj;omega
  have:=h2 j i Za hi hji;rw [Zg hi,List.getElem_take,this];simp
theorem He {n:Int} {ap be:List (Int×Int)} :chk n ap be= []↔(ap.length<=16/\(∀p∈ap,R5 n p=true)/\ap.Pairwise (fun p q=>decide (q=p\/(q.1=p.2/\q.2=p.1))=false))/\(be.length<=16/\(∀p∈be,R5 n p=true)/\be.Pairwise (fun p q=>decide (q=p)=false)):=by
 rw [chk,Uq,I3,I3]
theorem F4 (l w kind): ∀k,k<=l.length->(Xb l w kind k).Sublist (l.take k)
 | 0,_=>by simp [Xb]
 | k+1,h=>by
  rw [X3,Yu Za];refine (F4 l w kind k Za).append ?_
  split
  ·simp
  ·rw [Zg Za];exact List.Sublist.refl _
theorem Wb (l w kind):(Xb l w kind l.length).Sublist l:=by
 have:=F4 l w kind l.length (Zw _);rwa [X5] at this
theorem Kx {n lo hi:Int} :rng n lo hi=true↔lo<=n/\n<=hi:=by simp [rng]
theorem B0 {l:List Int} {d:Int} :Va l d=true↔(1<=l.length/\l.length<=3)/\(l.length:Int)=d/\ ∀n∈l,0<=n/\n<=1000:=by
 simp only [Va,Zs,Zp,ZH,Kx]
 constructor
 ·rintro ⟨⟨h1,h2⟩,h3⟩;exact ⟨Za,h2,h3⟩
 ·rintro ⟨h1,h2,h3⟩;exact ⟨⟨Za,h2⟩,h3⟩
theorem W5 (t a l):(Yx t a l).cap.length=t.cap.length:=by simp only [Yx];split<;>simp
theorem NN {t a l d} (h:Va t.cap d=true):Va (Yx t a l).cap d=true:=by
 rw [B0] at h ⊢;rw [W5];refine ⟨h.1,h.2.1,fun n hn=> ?_⟩;simp only [Yx] at hn
 split at hn
 ·rw [List.eq_of_mem_replicate hn];omega
 ·exact h.2.2 n hn
theorem QR (ts l):dimsOf (ZZ ts l)=dimsOf ts:=by
 unfold dimsOf;rw [Y0]
 split
 ·rfl
 ·rw [Yj Za,W5]
theorem Py {n:Net} {ts:List Typ} {l:List Itm} {i:Nat} (hi:i<ts.length) (h:VW n ts i):VW n (ZZ ts l) i:=by
 unfold VW at h ⊢;rw [Yj hi,QR];obtain ⟨⟨⟨⟨⟨⟨⟨⟨h1,h2⟩,h3⟩,h4⟩,h5⟩,h6⟩,h7⟩,h8⟩,h9⟩:=h;refine ⟨⟨⟨⟨⟨⟨⟨⟨h1,fun j hj=> ?_⟩,?_⟩,h4⟩,NN h5⟩,h6⟩,?_⟩,?_⟩,h9⟩
 ·rw [Yj Za];exact h2 j hj
 ·simp only [Yx];split
  ·rfl
  ·exact h3
 ·simp only [Kx,Yx] at h7 ⊢
  split<;>omega
 ·simp only [Kx,Yx] at h8 ⊢
  split<;>omega
theorem GC {s:Stp} (h:stpOk s=true) (hp:0<=s.place):stpOk { s with cls:=4096 } =true:=by
 rw [SI] at h ⊢;simp only;omega
theorem JG {x:Inst} {k a:Int} (hk:k=1\/k=2\/k=4\/k=10):XI x ⟨k,a⟩=true↔WR x a=true/\KQ (nth x.orders a.toNat) k=true:=by
 simp only [XI];rw [if_pos hk,Zs]
theorem iB {np:Nat} {d ty:Int} {os:List Ord} {l:List Itm} {i:Nat} (hi:i<os.length) (h:OrdOk np d ty os i) (h1:(⟨1,i⟩:Itm)∈l->0<=(nth os i).pick.place) (h2:(⟨2,i⟩:Itm)∈l->0<=(nth os i).drp.place):OrdOk np d ty (ZV os l) i:=by
 constructor
 ·rw [ZF hi];exact h.name
 ·intro j hj;rw [ZF hi,ZF Za];exact h.twin j hj
 ·rw [ZF hi];exact h.load
 ·rw [ZF hi];exact h.pick
 ·rw [ZF hi];exact h.drp
 ·rw [ZF hi];exact h.one
 ·rw [ZF hi];simp only [YE];split
  ·rename_i hm;exact GC h.pstp (h1 hm)
  ·exact h.pstp
 ·rw [ZF hi];simp only [YE];split
  ·rename_i hm;exact GC h.dstp (h2 hm)
  ·exact h.dstp
 ·rw [ZF hi];have:=h.skills;simp only [YE];split<;>omega
 ·rw [ZF hi];have:=h.arg;simp only [argOk,Zs,Zp,Kx] at this ⊢;refine ⟨⟨?_,this.1.2⟩,this.2⟩;have:=this.1.1;simp only [YE]
  split<;>omega
theorem Jl {x:Inst} {l:List Itm} (h:InstOk x) (hI: ∀v∈l,XI x v=true):InstOk (Zl x l):=by
 have ht:=h.types;have ho:=h.orders;obtain ⟨⟨a1,a2,a3⟩,b1,b2,b3⟩:=He.1 h.rules;refine ⟨h.net,⟨?_,fun i hi=> ?_⟩,⟨?_,fun i hi=> ?_⟩,?_⟩
 ·show rng (ZZ x.types l).length 1 6=true
  rw [Y0];exact ht.1
 ·have hi2:i<x.types.length:=by simpa [Zl,Y0] using hi
  exact Py hi2 (ht.2 i hi2)
 ·show (ZV x.orders l).length<=10
  rw [Yi];exact ho.1
 ·have hi2:i<x.orders.length:=by simpa [Zl,Yi] using hi
  show OrdOk x.net.places.length (dimsOf (ZZ x.types l)) (ZZ x.types l).length (ZV x.orders l) i
  rw [QR,Y0];refine iB hi2 (ho.2 i hi2) (fun hm=> ?_) (fun hm=> ?_)
  ·have:=((JG Za).1 (hI _ hm)).2;simpa [KQ] using this
  ·have:=((JG Za).1 (hI _ hm)).2;simpa [KQ] using this
 ·show chk ((ZV x.orders l).length:Int) (Xb x.apart l 5 x.apart.length) (Xb x.before l 6 x.before.length)= []
  rw [Yi,He];have sa:=Wb x.apart l 5;have sb:=Wb x.before l 6;have la:=sa.length_le;have lb:=sb.length_le;exact ⟨⟨Za,fun p hp=>a2 p (sa.subset hp),a3.sublist sa⟩,⟨Za,fun p hp=>b2 p (sb.subset hp),b3.sublist sb⟩⟩
theorem AW {x:Inst} (h:InstOk x):ISz x:=by
 have hf:=YB h;have ht:=Kx.1 h.types.1;obtain ⟨⟨a1,_,_⟩,b1,_,_⟩:=He.1 h.rules;have:=h.orders.1;exact ⟨hf.plc,Za,Za,Za,Za,Za⟩
theorem bE {x:Inst} (h:InstOk x): ∀t∈x.types,t.cap.length<=1048576:=fun t hm=>by
 obtain ⟨i,hi,rfl⟩:=Z1.1 hm;have:=h.types.2 i hi;have h5:=(B0.1 this.1.1.1.1.2).1;rw [Zg hi] at h5;omega
theorem nV {B:Nat} {t a l} (h:t.wf B):(Yx t a l).wf B:=by
 obtain ⟨h1,h2,h3,h4,h5,h6,h7,h8,h9,h10,h11,h12,h13,h14,h15⟩:=h;refine ⟨h1,?_,h3,h4,?_,?_,h7,h8,h9,?_,?_,h12,h13,h14,h15⟩
 ·simp only [Yx];split<;>omega
 ·rw [W5];exact h5
 ·intro n hn;simp only [Yx] at hn
  split at hn
  ·rw [List.eq_of_mem_replicate hn];omega
  ·exact h6 n hn
 ·simp only [Yx];split<;>omega
 ·simp only [Yx];split<;>omega
theorem mA {B:Nat} {o a l} (h:o.wf B):(YE o a l).wf B:=by
 obtain ⟨h1,h2,h3,⟨p1,p2,p3,p4⟩,⟨d1,d2,d3,d4⟩,h6,h7,h8,h9,h10⟩:=h;refine ⟨h1,h2,h3,⟨p1,p2,?_,p4⟩,⟨d1,d2,?_,d4⟩,?_,?_,h8,h9,h10⟩
 ·simp only [YE];split<;>omega
 ·simp only [YE];split<;>omega
 ·simp only [YE];split<;>omega
 ·simp only [YE];split<;>omega
theorem NU {B:Nat} {x:Inst} {l:List Itm} (h:x.wf B):(Zl x l).wf B:=by
 obtain ⟨h1,h2,h3,h4,h5,h6,h7,h8,h9⟩:=h;refine ⟨h1,?_,?_,?_,?_,?_,?_,?_,?_⟩
 ·show (ZZ x.types l).length<=B
  rw [Y0];exact h2
 ·intro t ht;obtain ⟨i,hi,rfl⟩:=Xj.1 (show t∈ZZ x.types l from ht);exact nV (h3 _ (Zz (by simpa using hi)))
 ·show (ZV x.orders l).length<=B
  rw [Yi];exact h4
 ·intro t ht;obtain ⟨i,hi,rfl⟩:=Xj.1 (show t∈ZV x.orders l from ht);exact mA (h5 _ (Zz (by simpa using hi)))
 ·exact UO (Wb x.apart l 5).length_le h6
 ·exact fun p hp=>h7 p ((Wb x.apart l 5).subset hp)
 ·exact UO (Wb x.before l 6).length_le h8
 ·exact fun p hp=>h9 p ((Wb x.before l 6).subset hp)
theorem mX (x:Inst) (hs:ISz x) (hcap: ∀t∈x.types,t.cap.length<=1048576) (l:List Itm) (c:Bool) (hl:l.length<=1048576):PT 32 [.p (ZW x),.p (.list c (l.map Yb))] [.p (ZW (HU x l)),.p (.int .i64 (U0 x l))]:=by
 have s1:=hs.ord;have s2:=hs.typ;have s3:=hs.ap;have s4:=hs.be;have hrl:=QC hs;refine Zj [27] Tryz.func32 rfl Zeq ?_;simp (disch:=omega) only [Tryz.f32,go_sem,seval];refine (Hu x hs).use ?_;simp (disch:=omega) only [go_sem,seval];have zI:ZW zeroI= .agg [.list true [],.list true [],.list true [],.list true [],.list true [],.list true []]:=rfl;refine XG [10] [1,2,4,6,13,14] (fun k:Nat=> [(15,.p (.int .i64 k))]) (fun _=> [Zh x,Zh zeroI]) (fun k=>k<=l.length/\ ∀j,j<k->Wp x l j=0) (fun k=>l.length-k) 0 Zb (Weak.mk ?_) ?_
 ·simp (disch:=omega) only [Zh,zeroI,Zm,go_sem,seval]
 ·rintro k ⟨hk,hno⟩;simp (disch:=omega) only [Zh,zeroI,Zm,go_sem,seval];refine cD ?_ ?_<;>intro h<;>simp (disch:=omega) only [Sh.out h,go_sem,seval]
  ·have hk2:k<l.length:=Za
   refine (V0 (Yw x 10) false (nth l k) hrl).use ?_;simp (disch:=omega) only [go_sem,seval];refine cD ?_ ?_<;>intro h2<;>simp (disch:=omega) only [Sh.out h2,zI,go_sem,seval]
   ·have h3:XI x (nth l k)=false:=by rw [Uv] at h2;simpa using h2
    have e0:Wp x l k=7:=by rw [Wp,h3];rfl
    have e:U0 x l=7:=by rw [AL hk2 hno (by rw [e0];decide),e0]
    have r:HU x l=zeroI:=by rw [HU,e];rfl
    simp only [e,r,zeroI,Zm];exact we
   ·have h3:XI x (nth l k)=true:=by rw [XD,Uv] at h2;exact h2
    refine XN ?_;simp (disch:=omega) only [go_sem,seval];refine Zo (V0 (l.take k) _ (nth l k) (by simp;omega)) ?_;simp (disch:=omega) only [go_sem,seval];refine cD ?_ ?_<;>intro h4<;>simp (disch:=omega) only [Sh.out h4,go_sem,seval]
    ·have e0:Wp x l k=6:=by rw [Wp,if_pos h3,if_pos h4]
     have e:U0 x l=6:=by rw [AL hk2 hno (by rw [e0];decide),e0]
     have r:HU x l=zeroI:=by rw [HU,e];rfl
     simp only [e,r,zeroI,Zm];exact we
    ·exact ⟨k+1,⟨Za,ZR.2 ⟨hno,Vg.2 ⟨h3,h4⟩⟩⟩,Za,Weak.mk (by simp (disch:=omega) only [Zh,zeroI,Zm,go_sem,seval])⟩
  ·have hkl:k=l.length:=Za
   subst hkl;have e:U0 x l=0:=Hh hno
   have r:HU x l=Zl x l:=by rw [HU,if_pos e]
   rw [e,r];clear hk h;refine P4 [1,2,4] (fun _:Unit=> []) (fun _=> [.cells [.p (.list x.net.places_c (x.net.places.map eS)),.p (.list x.net.arcs_c (x.net.arcs.map Um)),.sl 2 0 x.types.length x.types.length,.sl 3 0 x.orders.length x.orders.length,.p (.list x.apart_c (x.apart.map eP)),.p (.list x.before_c (x.before.map eP))],Zh zeroI,.elems 14 (x.types.map XY),.elems 16 (x.orders.map Yc)]) (fun _=>True) ?_ ?_
   ·refine Tx (.cons 0 (.cons 1 (.cons 2 (.cons 3 (.cons 4 (.cons 5 (.cons 6 (.cons 7 (.cons 8 (.cons 9 .nil .nil) .nil) .nil) .nil) (.cons 6 (.cons 5 (.cons 7 (.cons 8 (.cons 9 .nil .nil) .nil) .nil) .nil) .nil)) .nil) .nil) (.cons 3 (.cons 2 (.cons 4 (.cons 5 (.cons 6 (.cons 7 (.cons 8 (.cons 9 .nil .nil) .nil) .nil) .nil) (.cons 6 (.cons 5 (.cons 7 (.cons 8 (.cons 9 .nil .nil) .nil) .nil) .nil) .nil)) .nil) (.cons 4 (.cons 2 (.cons 5 (.cons 6 (.cons 7 (.cons 8 (.cons 9 .nil .nil) .nil) .nil) .nil) (.cons 6 (.cons 5 (.cons 7 (.cons 8 (.cons 9 .nil .nil) .nil) .nil) .nil) .nil)) .nil) .nil)) .nil)) (.cons 3 (.cons 1 (.cons 2 (.cons 4 (.cons 5 (.cons 6 (.cons 7 (.cons 8 (.cons 9 .nil .nil) .nil) .nil) .nil) (.cons 6 (.cons 5 (.cons 7 (.cons 8 (.cons 9 .nil .nil) .nil) .nil) .nil) .nil)) .nil) (.cons 4 (.cons 2 (.cons 5 (.cons 6 (.cons 7 (.cons 8 (.cons 9 .nil .nil) .nil) .nil) .nil) (.cons 6 (.cons 5 (.cons 7 (.cons 8 (.cons 9 .nil .nil) .nil) .nil) .nil) .nil)) .nil) .nil)) (.cons 4 (.cons 1 (.cons 2 (.cons 5 (.cons 6 (.cons 7 (.cons 8 (.cons 9 .nil .nil) .nil) .nil) .nil) (.cons 6 (.cons 5 (.cons 7 (.cons 8 (.cons 9 .nil .nil) .nil) .nil) .nil) .nil)) .nil) .nil) .nil)) .nil)) (.cons 3 (.cons 0 (.cons 1 (.cons 2 (.cons 4 (.cons 5 (.cons 6 (.cons 7 (.cons 8 (.cons 9 .nil .nil) .nil) .nil) .nil) (.cons 6 (.cons 5 (.cons 7 (.cons 8 (.cons 9 .nil .nil) .nil) .nil) .nil) .nil)) .nil) (.cons 4 (.cons 2 (.cons 5 (.cons 6 (.cons 7 (.cons 8 (.cons 9 .nil .nil) .nil) .nil) .nil) (.cons 6 (.cons 5 (.cons 7 (.cons 8 (.cons 9 .nil .nil) .nil) .nil) .nil) .nil)) .nil) .nil)) (.cons 4 (.cons 1 (.cons 2 (.cons 5 (.cons 6 (.cons 7 (.cons 8 (.cons 9 .nil .nil) .nil) .nil) .nil) (.cons 6 (.cons 5 (.cons 7 (.cons 8 (.cons 9 .nil .nil) .nil) .nil) .nil) .nil)) .nil) .nil) .nil)) (.cons 4 (.cons 0 (.cons 1 (.cons 2 (.cons 5 (.cons 6 (.cons 7 (.cons 8 (.cons 9 .nil .nil) .nil) .nil) .nil) (.cons 6 (.cons 5 (.cons 7 (.cons 8 (.cons 9 .nil .nil) .nil) .nil) .nil) .nil)) .nil) .nil) .nil) .nil)) .nil)) mixed Ze ?_
    have cT:ACalls Tryz.prog 63 [.p (.list x.types_c (x.types.map XY))] [] fun y H'=>y= .sl 0 0 x.types.length x.types.length/\H'= [.elems 14 (x.types.map XY)]:=Fm x.types x.types_c Za;have cO:ACalls Tryz.prog 64 [.p (.list x.orders_c (x.orders.map Yc))] [] fun y H'=>y= .sl 0 0 x.orders.length x.orders.length/\H'= [.elems 16 (x.orders.map Yc)]:=Fl x.orders x.orders_c Za
    repeat' first
     | refine PL ?_ ?_
     | (refine cT.useF ?_;simp (disch:=omega) only [go_sem,seval])
     | (refine cO.useF ?_;simp (disch:=omega) only [go_sem,seval])
     | exact ⟨(),Weak.mk (by simp (disch:=omega) only [Zh,zeroI,Zm,go_sem,seval])⟩
     | simp (disch:=omega) only [go_sem,seval]
   ·rintro _ _;simp (disch:=omega) only [Zh,zeroI,Zm,go_sem,seval];have lT:=Y0 x.types;have lO:=Yi x.orders
    have hcap2: ∀k i,i<x.types.length->(nth (ZZ x.types (l.take k)) i).cap.length<=1048576:=fun k i hi=>by
     rw [Yj hi];have:=hcap _ (Zz hi);simp only [Yx]
     split<;>simp [this]
    refine XG [26,27] [1,2,4,42,43] (fun k:Nat=> [(44,.p (.int .i64 k))]) (fun k=> [.cells [.p (.list x.net.places_c (x.net.places.map eS)),.p (.list x.net.arcs_c (x.net.arcs.map Um)),.sl 2 0 x.types.length x.types.length,.sl 3 0 x.orders.length x.orders.length,.p (.list x.apart_c (x.apart.map eP)),.p (.list x.before_c (x.before.map eP))],Zh zeroI,.elems 14 ((ZZ x.types (l.take k)).map XY),.elems 16 ((ZV x.orders (l.take k)).map Yc)]) (fun k=>k<=l.length) (fun k=>l.length-k) 0 Zb (Weak.mk ?_) ?_
    ·simp (disch:=omega) only [Zh,zeroI,Zm,Q3,GH,Gi,go_sem,seval]
    ·rintro k hk;simp (disch:=omega) only [Zh,zeroI,Zm,go_sem,seval];have hhas:k<l.length->XI x (nth l k)=true:=fun h=>(Vg.1 (hno k h)).1
     have hsn:k<l.length->l.take (k+1)=l.take k++ [nth l k]:=fun h=>by rw [Yu h,Zg h]
     refine cD ?_ ?_<;>intro h<;>simp (disch:=omega) only [Sh.out h,go_sem,seval]
     ·have hk2:k<l.length:=Za
      have hhas:=hhas hk2;have hsn:=hsn hk2
      have hgo: ∀kd a,nth l k=⟨kd,a⟩->(kd=1\/kd=2\/kd=4\/kd=10)/\(0<=a/\a<(x.orders.length:Int))\/(kd=3\/kd=7\/kd=8\/kd=9)/\(0<=a/\a<(x.types.length:Int))\/kd=5\/kd=6:=fun kd a e=>by
       rw [e] at hhas;unfold XI at hhas;simp only at hhas
       split at hhas
       ·rename_i hq;simp only [WR,Zs,Zp] at hhas;exact .inl ⟨hq,Za⟩
       ·split at hhas
        ·rename_i hq;simp only [Zs,Zp] at hhas;exact .inr (.inl ⟨hq,Za⟩)
        ·split at hhas
         ·rename_i hq;exact .inr (.inr (.inl hq))
         ·split at hhas
          ·rename_i hq;exact .inr (.inr (.inr hq))
          ·simp at hhas
      generalize hv:nth l k=v at hgo hsn ⊢;obtain ⟨kd,a⟩:=v;rcases hgo kd a rfl with ⟨hkd,ha⟩ | ⟨hkd,ha⟩ | hkd
      ·rcases hkd with rfl | rfl | rfl | rfl
       ·have hmO:((ZV x.orders (l.take k)).map Yc).length=x.orders.length:=by rw [ZB,lO]
        have c9:=Ku (ZV x.orders (l.take k)) a.toNat 1 (by rw [lO];omega);rw [Kv Za (v:=⟨1,a⟩) (by simp only;omega),<- hsn,lO,<- hmO] at c9
        have eT:ZZ x.types (l.take (k+1))=ZZ x.types (l.take k):=by rw [hsn];exact VE Zb
        simp (disch:=omega) only [Zh,zeroI,Zm,go_sem,seval];refine ZK 7 mixed Ze Ze ?_;simp (disch:=omega) only [go_sem,seval];rw [<- hmO];refine (ACalls.atE (ps:= [.int .i64 1]) (o:=3) rfl c9 (by simp [lO])).useH ?_;simp (disch:=omega) only [Z7,ZX,go_sem,seval];refine ⟨k+1,Za,Za,Weak.mk ?_⟩
        try simp only [ZB,lO]
        simp (disch:=omega) only [Zh,zeroI,Zm,eT,go_sem,seval]
       ·have hmO:((ZV x.orders (l.take k)).map Yc).length=x.orders.length:=by rw [ZB,lO]
        have c9:=Ku (ZV x.orders (l.take k)) a.toNat 2 (by rw [lO];omega);rw [Kv Za (v:=⟨2,a⟩) (by simp only;omega),<- hsn,lO,<- hmO] at c9
        have eT:ZZ x.types (l.take (k+1))=ZZ x.types (l.take k):=by rw [hsn];exact VE Zb
        simp (disch:=omega) only [Zh,zeroI,Zm,go_sem,seval];refine ZK 7 mixed Ze Ze ?_;simp (disch:=omega) only [go_sem,seval];rw [<- hmO];refine (ACalls.atE (ps:= [.int .i64 2]) (o:=3) rfl c9 (by simp [lO])).useH ?_;simp (disch:=omega) only [Z7,ZX,go_sem,seval];refine ⟨k+1,Za,Za,Weak.mk ?_⟩
        try simp only [ZB,lO]
        simp (disch:=omega) only [Zh,zeroI,Zm,eT,go_sem,seval]
       ·have hmO:((ZV x.orders (l.take k)).map Yc).length=x.orders.length:=by rw [ZB,lO]
        have c9:=Ku (ZV x.orders (l.take k)) a.toNat 4 (by rw [lO];omega);rw [Kv Za (v:=⟨4,a⟩) (by simp only;omega),<- hsn,lO,<- hmO] at c9
        have eT:ZZ x.types (l.take (k+1))=ZZ x.types (l.take k):=by rw [hsn];exact VE Zb
        simp (disch:=omega) only [Zh,zeroI,Zm,go_sem,seval];refine ZK 7 mixed Ze Ze ?_;simp (disch:=omega) only [go_sem,seval];rw [<- hmO];refine (ACalls.atE (ps:= [.int .i64 4]) (o:=3) rfl c9 (by simp [lO])).useH ?_;simp (disch:=omega) only [Z7,ZX,go_sem,seval];refine ⟨k+1,Za,Za,Weak.mk ?_⟩
        try simp only [ZB,lO]
        simp (disch:=omega) only [Zh,zeroI,Zm,eT,go_sem,seval]
       ·have hmO:((ZV x.orders (l.take k)).map Yc).length=x.orders.length:=by rw [ZB,lO]
        have c9:=Ku (ZV x.orders (l.take k)) a.toNat 10 (by rw [lO];omega);rw [Kv Za (v:=⟨10,a⟩) (by simp only;omega),<- hsn,lO,<- hmO] at c9
        have eT:ZZ x.types (l.take (k+1))=ZZ x.types (l.take k):=by rw [hsn];exact VE Zb
        simp (disch:=omega) only [Zh,zeroI,Zm,go_sem,seval];refine ZK 7 mixed Ze Ze ?_;simp (disch:=omega) only [go_sem,seval];rw [<- hmO];refine (ACalls.atE (ps:= [.int .i64 10]) (o:=3) rfl c9 (by simp [lO])).useH ?_;simp (disch:=omega) only [Z7,ZX,go_sem,seval];refine ⟨k+1,Za,Za,Weak.mk ?_⟩
        try simp only [ZB,lO]
        simp (disch:=omega) only [Zh,zeroI,Zm,eT,go_sem,seval]
      ·rcases hkd with rfl | rfl | rfl | rfl
       ·have hmT:((ZZ x.types (l.take k)).map XY).length=x.types.length:=by rw [ZB,lT]
        have c9:=fun (H:List AM.Obj) (hH:H[2]? =some (.elems 14 ((ZZ x.types (l.take k)).map XY)))=>UV (ZZ x.types (l.take k)) a.toNat 3 Zb (by rw [lT];omega) (hcap2 k a.toNat Za) hH;rw [KG Za (v:=⟨3,a⟩) (by simp only;omega),<- hsn,lT,<- hmT] at c9
        have eO:ZV x.orders (l.take (k+1))=ZV x.orders (l.take k):=by rw [hsn];exact VB Zb
        simp (disch:=omega) only [Zh,zeroI,Zm,go_sem,seval];refine ZK 7 mixed Ze Ze ?_;simp (disch:=omega) only [go_sem,seval];rw [<- hmT];refine (c9 _ rfl).useH ?_;simp (disch:=omega) only [Z7,ZX,go_sem,seval];refine ⟨k+1,Za,Za,Weak.mk ?_⟩
        try simp only [ZB,lT]
        simp (disch:=omega) only [Zh,zeroI,Zm,eO,go_sem,seval]
       ·have hmT:((ZZ x.types (l.take k)).map XY).length=x.types.length:=by rw [ZB,lT]
        have c9:=fun (H:List AM.Obj) (hH:H[2]? =some (.elems 14 ((ZZ x.types (l.take k)).map XY)))=>UV (ZZ x.types (l.take k)) a.toNat 7 Zb (by rw [lT];omega) (hcap2 k a.toNat Za) hH;rw [KG Za (v:=⟨7,a⟩) (by simp only;omega),<- hsn,lT,<- hmT] at c9
        have eO:ZV x.orders (l.take (k+1))=ZV x.orders (l.take k):=by rw [hsn];exact VB Zb
        simp (disch:=omega) only [Zh,zeroI,Zm,go_sem,seval];refine ZK 7 mixed Ze Ze ?_;simp (disch:=omega) only [go_sem,seval];rw [<- hmT];refine (c9 _ rfl).useH ?_;simp (disch:=omega) only [Z7,ZX,go_sem,seval];refine ⟨k+1,Za,Za,Weak.mk ?_⟩
        try simp only [ZB,lT]
        simp (disch:=omega) only [Zh,zeroI,Zm,eO,go_sem,seval]
       ·have hmT:((ZZ x.types (l.take k)).map XY).length=x.types.length:=by rw [ZB,lT]
        have c9:=fun (H:List AM.Obj) (hH:H[2]? =some (.elems 14 ((ZZ x.types (l.take k)).map XY)))=>UV (ZZ x.types (l.take k)) a.toNat 8 Zb (by rw [lT];omega) (hcap2 k a.toNat Za) hH;rw [KG Za (v:=⟨8,a⟩) (by simp only;omega),<- hsn,lT,<- hmT] at c9
        have eO:ZV x.orders (l.take (k+1))=ZV x.orders (l.take k):=by rw [hsn];exact VB Zb
        simp (disch:=omega) only [Zh,zeroI,Zm,go_sem,seval];refine ZK 7 mixed Ze Ze ?_;simp (disch:=omega) only [go_sem,seval];rw [<- hmT];refine (c9 _ rfl).useH ?_;simp (disch:=omega) only [Z7,ZX,go_sem,seval];refine ⟨k+1,Za,Za,Weak.mk ?_⟩
        try simp only [ZB,lT]
        simp (disch:=omega) only [Zh,zeroI,Zm,eO,go_sem,seval]
       ·have hmT:((ZZ x.types (l.take k)).map XY).length=x.types.length:=by rw [ZB,lT]
        have c9:=fun (H:List AM.Obj) (hH:H[2]? =some (.elems 14 ((ZZ x.types (l.take k)).map XY)))=>UV (ZZ x.types (l.take k)) a.toNat 9 Zb (by rw [lT];omega) (hcap2 k a.toNat Za) hH;rw [KG Za (v:=⟨9,a⟩) (by simp only;omega),<- hsn,lT,<- hmT] at c9
        have eO:ZV x.orders (l.take (k+1))=ZV x.orders (l.take k):=by rw [hsn];exact VB Zb
        simp (disch:=omega) only [Zh,zeroI,Zm,go_sem,seval];refine ZK 7 mixed Ze Ze ?_;simp (disch:=omega) only [go_sem,seval];rw [<- hmT];refine (c9 _ rfl).useH ?_;simp (disch:=omega) only [Z7,ZX,go_sem,seval];refine ⟨k+1,Za,Za,Weak.mk ?_⟩
        try simp only [ZB,lT]
        simp (disch:=omega) only [Zh,zeroI,Zm,eO,go_sem,seval]
      ·have eT:ZZ x.types (l.take (k+1))=ZZ x.types (l.take k):=by rw [hsn];exact VE (by simp only;omega)
       have eO:ZV x.orders (l.take (k+1))=ZV x.orders (l.take k):=by rw [hsn];exact VB (by simp only;omega)
       rcases hkd with rfl | rfl
       ·simp (disch:=omega) only [Zh,zeroI,Zm,go_sem,seval];exact ⟨k+1,Za,Za,Weak.mk (by simp (disch:=omega) only [Zh,zeroI,Zm,eT,eO,go_sem,seval])⟩
       ·simp (disch:=omega) only [Zh,zeroI,Zm,go_sem,seval];exact ⟨k+1,Za,Za,Weak.mk (by simp (disch:=omega) only [Zh,zeroI,Zm,eT,eO,go_sem,seval])⟩
     ·have hkl:k=l.length:=Za
      subst hkl;rw [X5];have cA:=Gm x.apart l 5 x.apart_c c Za hl;have cB:=Gm x.before l 6 x.before_c c Za hl;refine ZK 9 mixed Ze Ze ?_;simp (disch:=omega) only [go_sem,seval];refine Zo (cA) ?_;simp (disch:=omega) only [go_sem,seval];refine Zo (cB) ?_;simp (disch:=omega) only [go_sem,seval];rw [<- lT l,<- lO l];refine Zr (Weak.fz (o:=2) (by rfl)) ?_;refine Zr (Weak.fz (o:=3) (by rfl)) ?_;refine Zf [] _ _ _ _ ?_;simp (disch:=omega) only [Zt,Zm,Z7,ZX,go_sem,seval]
      exact we (by simp (disch:=omega) only [Zl,go_sem,seval])
theorem nA (x:Inst) (hw:x.wf 1048576) (d1 d2 d3 d4:Bool) (c1 c2 c3 c4:Bool):PC 12 [.p (ZW { x with types_c:=c1,orders_c:=c2,apart_c:=c3,before_c:=c4 }),.p (ZW { x with types_c:=d1,orders_c:=d2,apart_c:=d3,before_c:=d4 })] (.bool true):=by
 obtain ⟨w1,w2,w3,w4,w5,w6,w7,w8,w9⟩:=hw;exact fC x.net x.types x.types x.orders x.apart x.before c1 c2 c3 c4 d1 d2 d3 d4 w1 rfl (fun k hk=>⟨⟨_,rfl⟩,(w3 _ (Zz hk)).2.2.2.2.1⟩) w2 w4 (fun o ho=>(w5 o ho).2.1) w6 w8
theorem Ej {q:List (Int×Int)} {w:List Itm} {kind:Int} (h: ∀v∈w,v.kind≠kind): ∀k,k<=q.length->Xb q w kind k=q.take k
 | 0,_=>by simp [Xb]
 | k+1,hk=>by
  rw [X3,Ej h k Za,if_neg (fun hm=>h _ hm rfl),Yu Za,Zg Za]
theorem Lf {q:List (Int×Int)} {w:List Itm} {kind:Int} (h: ∀v∈w,v.kind≠kind):Xb q w kind q.length=q:=by
 rw [Ej h _ (Zw _),X5]
theorem Jk (x:Inst):Zl x []= { x with types_c:=false,orders_c:=false,apart_c:=false,before_c:=false } :=by
 simp only [Zl,GH,Gi];rw [Lf Zb,Lf Zb]
theorem RE {x:Inst} {l1:List Itm} {v:Itm} (hv:v.kind≠5/\v.kind≠6/\v.kind≠4/\v.kind≠10) (h:XI x v=true):XI (Zl x l1) v=true:=by
 obtain ⟨k,a⟩:=v;simp only at hv
 by_cases h1:k=1\/k=2\/k=4\/k=10
 ·rw [JG h1] at h ⊢;obtain ⟨q1,q2⟩:=h;simp only [WR,Zs,Zp,XE] at q1
  have hi:a.toNat<x.orders.length:=Za
  have e:nth (Zl x l1).orders a.toNat=YE (nth x.orders a.toNat) (a.toNat:Nat) l1:=ZF hi;refine ⟨?_,?_⟩
  ·simp only [WR,Zs,Zp,XE,e];refine ⟨⟨q1.1.1,?_⟩,q1.2⟩
   show a<((ZV x.orders l1).length:Int)
   rw [Yi];exact q1.1.2
  ·rw [e];rcases h1 with rfl | rfl | rfl | rfl
   ·exact q2
   ·exact q2
   ·simp at hv
   ·simp at hv
 ·by_cases h2:k=3\/k=7\/k=8\/k=9
  ·simp only [XI] at h ⊢;rw [if_neg h1,if_pos h2] at h ⊢
   show (decide (0<=a)&&decide (a<((ZZ x.types l1).length:Int)))=true
   rw [Y0];exact h
  ·simp only [XI] at h;rw [if_neg h1,if_neg h2,if_neg hv.1,if_neg hv.2.1] at h
   cases h
theorem F3 {l:List (Int×Int)} {w:List Itm} {kind:Int} {k:Nat} : ∀m,k<=m-> ∃r,Xb l w kind m=Xb l w kind k++r
 | 0,h=>⟨[],by rw [Nat.le_zero.1 h];simp⟩
 | m+1,h=>by
  rcases Wr k (m+1) with h1 | h1
  ·obtain ⟨r,hr⟩:=F3 (l:=l) (w:=w) (kind:=kind) (k:=k) m Za;exact ⟨r++if (⟨kind,m⟩:Itm)∈w then [] else [nth l m],by rw [X3,hr,WZ]⟩
  ·obtain rfl:k=m+1:=Za
   exact ⟨[],Zb⟩
def EO (l:List (Int×Int)) (w:List Itm) (kind:Int) (a:Nat):Nat:=(Xb l w kind a).length
theorem HV {l:List (Int×Int)} {w:List Itm} {kind:Int} {a n:Nat} (h:a<n) (hn:(⟨kind,a⟩:Itm) ∉ w):EO l w kind a<(Xb l w kind n).length/\nth (Xb l w kind n) (EO l w kind a)=nth l a:=by
 obtain ⟨r,hr⟩:=F3 (l:=l) (w:=w) (kind:=kind) n (show a+1<=n by omega);rw [X3,if_neg hn] at hr;rw [hr];refine ⟨by simp [EO],?_⟩;unfold nth EO;simp [Up]
theorem LL {l:List (Int×Int)} {w:List Itm} {kind:Int} {a b:Nat} (h:a<b) (hn:(⟨kind,a⟩:Itm) ∉ w):EO l w kind a<EO l w kind b:=(HV h hn).1
theorem Ca {l:List (Int×Int)} {L L' M:List Itm} {kind:Int} (hs: ∀v∈L,v∈L') (hM: ∀a:Nat,a<l.length->(⟨kind,a⟩:Itm) ∉ L->((⟨kind,EO l L kind a⟩:Itm)∈M↔(⟨kind,a⟩:Itm)∈L')) :
  ∀k,k<=l.length->Xb (Xb l L kind l.length) M kind (EO l L kind k)=Xb l L' kind k
 | 0,_=>by simp [EO,Xb]
 | k+1,h=>by
  have ih:=Ca hs hM k Za
  by_cases h1:(⟨kind,k⟩:Itm)∈L
  ·have e:EO l L kind (k+1)=EO l L kind k:=by unfold EO;rw [X3,if_pos h1,VM]
   rw [e,ih,X3,if_pos (hs _ h1),VM]
  ·have e:EO l L kind (k+1)=EO l L kind k+1:=by unfold EO;rw [X3,if_neg h1,Zy];rfl
   rw [e,X3,ih,X3,(HV (show k<l.length by omega) h1).2]
   by_cases h2:(⟨kind,k⟩:Itm)∈L'
   ·rw [if_pos h2,if_pos ((hM k Za h1).2 h2)]
   ·rw [if_neg h2,if_neg fun g=>h2 ((hM k Za h1).1 g)]
def gZ (x:Inst) (L:List Itm) (v:Itm):Itm:=⟨v.kind,if v.kind=5 then (EO x.apart L 5 v.a.toNat:Nat) else if v.kind=6 then (EO x.before L 6 v.a.toNat:Nat) else v.a⟩
def V1 (x:Inst) (L L':List Itm):List Itm:=(L'.filter fun v=>decide (v ∉ L)).map (gZ x L)
theorem Bh {x:Inst} {L L':List Itm} {w:Itm} :w∈V1 x L L'↔ ∃v,v∈L'/\v ∉ L/\gZ x L v=w:=by
 simp only [V1,Xj,Ja,Zp,UP]
theorem eG {x:Inst} {L:List Itm} {v:Itm} (h:v.kind≠5/\v.kind≠6):gZ x L v=v:=by
 rw [gZ,if_neg h.1,if_neg h.2]
theorem T2 {x:Inst} {L L':List Itm} {k a:Int} (hs: ∀v∈L,v∈L') (h:k≠5/\k≠6):(⟨k,a⟩:Itm)∈L++V1 x L L'↔(⟨k,a⟩:Itm)∈L':=by
 rw [Z5,Bh]
 constructor
 ·rintro (h1 | ⟨v,h1,h2,h3⟩)
  ·exact hs _ h1
  ·have hk:v.kind=k:=ZC Itm.kind h3;rw [eG (by rw [hk];exact h)] at h3;exact h3 ▸ h1
 ·intro h1
  by_cases h2:(⟨k,a⟩:Itm)∈L
  ·exact .inl h2
  ·exact .inr ⟨_,h1,h2,eG h⟩
theorem Ke {x:Inst} {v:Itm} (h:XI x v=true):(v.kind=5->0<=v.a/\v.a<(x.apart.length:Int))/\(v.kind=6->0<=v.a/\v.a<(x.before.length:Int)):=by
 unfold XI at h
 constructor
 ·intro e;rw [if_neg Za,if_neg Za,if_pos e] at h;simp only [Zs,Zp] at h;exact h.1.1
 ·intro e;rw [if_neg Za,if_neg Za,if_neg Za,if_pos e] at h;simp only [Zs,Zp] at h;exact h.1
theorem Pe {l:List (Int×Int)} {w:List Itm} {kind:Int} {a b:Nat} (ha:(⟨kind,a⟩:Itm) ∉ w) (hb:(⟨kind,b⟩:Itm) ∉ w) (h:EO l w kind a=EO l w kind b):a=b:=by
 rcases Nat.lt_trichotomy a b with h1 | h1 | h1
 ·have:=LL (l:=l) h1 ha;omega
 ·exact h1
 ·have:=LL (l:=l) h1 hb;omega
theorem Kg {v:Itm} (h:0<=v.a):(⟨v.kind,(v.a.toNat:Nat)⟩:Itm)=v:=XP.2 ⟨rfl,by simp only;omega⟩
theorem Ig {x:Inst} {L L':List Itm} (hs: ∀v∈L,v∈L') (hI: ∀v∈L',XI x v=true):Zl (Zl x L) (V1 x L L')=Zl x L':=by
 have e1: ∀o a,YE (YE o a L) a (V1 x L L')=YE o a L':=fun o a=>by
  have q:=fun k (hk:k≠5/\k≠6)=>T2 (x:=x) (a:=a) hs hk;simp only [Z5] at q;simp only [YE]
  congr 1
  ·congr 1;have:=q 1 (by decide);by_cases q1:(⟨1,a⟩:Itm)∈L<;>by_cases q2:(⟨1,a⟩:Itm)∈V1 x L L'<;>simp_all
  ·congr 1;have:=q 2 (by decide);by_cases q1:(⟨2,a⟩:Itm)∈L<;>by_cases q2:(⟨2,a⟩:Itm)∈V1 x L L'<;>simp_all
  ·have:=q 4 (by decide);by_cases q1:(⟨4,a⟩:Itm)∈L<;>by_cases q2:(⟨4,a⟩:Itm)∈V1 x L L'<;>simp_all
  ·have:=q 10 (by decide);by_cases q1:(⟨10,a⟩:Itm)∈L<;>by_cases q2:(⟨10,a⟩:Itm)∈V1 x L L'<;>simp_all
 have e2: ∀t a,Yx (Yx t a L) a (V1 x L L')=Yx t a L':=fun t a=>by
  have hcl:=W5 t a L;have q:=fun k (hk:k≠5/\k≠6)=>T2 (x:=x) (a:=a) hs hk;simp only [Z5] at q;simp only [Yx] at hcl ⊢
  congr 1
  ·have:=q 9 (by decide);by_cases q1:(⟨9,a⟩:Itm)∈L<;>by_cases q2:(⟨9,a⟩:Itm)∈V1 x L L'<;>simp_all
  ·have:=q 3 (by decide);by_cases q1:(⟨3,a⟩:Itm)∈L<;>by_cases q2:(⟨3,a⟩:Itm)∈V1 x L L'<;>simp_all
  ·have:=q 3 (by decide);by_cases q1:(⟨3,a⟩:Itm)∈L<;>by_cases q2:(⟨3,a⟩:Itm)∈V1 x L L'<;>simp_all
  ·have:=q 7 (by decide);by_cases q1:(⟨7,a⟩:Itm)∈L<;>by_cases q2:(⟨7,a⟩:Itm)∈V1 x L L'<;>simp_all
  ·have:=q 8 (by decide);by_cases q1:(⟨8,a⟩:Itm)∈L<;>by_cases q2:(⟨8,a⟩:Itm)∈V1 x L L'<;>simp_all
 have e3:ZV (ZV x.orders L) (V1 x L L')=ZV x.orders L':=by
  refine Us (by simp [ZV]) fun i h3 h4=> ?_
  have hi:i<x.orders.length:=by simpa [ZV] using h4
  rw [<- Zg h3,<- Zg h4,ZF (by rw [Yi];exact hi),ZF hi,ZF hi,e1]
 have e4:ZZ (ZZ x.types L) (V1 x L L')=ZZ x.types L':=by
  refine Us (by simp [ZZ]) fun i h3 h4=> ?_
  have hi:i<x.types.length:=by simpa [ZZ] using h4
  rw [<- Zg h3,<- Zg h4,Yj (by rw [Y0];exact hi),Yj hi,Yj hi,e2]
 have e5:Xb (Xb x.apart L 5 x.apart.length) (V1 x L L') 5 (Xb x.apart L 5 x.apart.length).length=Xb x.apart L' 5 x.apart.length:=by
  refine Ca hs (fun a ha hn=> ?_) x.apart.length (Zw _);rw [Bh]
  constructor
  ·rintro ⟨v,h1,h2,h3⟩;have hk:v.kind=5:=ZC Itm.kind h3;have hp:=(Ke (hI v h1)).1 hk;have hv:=Kg hp.1;rw [hk] at hv;rw [gZ,if_pos hk] at h3
   have h4:EO x.apart L 5 v.a.toNat=EO x.apart L 5 a:=by have:=ZC Itm.a h3;simp only at this;omega
   have:=Pe (by rw [hv];exact h2) hn h4;rw [<- this,hv];exact h1
  ·intro h1;exact ⟨_,h1,hn,by simp [gZ]⟩
 have e6:Xb (Xb x.before L 6 x.before.length) (V1 x L L') 6 (Xb x.before L 6 x.before.length).length=Xb x.before L' 6 x.before.length:=by
  refine Ca hs (fun a ha hn=> ?_) x.before.length (Zw _);rw [Bh]
  constructor
  ·rintro ⟨v,h1,h2,h3⟩;have hk:v.kind=6:=ZC Itm.kind h3;have hp:=(Ke (hI v h1)).2 hk;have hv:=Kg hp.1;rw [hk] at hv;rw [gZ,if_neg Za,if_pos hk] at h3
   have h4:EO x.before L 6 v.a.toNat=EO x.before L 6 a:=by have:=ZC Itm.a h3;simp only at this;omega
   have:=Pe (by rw [hv];exact h2) hn h4;rw [<- this,hv];exact h1
  ·intro h1;exact ⟨_,h1,hn,by simp [gZ]⟩
 show (⟨x.net,false,ZZ (ZZ x.types L) (V1 x L L'),false,ZV (ZV x.orders L) (V1 x L L'),false,Xb (Xb x.apart L 5 x.apart.length) (V1 x L L') 5 (Xb x.apart L 5 x.apart.length).length,false,Xb (Xb x.before L 6 x.before.length) (V1 x L L') 6 (Xb x.before L 6 x.before.length).length⟩:Inst)=⟨x.net,false,ZZ x.types L',false,ZV x.orders L',false,Xb x.apart L' 5 x.apart.length,false,Xb x.before L' 6 x.before.length⟩
 rw [e3,e4,e5,e6]
theorem Mx {x:Inst} {L:List Itm} {i:Int} :WR (Zl x L) i=WR x i:=by
 unfold WR;rw [show (Zl x L).orders=ZV x.orders L from rfl,Yi]
 by_cases h:0<=i/\i<(x.orders.length:Int)
 ·rw [ZF Za];rfl
 ·by_cases h1:0<=i
  ·rw [Ut (show ¬i<(x.orders.length:Int) by omega)];simp
  ·rw [Ut h1];simp
theorem bB {x:Inst} {L L':List Itm} (hI: ∀v∈L',XI x v=true): ∀w∈V1 x L L',XI (Zl x L) w=true:=fun w hw=>by
 obtain ⟨v,h1,h2,rfl⟩:=Bh.1 hw;have h:=hI v h1
 by_cases k5:v.kind=5
 ·obtain ⟨p1,p2⟩:=(Ke h).1 k5;have hv:=Kg p1;rw [k5] at hv;obtain ⟨r1,r2⟩:=HV (l:=x.apart) (w:=L) (kind:=5) (show v.a.toNat<x.apart.length by omega) (by rw [hv];exact h2);unfold XI at h ⊢;simp only [gZ,k5] at h ⊢;simp only [show ¬((5:Int)=1\/(5:Int)=2\/(5:Int)=4\/(5:Int)=10) by decide,show ¬((5:Int)=3\/(5:Int)=7\/(5:Int)=8\/(5:Int)=9) by decide,if_true,Ys,Zs,Zp,Xn,Mx] at h ⊢;rw [show (Zl x L).apart=Xb x.apart L 5 x.apart.length from rfl,r2];exact ⟨⟨⟨Za,Za⟩,h.1.2⟩,h.2⟩
 ·by_cases k6:v.kind=6
  ·obtain ⟨p1,p2⟩:=(Ke h).2 k6;have hv:=Kg p1;rw [k6] at hv;obtain ⟨r1,r2⟩:=HV (l:=x.before) (w:=L) (kind:=6) (show v.a.toNat<x.before.length by omega) (by rw [hv];exact h2);unfold XI at h ⊢;simp only [gZ,k6] at h ⊢;simp only [show ¬((6:Int)=1\/(6:Int)=2\/(6:Int)=4\/(6:Int)=10) by decide,show ¬((6:Int)=3\/(6:Int)=7\/(6:Int)=8\/(6:Int)=9) by decide,show ¬(6:Int)=5 by decide,if_true,Ys,Zs,Zp,Xn,Mx] at h ⊢;rw [show (Zl x L).before=Xb x.before L 6 x.before.length from rfl,r2]
   exact ⟨⟨Za,Za⟩,h.2⟩
  ·rw [eG ⟨k5,k6⟩]
   by_cases k4:v.kind=4\/v.kind=10
   ·obtain ⟨k,a⟩:=v;simp only at k4 k5 k6
    have hk:k=1\/k=2\/k=4\/k=10:=Za
    rw [JG hk] at h ⊢;rw [Mx];refine ⟨h.1,?_⟩;have ha:=h.1;simp only [WR,Zs,Zp] at ha;have ho:=h.2;rw [show (Zl x L).orders=ZV x.orders L from rfl,ZF (show a.toNat<x.orders.length by omega),show ((a.toNat:Nat):Int)=a by omega];rcases k4 with rfl | rfl
    ·simp only [KQ,YE,if_neg h2] at ho ⊢;exact ho
    ·simp only [KQ,YE,if_neg h2] at ho ⊢;exact ho
   ·exact RE ⟨k5,k6,Za,Za⟩ h
theorem Lu {α:Type} [Inhabited α] {l:List α} {i:Nat} (h: ¬i<l.length):nth l i=default:=by simp [nth,Up,List.getElem?_eq_none (Nat.le_of_not_lt h)]
theorem zH {os:List Ord} {l:List Itm} (i:Nat):Z2 (ZV os l) i=Z2 os i:=by
 unfold Z2
 by_cases h:i<os.length
 ·rw [ZF h];rfl
 ·rw [Lu h,Lu (by rw [Yi];exact h)]
theorem LY {x:Inst} {l:List Itm} {v:List Vis} (h:Xt x v=0):Xt (Zl x l) v=0:=by
 have hsub1:=Wb x.apart l 5;have hsub2:=Wb x.before l 6
 have e1:v.any (V7 (Zl x l))=v.any (V7 x):=by
  congr 1;funext w;simp [V7,Zl,Yi]
 unfold Xt at h ⊢;rw [e1]
 split at h
 ·simp at h
 ·rename_i c1;rw [if_neg c1]
  have hin: ∀w∈v,w.order.toNat<x.orders.length:=fun w hw=>by
   have h5: ¬(v.any (V7 x))=true:=fun e=>c1 (.inr e)
   have h6:V7 x w=false:=by
    cases hb:V7 x w with
    | false=>rfl
    | true=>exact absurd (Vj.2 ⟨w,hw,hb⟩) h5
   simp [V7] at h6;omega
  have e2:(v.any fun w=>(nth (Zl x l).orders w.order.toNat).off)=v.any fun w=>(nth x.orders w.order.toNat).off:=by
   rw [W1,Vj,Vj]
   constructor
   ·rintro ⟨w,hw,h⟩;exact ⟨w,hw,by rw [show (Zl x l).orders=ZV x.orders l from rfl,ZF (hin w hw)] at h;exact h⟩
   ·rintro ⟨w,hw,h⟩;exact ⟨w,hw,by rw [show (Zl x l).orders=ZV x.orders l from rfl,ZF (hin w hw)];exact h⟩
  rw [e2]
  split at h
  ·simp at h
  ·rename_i c2;rw [if_neg c2]
   split at h
   ·simp at h
   ·rename_i c3;rw [if_neg c3]
    have e3:v.all (pairB (Zl x l).orders v)=v.all (pairB x.orders v):=by
     congr 1;funext w;simp only [pairB];rw [show (Zl x l).orders=ZV x.orders l from rfl,zH]
    rw [e3]
    split at h
    ·simp at h
    ·rename_i c4;rw [if_neg c4]
     split at h
     ·simp at h
     ·rename_i c5
      have c5': ¬((Zl x l).apart.any fun p=>hasO v p.1&&hasO v p.2)=true:=fun hh=>by
       obtain ⟨p,hp,hb⟩:=Vj.1 hh;exact c5 (Vj.2 ⟨p,hsub1.subset hp,hb⟩)
      rw [if_neg c5']
      split at h
      ·simp at h
      ·rename_i c6;rw [if_neg];intro hh;refine c6 ?_
       obtain ⟨p,hp,hb⟩:=Vj.1 hh;exact Vj.2 ⟨p,hsub2.subset hp,hb⟩
structure WkT (t t':Typ) (sp sp':List Stp):Prop where
 len:sp'.length=sp.length
 cls:t.cls<=t'.cls
 drv:t.drive<=t'.drive
 rst:t'.rest=t.rest
 src:t'.src=t.src
 dst:t'.dst=t.dst
 prf:t'.prof=t.prof
 opn:t'.opn=t.opn
 stp: ∀k,k<sp.length-> ∃c,(nth sp k).cls<=c/\nth sp' k= { nth sp k with cls:=c }
theorem R4 {x y:Inst} {t t' sp sp' k L b} (hn:y.net=x.net) (h:WkT t t' sp sp') (hk:k<=sp.length) (he:(nxtF x t sp k L b).2=0):nxtF y t' sp' k L b=nxtF x t sp k L b:=by
 have hplc: ∀k,k<=sp.length->Ai t' sp' k=Ai t sp k:=fun k hk=>by
  unfold Ai
  split
  ·exact h.src
  ·obtain ⟨c,_,e⟩:=h.stp (k-1) Za;rw [e]
 have hto:SY t' sp' k=SY t sp k:=by
  unfold SY;rw [h.len]
  split
  ·exact h.dst
  ·obtain ⟨c,_,e⟩:=h.stp k Za;rw [e]
 have hd:Xh t' L b=Xh t L b:=by simp [Xh,h.rst]
 unfold nxtF at he ⊢
 have hg:BR y t' sp' k (Xh t' L b)=BR x t sp k (Xh t L b):=by rw [BR,BR,hn,h.prf,hplc k hk,hto,hd]
 rw [hg,hd];have h1:=h.cls;have h2:=h.drv;unfold Vt at he ⊢;rw [h.len]
 split at he
 ·simp at he
 ·rename_i c1;rw [if_neg c1,if_neg c1]
  split at he
  ·rename_i c2;rw [if_pos c2,if_pos c2]
   split at he
   ·simp at he
   ·rename_i c3
    split at he
    ·simp at he
    ·rename_i c4;rw [if_neg c3,if_neg c4,if_neg Za,if_neg Za]
  ·rename_i c2;rw [if_neg c2,if_neg c2];obtain ⟨c,hc,e⟩:=h.stp k Za
   split at he
   ·simp at he
   ·rename_i c3
    split at he
    ·simp at he
    ·rename_i c4;rw [if_neg c3,if_neg c4,e,if_neg (by simp only;omega),if_neg Za]
theorem Cv {x y:Inst} {t t' sp sp'} (hn:y.net=x.net) (h:WkT t t' sp sp'): ∀(bs:List Bool) (k:Nat) (L z:Lab),k+bs.length<=sp.length+1->WG (Xp x t sp) k L bs=some z->WG (Xp y t' sp') k L bs=some z
 | [],k,L,z,_,e=>e
 | b::bs,k,L,z,hk,e=>by
  simp at hk;rw [WG] at e ⊢;unfold Xp at e ⊢
  by_cases c:(nxtF x t sp k L b).2=0
  ·rw [R4 hn h Za c];rw [if_pos c] at e ⊢;exact Cv hn h bs (k+1) _ z Za e
  ·rw [if_neg c] at e;cases e
theorem aN {fin:Lab->Int} : ∀ {l:List Lab},WU fin none l=none↔l= []
 | []=>by simp [WU]
 | a::l=>by
  rw [WU];obtain ⟨z,e,_⟩:=WV fin l a;rw [e];simp
theorem MJ {x t sp st r} :(XU x t sp st r).2=0↔ ∃bs∈Xs r (sp.length+1),∃z,WG (Xp x t sp) 0 (labF t st) bs=some z:=by
 unfold XU
 cases hf:WU Wu none ((Xs r (sp.length+1)).filterMap (WG (Xp x t sp) 0 (labF t st))) with
 | some L =>
  simp only [true_iff];have:=bestF_len.fmL_mem _ _ hf;obtain ⟨bs,hbs,hrun⟩:=Ur.1 this;exact ⟨bs,hbs,L,hrun⟩
 | none =>
  rw [aN] at hf;simp only
  constructor
  ·intro h
   have hm:Vn r (sp.length+1)∈Xs r (sp.length+1):=by
    unfold Xs Vn;rw [Vh];simp
   exact ⟨_,hm,_,by rw [Yl,if_pos h]⟩
  ·rintro ⟨bs,hbs,z,hz⟩;have:z∈(Xs r (sp.length+1)).filterMap (WG (Xp x t sp) 0 (labF t st)):=Ur.2 ⟨bs,hbs,hz⟩;rw [hf] at this;simp at this
theorem MI {x y:Inst} {t t' sp sp'} {st:Int} {r:List Bool} (hn:y.net=x.net) (h:WkT t t' sp sp') (hr:r.length<=sp.length+1) (h0:(XU x t sp st r).2=0):(XU y t' sp' st r).2=0:=by
 rw [MJ] at h0 ⊢;obtain ⟨bs,hbs,z,hz⟩:=h0;rw [h.len]
 have hl:bs.length=sp.length+1:=by
  obtain ⟨q,hq,rfl⟩:=Xj.1 hbs;have:=bestF_len.fromB_len _ _ hq;simp at this;simp;omega
 have el:labF t' st=labF t st:=by simp [labF,h.opn]
 exact ⟨bs,hbs,z,by rw [el];exact Cv hn h bs 0 _ z Za hz⟩
theorem cS {x:Inst} {l:List Itm} {v:List Vis} {n i:Nat} (hi:i<x.orders.length):Gf (Zl x l) v n i=Gf x v n i:=by
 unfold Gf;rw [show (Zl x l).orders=ZV x.orders l from rfl,ZF hi];rfl
theorem PK {x:Inst} {l:List Itm} {v:List Vis} {n:Nat} :Wy (Zl x l) v n=Wy x v n:=by
 unfold Wy;rw [show (Zl x l).types=ZZ x.types l from rfl,QR];refine Y3 fun j _=> ?_;unfold CA;rw [show (Zl x l).orders.length=x.orders.length from Yi _ _]
 congr 1
 refine Y3 fun i hi=> ?_;have hi:=ZO.1 hi;rw [cS hi,show (Zl x l).orders=ZV x.orders l from rfl,ZF hi];rfl
theorem Ry {a c:List Int} :Jo a c=true↔a.length=c.length/\ ∀i,i<a.length->nth a i<=nth c i:=by
 simp [Jo,ZH]
theorem SJ {t:Typ} {a:Int} {l:List Itm} {b:List Int} (hc: ∀n∈t.cap,n<=1000) (h:Jo b t.cap=true):Jo b (Yx t a l).cap=true:=by
 rw [Ry] at h ⊢;refine ⟨by rw [W5];exact h.1,fun i hi=> ?_⟩;have h1:=h.2 i hi;simp only [Yx]
 split
 ·have hlt:i<t.cap.length:=Za
  have h2:=hc _ (Zz hlt)
  have:nth (List.replicate t.cap.length (1000:Int)) i=1000:=by rw [Zg (by simpa using hlt)];simp
  omega
 ·exact h1
theorem Mu {t:Typ} {s:Int} (h:YK t s=true):YK t 0=true:=by
 simp [YK] at h ⊢;exact h.1.1
theorem Rv {x:Inst} {l:List Itm} {r:Rte} (hx:InstOk x) (hI: ∀v∈l,XI x v=true) (h:XH x r=0):XH (Zl x l) r=0:=by
 unfold XH at h ⊢
 have hr:Yf x r=0:=by
  by_cases c:Yf x r=0
  ·exact c
  ·rw [if_neg c] at h;exact h
 rw [if_pos hr] at h;unfold Yf at hr
 split at hr
 ·simp at hr
 ·rename_i c1;have c1:0<=r.typ/\r.typ<(x.types.length:Int):=XD.1 c1
  split at hr
  ·rename_i c2;exact absurd hr c2
  ·rename_i c2;have c2:Xt x r.visits=0:=XD.1 c2;have hsq:=Vr c2
   split at hr
   ·simp at hr
   ·rename_i c3
    split at hr
    ·simp at hr
    ·rename_i c4
     split at hr
     ·simp at hr
     ·rename_i c5;have c5:=XD.1 c5
      have htl:r.typ.toNat<x.types.length:=Za
      have ety:ZG (Zl x l) r=Yx (ZG x r) r.typ l:=by
       unfold ZG;rw [show (Zl x l).types=ZZ x.types l from rfl,Yj htl]
       congr 1;omega
      have hty:=hx.types.2 _ htl;have hlt:=Py (l:=l) htl hty;have htk:VW x.net x.types r.typ.toNat:=hty;unfold VW at htk;obtain ⟨⟨⟨⟨⟨⟨⟨⟨_,_⟩,_⟩,_⟩,hcap⟩,_⟩,hcl⟩,Mo⟩,_⟩:=htk;have hcap':=(B0.1 hcap).2.2
      have hsp: ∀w∈r.visits,∃c,(Xg x w).cls<=c/\Xg (Zl x l) w= { Xg x w with cls:=c } :=fun w hw=>by
       obtain ⟨w1,w2⟩:=hsq.inr w hw
       have hi:w.order.toNat<x.orders.length:=Za
       have hord:=hx.orders.2 _ hi;have hpk:=hord.pstp;have hdk:=hord.dstp;simp only [stpOk,Zp] at hpk hdk;unfold Xg;rw [show (Zl x l).orders=ZV x.orders l from rfl,ZF hi]
       split
       ·simp only [YE];refine ⟨_,?_,rfl⟩
        split
        ·omega
        ·exact Yr _
       ·simp only [YE];refine ⟨_,?_,rfl⟩
        split
        ·omega
        ·exact Yr _
      have hw:WkT (ZG x r) (ZG (Zl x l) r) (ZS x r.visits) (ZS (Zl x l) r.visits):=by
       rw [ety];refine ⟨by simp [ZS],?_,?_,rfl,rfl,rfl,rfl,rfl,fun k hk=> ?_⟩
       ·simp only [Yx];split
        ·exact hcl.2
        ·exact Yr _
       ·simp only [Yx];split
        ·have:=Mo.1;simp [rng] at this;exact this.2
        ·exact Yr _
       ·simp [ZS] at hk
        have e: ∀y:Inst,nth (ZS y r.visits) k=Xg y (nth r.visits k):=fun y=>by
         rw [Zg (by simpa [ZS] using hk)];simp [ZS,Zg hk]
        rw [e,e];exact hsp _ (Zz hk)
      have hr':Yf (Zl x l) r=0:=by
       unfold Yf;rw [if_neg (by rw [show (Zl x l).types.length=x.types.length from Y0 _ _];exact fun hh=>hh c1),if_neg (by rw [LY c2];simp)];rw [if_neg,if_neg,if_neg (fun hh=>hh c5)]
       ·have c4:Qx x (ZG x r).cap r.visits=true:=by simpa using c4
        have:Qx (Zl x l) (ZG (Zl x l) r).cap r.visits=true:=by
         unfold Qx at c4 ⊢;rw [ZH] at c4 ⊢;intro n hn;have:=c4 n hn;rw [PK,ety];exact SJ (fun m hm=>(hcap' m hm).2) this
        rw [this];simp
       ·intro hh;refine c3 ?_;obtain ⟨w,hw2,hb⟩:=Vj.1 hh;refine Vj.2 ⟨w,hw2,?_⟩;obtain ⟨w1,w2⟩:=hsq.inr w hw2
        have hi:w.order.toNat<x.orders.length:=Za
        rw [show (Zl x l).orders=ZV x.orders l from rfl,ZF hi,ety] at hb
        cases ha:YK (ZG x r) (nth x.orders w.order.toNat).skills with
        | false=>rfl
        | true =>
         have e: ∀s,YK (Yx (ZG x r) r.typ l) s=YK (ZG x r) s:=fun s=>rfl;rw [e] at hb;simp only [YE] at hb
         split at hb
         ·rw [Mu ha] at hb;simp at hb
         ·rw [ha] at hb;simp at hb
      rw [if_pos hr'];exact MI (x:=x) (y:=Zl x l) (t:=ZG x r) (t':=ZG (Zl x l) r) (sp:=ZS x r.visits) (sp':=ZS (Zl x l) r.visits) rfl hw (by simp [ZS];exact c5.2.2) h
set_option maxRecDepth 60000
theorem O4 {α:Type} [Inhabited α] {l:List α} {i j:Nat} {a:α} (h:i<l.length):nth (l.set i a) j=if i=j then a else nth l j:=by
 grind [nth]
theorem lN {α:Type} [Inhabited α] {l:List α} {j:Nat} {a:α} (h:j<l.length):nth (l++ [a]) j=nth l j:=by
 grind [nth]
theorem HH {α:Type} [Inhabited α] {l:List α} {a:α} :nth (l++ [a]) l.length=a:=by
 grind [nth]
def cfK (a b:Col):Int:=lY [WS a.typ b.typ,WS a.set b.set]
theorem TR {a b:Int} :WS a b<0↔a<b:=by grind [WS]
theorem TS {a b:Int} :WS a b=0↔a=b:=by grind [WS]
theorem DT {a b:Col} :cfK a b<0↔a.typ<b.typ\/(a.typ=b.typ/\a.set<b.set):=by
 grind [cfK,Du,TS,TR]
theorem jP : Go.Sort.SWO (ltOf cfK) where
 irrefl x:=by grind [ltOf,DT]
 trans x y z h1 h2:=by simp only [ltOf,Zp,DT] at *;omega
 ntrans x y z h1 h2:=by grind [ltOf,DT]
theorem IK (a b:Col):PC 175 [.p (Ya a),.p (Ya b)] (.int .i64 (cfK a b)):=by
 refine Zc Tryz.func175 rfl uL ?_;simp (disch:=omega) only [Tryz.f175,go_sem,seval];refine XN (Zd ?_);refine Zo (CO a.typ b.typ) (Zd ?_);refine Zo (CO a.set b.set) (Zd ?_);refine Zo (lZ [WS a.typ b.typ,WS a.set b.set] false Zb) (Zd ?_)
 rfl
theorem nJ (xs:List Col) (hl:xs.length<=1048576) {H:List AM.Obj} {o:Nat} (hH:H[o]? =some (.elems 7 (xs.map Ya))) :
  ACalls Tryz.prog 109 [.sl o 0 xs.length xs.length,.fn (.func 175) [] []] H fun y H'=>y= .tup []/\ ∃ys:List Col,ys.Perm xs/\ys.Pairwise (fun a b=> ¬cfK b a<0)/\H'=H.set o (.elems 7 (ys.map Ya)) :=
 ACalls.sortFunc L6 bF 7 Tryz.isAgg121 Tryz.sizeOf121 Ya (fun x=>⟨_,rfl,rfl,rfl⟩) cfK jP 175 IK xs Za hH
def kd (c:Col):Kd:=⟨c.typ,c.set⟩
def Bst (l:List Col) (k:Nat) (d:Col):Prop:= ∃j,j<k/\nth l j=d/\ ∀i,i<k->kd (nth l i)=kd d->d.price<(nth l i).price\/(d.price=(nth l i).price/\j<=i)
structure Chp (l:List Col) (k:Nat) (m:List (Kd×Int)) (out:List Col):Prop where
 len:out.length<=k
 at1: ∀i,i<out.length->mq m (kd (nth out i))=some (i:Int)
 at2: ∀q v,mq m q=some v-> ∃i,i<out.length/\v=i/\kd (nth out i)=q
 bst: ∀i,i<out.length->Bst l k (nth out i)
 all: ∀j,j<k-> ∃i,i<out.length/\kd (nth out i)=kd (nth l j)
theorem TL (l:List Col):Chp l 0 [] []:=⟨Zb,fun i h=>by simp at h,fun q v h=>by simp [mq] at h,fun i h=>by simp at h,fun j h=>by simp at h⟩
theorem jT {l:List Col} {k:Nat} {m m':List (Kd×Int)} {out:List Col} (h:Chp l k m out) (hn:mq m (kd (nth l k))=none) (hm: ∀q,mq m' q=if q=kd (nth l k) then some (out.length:Int) else mq m q):Chp l (k+1) m' (out++ [nth l k]):=by
 have hno: ∀i,i<out.length->kd (nth out i)≠kd (nth l k):=fun i hi e=>by
  have:=h.at1 i hi
  grind
 have split: ∀i,i<(out++ [nth l k]).length->(i<out.length/\nth (out++ [nth l k]) i=nth out i)\/(i=out.length/\nth (out++ [nth l k]) i=nth l k):=fun i hi=>by
  simp only [Zy,ZL,ZY] at hi;rcases Wr i out.length with h1 | h1
  ·grind [lN]
  ·obtain rfl:i=out.length:=Za
   exact .inr ⟨rfl,HH⟩
 refine ⟨by have:=h.len;simp;omega,fun i hi=> ?_,fun q v hq=> ?_,fun i hi=> ?_,fun j hj=> ?_⟩
 ·rcases split i hi with ⟨h1,e⟩ | ⟨rfl,e⟩
  ·rw [e,hm,if_neg (hno i h1)];exact h.at1 i h1
  grind
 ·rw [hm] at hq
  split at hq
  ·grind [HH]
  ·obtain ⟨i,h1,h2,h3⟩:=h.at2 q v hq
   grind
 ·rcases split i hi with ⟨h1,e⟩ | ⟨rfl,e⟩
  ·rw [e];obtain ⟨j,h2,h3,h4⟩:=h.bst i h1;refine ⟨j,Za,h3,fun p hp he=> ?_⟩
   grind
  ·rw [e];refine ⟨k,Za,rfl,fun p hp he=> ?_⟩;rcases Em.1 hp with h5 | rfl
   ·obtain ⟨i,h6,h7⟩:=h.all p h5
    grind
   omega
 ·rcases Em.1 hj with h5 | rfl
  ·obtain ⟨i,h6,h7⟩:=h.all j h5
   grind
  ·exact ⟨out.length,Zb,by rw [HH]⟩
theorem jU {l:List Col} {k:Nat} {m:List (Kd×Int)} {out:List Col} {i:Nat} (h:Chp l k m out) (hi:i<out.length) (hk:kd (nth out i)=kd (nth l k)):Chp l (k+1) m (if (nth l k).price<(nth out i).price then out.set i (nth l k) else out):=by
 have hun: ∀j,j<out.length->kd (nth out j)=kd (nth l k)->j=i:=fun j hj e=>by
  have h1:=h.at1 j hj;have h2:=h.at1 i hi
  grind
 split
 ·rename_i hp
  have key: ∀j,kd (nth (out.set i (nth l k)) j)=kd (nth out j):=fun j=>by
   grind [O4]
  refine ⟨by have:=h.len;simp;omega,fun j hj=> ?_,fun q v hq=> ?_,fun j hj=> ?_,fun j hj=> ?_⟩
  ·rw [key];exact h.at1 j (by grind)
  ·obtain ⟨j,h1,h2,h3⟩:=h.at2 q v hq
   grind
  ·simp only [Kl] at hj;rw [O4 hi]
   split
   ·rename_i e;subst e;refine ⟨k,Za,rfl,fun p hp2 he=> ?_⟩;rcases Em.1 hp2 with h5 | rfl
    ·obtain ⟨j,h6,h7,h8⟩:=h.bst i hi
     grind
    omega
   ·rename_i e;obtain ⟨p,h2,h3,h4⟩:=h.bst j hj;refine ⟨p,Za,h3,fun p' hp' he=> ?_⟩
    grind
  ·rcases Em.1 hj with h5 | rfl
   ·obtain ⟨p,h6,h7⟩:=h.all j h5
    grind
   grind
 ·rename_i hp;refine ⟨by have:=h.len;omega,h.at1,h.at2,fun j hj=> ?_,fun j hj=> ?_⟩
  ·obtain ⟨p,h2,h3,h4⟩:=h.bst j hj;refine ⟨p,Za,h3,fun p' hp' he=> ?_⟩
   grind
  ·rcases Em.1 hj with h5 | rfl
   ·exact h.all j h5
   grind
structure Cheap (l ys:List Col):Prop where
 asc:ys.Pairwise fun a b=>cfK a b<0
 bst: ∀d∈ys,Bst l l.length d
 all: ∀c∈l,∃d∈ys,kd d=kd c
theorem jS {l:List Col} {m:List (Kd×Int)} {out ys:List Col} (h:Chp l l.length m out) (hp:ys.Perm out) (ha:ys.Pairwise fun a b=> ¬cfK b a<0):Cheap l ys:=by
 have hnd:out.Pairwise fun a b=>kd a≠kd b:=by
  rw [JI];intro i j hi hj hij e;have h1:=h.at1 i hi;have h2:=h.at1 j hj
  grind [Zg]
 have hnd2:ys.Pairwise fun a b=>kd a≠kd b:=(hp.pairwise_iff fun h e=>h e.symm).2 hnd;refine ⟨(hnd2.and ha).imp fun {a b} hh=> ?_,fun d hd=> ?_,fun c hc=> ?_⟩
 ·rw [DT] at hh ⊢
  grind [kd]
 ·obtain ⟨i,hi,rfl⟩:=Z1.1 (hp.mem_iff.1 hd);rw [<- Zg hi];exact h.bst i hi
 ·obtain ⟨j,hj,rfl⟩:=Z1.1 hc;obtain ⟨i,hi,e⟩:=h.all j hj
  grind [Zg]
theorem MP (l:List Col) (c:Bool) (hl:l.length<=8192):ACalls Tryz.prog 137 [.p (.list c (l.map Ya))] [] fun y H'=> ∃ys:List Col,(Cheap l ys/\ys.length<=l.length)/\y= .p (.list false (ys.map Ya))/\H'= []:=by
 refine Zj [15] Tryz.func137 rfl tS ?_;simp (disch:=omega) only [Tryz.f137,go_sem,seval];refine Zn [3,11,12] (fun q:Nat×List (Kd×Int)×List Col=> [(4,.sl 1 0 q.2.2.length q.2.2.length),(13,.p (.int .i64 q.1))]) (fun q=> [.map (q.2.1.map (IR SQ)),.elems 7 (q.2.2.map Ya)]) (fun q=>q.1<=l.length/\Chp l q.1 q.2.1 q.2.2) (fun q=>l.length-q.1) (0,[],[]) ⟨Zb,TL l⟩ (Weak.ofNil 4 7 (by simp (disch:=omega) only [go_sem,seval]) Zb (Weak.mk ?_)) ?_
 ·simp (disch:=omega) only [Zm,ZY,go_sem,seval]
 ·rintro ⟨k,m,out⟩ ⟨hk,hC⟩;simp only at hk hC;have hol:=hC.len;refine Zd ?_;refine cD ?_ ?_<;>intro h1<;>simp (disch:=omega) only [Sh.out h1,go_sem,seval,↓reduceIte]
  ·have hk2:k<l.length:=Za
   refine bY (l:=m) (k:=kd (nth l k)) bT (fun _ _=>trivial) trivial (by rfl) (Zd ?_)
   cases hq:mq m (kd (nth l k)) with
   | none =>
    simp (disch:=omega) only [Option.isSome_none,Option.getD_none,go_sem,seval];refine HS (l:=m) (k:=kd (nth l k)) bT (fun _ _=>trivial) trivial (by rfl) fun m' hm' _=> ?_;simp (disch:=omega) only [ZX,go_sem,seval];exact ⟨(k+1,m',out++ [nth l k]),⟨Za,jT hC hq hm'⟩,Za,Weak.mk (by simp (disch:=omega) only [Yg,Zt,Zm,Zy,ZL,ZY,Xz,go_sem,seval])⟩
   | some v =>
    obtain ⟨i,hi,rfl,hkd⟩:=hC.at2 _ _ hq;have hold:=jU hC hi hkd;simp (disch:=omega) only [Option.isSome_some,Q4,go_sem,seval];refine XN ?_;simp (disch:=first | omega | (simp only [ZL,ZY,Zy,ZB,Xy,XR]<;>omega)) only [QT hi,hi,go_sem,seval,↓reduceIte];refine Xm ?_ ?_<;>intro h2
    ·rw [if_pos h2] at hold;simp (disch:=first | omega | (simp only [ZL,ZY,Zy,ZB,Xy,XR]<;>omega)) only [go_sem,seval];exact ⟨(k+1,m,out.set i (nth l k)),⟨Za,hold⟩,Za,Weak.mk (by simp (disch:=omega) only [UN,Kl,go_sem,seval])⟩
    ·rw [if_neg h2] at hold;exact ⟨(k+1,m,out),⟨Za,hold⟩,Za,wk⟩
  ·have hkl:k=l.length:=Za
   subst hkl;refine (nJ out Za (H:=_) (o:=1) rfl).mono ?_;rintro y H' ⟨rfl,ys,g1,g2,rfl⟩;have hyl:ys.length=out.length:=g1.length_eq;simp (disch:=omega) only [Z7,ZX,go_sem,seval];rw [<- hyl];refine Zr (Weak.fz (o:=1) (by rfl)) (Zf [] _ _ _ _ (BM ?_));exact ⟨.p (.list false (ys.map Ya)),[],wk,ys,⟨jS hC g1 g2,Za⟩,rfl,rfl⟩
def X6 (x:Inst):Nat->Nat
 | 0=>0
 | i+1=>if (nth x.orders i).off=true then X6 x i else X6 x i|||pw i
theorem Ln (x:Inst): ∀i,X6 x i<2^i
 | 0=>by simp [X6]
 | i+1=>by
  have:=Ln x i
  have h:2^(i+1)=2*2^i:=Za
  rw [X6]
  split
  ·omega
  ·exact Qa Za (by rw [pw];omega)
theorem Ue (x:Inst): ∀(n i:Nat),(X6 x n).testBit i=(decide (i<n)&& !(nth x.orders i).off)
 | 0,i=>by simp [X6]
 | n+1,i=>by
  rw [X6]
  split
  ·rename_i h;rw [Ue x n i]
   by_cases e:i=n
   ·subst e;simp [h]
   ·have:decide (i<n+1)=decide (i<n):=by simp;omega
    rw [this]
  ·rename_i h;rw [Kn,Ue x n i,pw,Nat.testBit_two_pow]
   grind
theorem qR (o:Ord):PC 173 [.p (Yc o)] (.bool true):=by
 refine Zc Tryz.func173 rfl uJ ?_;simp (disch:=omega) only [Tryz.f173,go_sem,seval,↓reduceIte]
theorem yS (x:Inst) (hn:x.orders.length<=10):PC 172 [.p (ZW x),.fn (.func 173) [] []] (.int .i64 ((X6 x x.orders.length:Nat):Int)):=by
 refine Zj [] Tryz.func172 rfl uI ?_;simp (disch:=omega) only [Tryz.f172,go_sem,seval];refine Zn [1,9,10] (fun k:Nat=> [(5,.p (.int .i64 ((X6 x k:Nat):Int))),(11,.p (.int .i64 k))]) (fun _=> [Zh x]) (fun k=>k<=x.orders.length) (fun k=>x.orders.length-k) 0 Zb (Weak.mk ?_) ?_
 ·have h00:((X6 x 0:Nat):Int)=0:=rfl;simp (disch:=omega) only [h00,Zh,go_sem,seval]
 ·intro k hk;refine UE ?_;refine cD ?_ ?_<;>intro h1<;>simp (disch:=omega) only [Sh.out h1,go_sem,seval,↓reduceIte]
  ·have hk2:k<x.orders.length:=Za
   have hm:=Ln x k;have hp:2^k<=2^10:=YD Za Za;have hpw:pw k<=1024:=hp;refine TV ?_ ?_<;>intro h2
   ·refine (qR (nth x.orders k)).use (Zd ?_)
    have ho:(nth x.orders k).off=false:=by grind
    exact ⟨k+1,Za,Za,Weak.mk (by simp (disch:=omega) only [X6,ho,JK,go_sem,seval,↓reduceIte])⟩
   ·have ho:(nth x.orders k).off=true:=by grind
    exact ⟨k+1,Za,Za,Weak.mk (by simp (disch:=omega) only [X6,ho,go_sem,seval,↓reduceIte])⟩
  ·have hkl:k=x.orders.length:=Za
   subst hkl;exact we
theorem xX (x:Inst) (hn:x.orders.length<=10):PC 135 [.p (ZW x)] (.int .i64 ((X6 x x.orders.length:Nat):Int)):=by
 refine Zc Tryz.func135 rfl tQ ?_;simp (disch:=omega) only [Tryz.f135,go_sem,seval];refine (yS x hn).use ?_;simp (disch:=omega) only [go_sem,seval]
def NT (S M:Nat):Bool:=(List.range 63).all fun i=> !S.testBit i||M.testBit i
theorem nE (S M:Nat) (hS:S<9223372036854775808):PC 174 [.p (.int .i64 (S:Int)),.p (.int .i64 (M:Int))] (.bool (NT S M)):=by
 refine Zc Tryz.func174 rfl uK ?_;simp (disch:=omega) only [Tryz.f174,go_sem,seval];have hb:=CM (S:=S) (M:=M) hS
 have hd:decide (IntKind.i64.wrap ((BitVec.ofInt 64 (S:Int)&&& ~~~BitVec.ofInt 64 (M:Int)).toNat:Int)=0)=((List.range 63).all fun i=> !S.testBit i||M.testBit i):=by
  grind
 exact ZC (fun b=>V.p (PV.bool b)) hd
def rightB (x:Inst) (c:Col):Bool:=decide (0<=c.typ)&&(decide (c.typ<x.types.length)&&(decide (0<c.set)&&(NT c.set.toNat (X6 x x.orders.length)&&(decide (0<=c.price)&&decide (c.price<=18014398509481984)))))
theorem Rh (x:Inst) (c:Col) (hs:c.set<9223372036854775808) (ht:x.types.length<=1048576):PC 136 [.p (ZW x),.p (Ya c),.p (.int .i64 ((X6 x x.orders.length:Nat):Int))] (.bool (rightB x c)):=by
 refine Zc Tryz.func136 rfl tR ?_;simp (disch:=omega) only [Tryz.f136,go_sem,seval];refine gT ?_ ?_<;>intro h1<;>simp (disch:=omega) only [Sh.out h1,go_sem,seval,↓reduceIte]
 ·refine gT ?_ ?_<;>intro h2<;>simp (disch:=omega) only [Sh.out h2,go_sem,seval,↓reduceIte]
  ·refine gT ?_ ?_<;>intro h3<;>simp (disch:=omega) only [Sh.out h3,go_sem,seval,↓reduceIte]
   ·obtain ⟨S,hS⟩: ∃S:Nat,c.set=(S:Int):=⟨c.set.toNat,Za⟩
    have e1:rightB x c=(NT S (X6 x x.orders.length)&&(decide (0<=c.price)&&decide (c.price<=18014398509481984))):=by
     simp_all [rightB]
    rw [hS];refine (nE S (X6 x x.orders.length) Za).use (Zd ?_);refine gT ?_ ?_<;>intro h4<;>simp (disch:=omega) only [Sh.out h4,go_sem,seval,↓reduceIte]
    ·refine gT ?_ ?_<;>intro h5<;>simp (disch:=omega) only [Sh.out h5,go_sem,seval,↓reduceIte]
     ·grind
     grind
    grind
   grind [rightB]
  grind [rightB]
 ·simp [rightB,h1]
theorem ZkR (n:Nat) (h0:0<n) (h:n<16):PC 145 [.p (.int .u64 n)] (.int .i64 (KH n)):=by
 refine Zc Tryz.func145 rfl tZ ?_;simp (disch:=omega) only [Tryz.f145,go_sem,seval];refine (zB n h0 h).use ?_;simp (disch:=omega) only [go_sem,seval]
theorem LU (n:Nat) (h0:0<n) (h:n<16):PC 111 [.p (.int .i64 n)] (.int .i64 (KH n)):=by
 refine Zc Tryz.func111 rfl tJ ?_;simp (disch:=omega) only [Tryz.f111,go_sem,seval];refine cD ?_ ?_<;>intro h1<;>simp (disch:=omega) only [Sh.out h1,go_sem,seval]
 ·omega
 ·refine (ZkR n h0 h).use ?_;simp (disch:=omega) only [go_sem,seval]
def skpF (x:Inst) (i:Nat):Int:=if (Ws x i).2=0/\(Wg (Ws x i).1).2=0 then (Wg (Ws x i).1).1 else-1
def XZ (ys:List Col) (i:Nat):List Col:=ys.filter fun c=>decide (KH c.set.toNat=(i:Int))
def fstF (n:Nat) (ys:List Col):List (List Col):=(List.range n).map (XZ ys)
theorem Se {ys:List Col} {k i:Nat} (h:k<ys.length):XZ (ys.take (k+1)) i=if KH (nth ys k).set.toNat=(i:Int) then XZ (ys.take k) i++ [nth ys k] else XZ (ys.take k) i:=by
 grind [Yu,XZ,nth]
theorem dY (i:Nat):XZ [] i= []:=rfl
theorem Bx (ys:List Col) (k i:Nat):(XZ (ys.take k) i).length<=ys.length:=by
 refine UO (List.length_filter_le _ _) ?_;simp;omega
theorem QW (ys):fstF 0 ys= []:=rfl
theorem U1 (ys):fstF 1 ys= [XZ ys 0]:=rfl
theorem U2 (ys):fstF 2 ys= [XZ ys 0,XZ ys 1]:=rfl
theorem U3 (ys):fstF 3 ys= [XZ ys 0,XZ ys 1,XZ ys 2]:=rfl
theorem U4 (ys):fstF 4 ys= [XZ ys 0,XZ ys 1,XZ ys 2,XZ ys 3]:=rfl
def BC : List (List Col)->Nat->List V
 | [],_=> []
 | p::P,o=> .sl o 0 p.length p.length::BC P (o+1)
def Gw (P:List (List Col)):List AM.Obj:=P.map fun p=> .elems 7 (p.map Ya)
theorem R2 {n0:Nat} {fr:List V} {a b c:AM.Obj} (h0:n0<=4) (n:Nat):Weak n0 fr [a,b,c,.cells (List.replicate n (.p (.list true [])))] fr (a::b::c:: .cells (BC (List.replicate n []) 4)::Gw (List.replicate n [])):=by
 have hr: ∀(k o:Nat),BC (List.replicate k []) o=(List.range k).map fun j=>V.sl (o+j) 0 0 0:=fun k=>by
  induction k with
  | zero=>intro o;rfl
  | succ k ih =>
   intro o;rw [Ki,BC,ih,List.range_succ_eq_map,Zt,List.map_map];simp only [ZY,V3,List.cons.injEq,true_and];apply Y3
   grind
 have key: ∀k,k<=n->Weak n0 fr [a,b,c,.cells (List.replicate n (.p (.list true [])))] fr (a::b::c:: .cells (((List.range k).map fun j=>V.sl (4+j) 0 0 0)++List.replicate (n-k) (.p (.list true [])))::List.replicate k (.elems 7 [])):=fun k=>by
  induction k with
  | zero=>grind [Weak.refl]
  | succ k ih =>
   intro hk
   have h1:=(ih Za).trans (Weak.nilC (n0:=n0) (fr:=fr) (o:=3) (j:=k) 7 (by rfl) (by
    grind) (by simp;omega))
   have e1:List.length (a::b::c::AM.Obj.cells (((List.range k).map fun j=>V.sl (4+j) 0 0 0)++List.replicate (n-k) (.p (.list true [])))::List.replicate k (AM.Obj.elems 7 []))=4+k:=by simp;omega
   have e2:(((List.range k).map fun j=>V.sl (4+j) 0 0 0)++List.replicate (n-k) (V.p (.list true []))).set k (.sl (4+k) 0 0 0)=((List.range (k+1)).map fun j=>V.sl (4+j) 0 0 0)++List.replicate (n-(k+1)) (V.p (.list true [])):=by
    rw [List.set_append_right _ _ Zb,show n-k=(n-(k+1))+1 by omega,Ki,Yq,Yg];simp
   grind [List.replicate_succ']
 have:=key n (Zw _)
 simp_all [Gw]
def skF (x:Inst) (n:Nat):List Int:=(List.range n).map (skpF x)
def jK (x:Inst) (m:Int) (f g:V):AM.Obj:= .cells [.p (.list x.net.places_c (x.net.places.map eS)),.p (.list x.net.arcs_c (x.net.arcs.map Um)),.p (.list x.types_c (x.types.map XY)),.p (.list x.orders_c (x.orders.map Yc)),.p (.list x.apart_c (x.apart.map eP)),.p (.list x.before_c (x.before.map eP)),f,g,.mp 1,.p (.int .i64 m)]
theorem Je {x:Inst} {c:Col} (h:rightB x c=true) (hs:c.set<9223372036854775808): ∃S:Nat,c.set=S/\0<S/\S<2^x.orders.length/\ ∀i,S.testBit i=true->i<x.orders.length/\(nth x.orders i).off=false:=by
 simp only [rightB,Zs,Zp] at h;obtain ⟨_,_,h3,h4,_⟩:=h
 have key: ∀i,c.set.toNat.testBit i=true->i<x.orders.length/\(nth x.orders i).off=false:=fun i hi=>by
  have h63:i<63:=by
   rcases Wr i 63 with h | h
   ·exact h
   ·have:2^63<=2^i:=YD Za h
    grind [Cd]
  have:=ZH.1 h4 i (ZO.2 h63)
  grind [Ue]
 refine ⟨c.set.toNat,Za,Za,?_,key⟩;refine Nat.lt_pow_two_of_testBit _ fun i hi=> ?_
 grind
theorem zC {S n:Nat} (h0:0<S) (h:S<2^n) (hn:n<=4):KH S<n/\0<=KH S:=by
 have:n=0\/n=1\/n=2\/n=3\/n=4:=Za
 unfold KH
 grind
theorem EZ (x:Inst) (k:Nat):skF x (k+1)=skF x k++ [skpF x k]:=by simp [skF,Yq]
theorem Jg (x:Inst) (k:Nat):(skF x k).length=k:=by simp [skF]
theorem ZfQ (x:Inst):skF x 0= []:=rfl
theorem bW {P:Program} {ko:List Nat} {l:List Oper} {n:Nat} {rem:List Nat} {fr:List V} {H:List AM.Obj} {K:List V->List AM.Obj->Prop} (m:Nat) (Y:V) (Z:List AM.Obj) (hr:UC l rem= [m]) (h:Zv P (Z6 l m) fr H fun y H'=>y=Y/\H'=Z)
  (k:(∀k∈ko,oat Z k=oat H k)/\A0 P ko l n (rem.erase m) (Uy fr (Z6 l m).dst Y) Z K):A0 P ko l (n+1) rem fr H K :=
 F8 m _ hr h fun y H' hq=>by grind
theorem Rg (x:Inst) (l:List Col) (lc:Bool) (hn:x.orders.length<=4) (ht:x.types.length<=1048576) (hu: ∀i:Nat,C4 1152921504606846976 (Ws x i).1) (hs: ∀c∈l,c.set<9223372036854775808) (hl:l.length<=1048576) :
  ACalls Tryz.prog 105 [.p (ZW x),.p (.list lc (l.map Ya))] [] fun y H'=>(8192<l.length/\y= .tup [.p .nilp,.p (.int .i64 4)]/\H'= [])\/(l.length<=8192/\(∃c∈l,rightB x c=false)/\y= .tup [.p .nilp,.p (.int .i64 2)]/\H'= []) \/
   (l.length<=8192/\(∀c∈l,rightB x c=true)/\ ∃ys,(Cheap l ys/\ys.length<=l.length)/\y= .tup [.ptr 2 0,.p (.int .i64 0)]/\H'= .cells (List.replicate 6 .junk)::(YI x (.list false ((fstF x.orders.length ys).map Y7)) (.list false ((skF x x.orders.length).map eI)) (X6 x x.orders.length) []).map (shO 1)):=by
 refine Zj [10] Tryz.func105 rfl tE ?_;simp (disch:=omega) only [Tryz.f105,go_sem,seval];refine cD ?_ ?_<;>intro h0<;>simp (disch:=omega) only [Sh.out h0,go_sem,seval]
 ·exact ⟨_,[],wk,.inl ⟨Za,rfl,rfl⟩⟩
 ·refine Vf [1] 4 mixed Ze Ze Ze Zb (Zd ?_);refine Zo (xX x Za) (Zd ?_);refine YZ 1 _ _ Ze (by refine Zd ?_;exact ⟨rfl,rfl⟩) (Q0 ?_);simp (disch:=omega) only [show ∀(l:List V),UX (V.mp 1::l)=none from fun _=>rfl,Option.map_none,go_sem,seval];refine Zn [1,2,6,27,28] (fun k:Nat=> [(29,.p (.int .i64 k))]) (fun _=> [Zh x,.map [],jK x ((X6 x x.orders.length:Nat):Int) (.p (.list true [])) (.p (.list true []))]) (fun k=>k<=l.length/\ ∀j,j<k->rightB x (nth l j)=true) (fun k=>l.length-k) 0 ⟨Za,fun j hj=>Za⟩ (Weak.mk ?_) ?_
  ·simp (disch:=omega) only [Zh,jK,go_sem,seval]
  ·rintro k ⟨hk,hr⟩;simp (disch:=omega) only [Zh,jK,go_sem,seval];refine cD ?_ ?_<;>intro h1<;>simp (disch:=omega) only [Sh.out h1,go_sem,seval,↓reduceIte]
   ·have hk2:k<l.length:=Za
    refine XN (Zd ?_);refine Zo (Rh x (nth l k) (hs _ (Z0 hk2)) ht) (Zd ?_)
    cases hq:rightB x (nth l k) with
    | false =>
     simp (disch:=omega) only [Km,go_sem,seval];exact ⟨_,[],wk,.inr (.inl ⟨Za,⟨_,Z0 hk2,hq⟩,rfl,rfl⟩)⟩
    | true =>
     simp (disch:=omega) only [Bool.not_true,go_sem,seval]
     exact ⟨k+1,⟨Za,fun j hj=>by
      grind⟩,Za,wk⟩
   ·have hkl:k=l.length:=Za
    subst hkl
    have hall: ∀c∈l,rightB x c=true:=fun c hc=>by
     obtain ⟨j,hj,rfl⟩:=Z1.1 hc
     grind [Zg]
    clear hr hk h1;generalize ((X6 x x.orders.length:Nat):Int)=m;have hun: ∀i:Nat,PT 138 [.p (ZW x),.p (.int .i64 i)] [.p (IS (Ws x i).1),.p (.int .i64 (Ws x i).2)]:=fun i=>LI x i Za;refine Wj (G6 4 rfl rfl (Zd ?_));refine ⟨_,_,R9 190 84 _ _ x.orders.length 24 (.list true []) rfl Ze Ze Ze Ze (by rfl) Za Za (by simp (disch:=omega) only [go_sem,seval]) (by simp (disch:=omega) only [go_sem,seval]),?_⟩
    refine Zd ?_
    have h5:x.orders.length=0\/x.orders.length=1\/x.orders.length=2\/x.orders.length=3\/x.orders.length=4:=Za
    refine Zr (R2 Zb x.orders.length) ?_;refine Zf [17] _ _ _ _ (Zd ?_);refine (MP l lc Za).useV fun ys hC=>Zd ?_;obtain ⟨hC,hyl⟩:=hC;rcases h5 with h5 | h5 | h5 | h5 | h5
    all_goals
     simp (disch:=omega) only [h5,List.replicate,BC,Gw,Zt,Zm,go_sem,seval];refine Zn [2,6,50,51] (fun k:Nat=> [(52,.p (.int .i64 k))]) (fun k=> [Zh x,.map [],jK x m (.sl 3 0 x.orders.length x.orders.length) (.p (.list true [])),.cells (BC (fstF x.orders.length (ys.take k)) 4)]++Gw (fstF x.orders.length (ys.take k))) (fun k=>k<=ys.length) (fun k=>ys.length-k) 0 Za (Weak.mk ?_) ?_
     ·simp (disch:=omega) only [h5,Q3,dY,ZY,QW,U1,U2,U3,U4,BC,Gw,Zt,Zm,ZP,ZA,Zh,jK,go_sem,seval]
     ·intro k hk;simp (disch:=omega) only [h5,QW,U1,U2,U3,U4,BC,Gw,Zt,Zm,ZP,ZA,Zh,jK,go_sem,seval];refine cD ?_ ?_<;>intro h1<;>simp (disch:=omega) only [Sh.out h1,go_sem,seval,↓reduceIte]
      ·have hk2:k<ys.length:=Za
       obtain ⟨j,hj,hjl,_⟩:=hC.bst _ (Z0 hk2)
       have hmem:nth ys k∈l:=by rw [<- hjl];exact Z0 hj
       obtain ⟨S,hS,hS0,hS1,hS2⟩:=Je (hall _ hmem) (hs _ hmem);have hlt:=zC hS0 hS1 hn;have h16:S<16:=U9 hS1 (by rw [h5];decide)
       have cl:PC 111 [.p (.int .i64 (nth ys k).set)] (.int .i64 (KH (nth ys k).set.toNat)):=by
        rw [hS];exact LU S hS0 h16
       refine (cl).use ?_;simp (disch:=omega) only [go_sem,seval]
       have htz:KH (nth ys k).set.toNat=KH S:=by rw [hS];rfl
       have hi:KH (nth ys k).set.toNat=0\/KH (nth ys k).set.toNat=1\/KH (nth ys k).set.toNat=2\/KH (nth ys k).set.toNat=3:=Za
       rcases hi with hi | hi | hi | hi
       all_goals try omega
       all_goals
        simp (disch:=omega) only [hi,go_sem,seval];refine DN [14] [1,2,3] [2] 15 mixed Ze Ze Ze Ze Zb ?_;simp (disch:=omega) only [go_sem,seval,↓reduceIte];refine ⟨fun q hq p' hp=> ?_,?_⟩
        ·simp only [Z4,W0,Wl] at hq;rcases hq with rfl | rfl | rfl
         ·obtain rfl:59=p':=WD hp;exact Qv (by decide)
         ·obtain rfl:60=p':=WD hp;exact Qv (by decide)
         ·obtain rfl:61=p':=WD hp;exact Qv (by decide)
        ·have q0:=Bx ys k 0;have q1:=Bx ys k 1;have q2:=Bx ys k 2;have q3:=Bx ys k 3;refine bW 14 _ _ Ze (by simp (disch:=omega) only [go_sem,seval,↓reduceIte];exact ⟨rfl,rfl⟩) ?_;refine ⟨fun k hk=>by simp at hk;subst hk;rfl,OR ?_⟩;simp (disch:=omega) only [go_sem,seval];exact ⟨k+1,Za,Za,Weak.mk (by simp (disch:=omega) only [h5,Se hk2,hi,Yg,Zy,ZL,ZY,Xz,U1,U2,U3,U4,BC,Zt,Zm,go_sem,seval,↓reduceIte])⟩
      ·have hkl:k=ys.length:=Za
       subst hkl;clear hk h1
       try refine Zr (Weak.fz (o:=4) (by rfl)) ?_
       try refine Zr (Weak.fz (o:=5) (by rfl)) ?_
       try refine Zr (Weak.fz (o:=6) (by rfl)) ?_
       try refine Zr (Weak.fz (o:=7) (by rfl)) ?_
       refine Zf [17] _ _ _ _ ?_;simp (disch:=omega) only [X5,Zt,Zm,Z7,ZX,eq_self,go_sem,seval,↓reduceIte];refine Zr (Weak.fzC (o:=3) (ys:=(fstF x.orders.length ys).map Y7) (by rw [h5];rfl) (fun y hy=>by obtain ⟨p,_,rfl⟩:=Xj.1 hy;rfl)) ?_;refine Zf [17] _ _ _ _ ?_;simp (disch:=omega) only [h5,QW,U1,U2,U3,U4,Zt,Zm,Z7,ZX,ZL,ZY,Xz,Nat.reduceAdd,eq_self,go_sem,seval,↓reduceIte]
       refine Zf [28] _ _ _ _ ?_;simp (disch:=omega) only [go_sem,seval,↓reduceIte];refine Zn [2,6,78] (fun k:Nat=> [(79,.p (.int .i64 k))]) (fun k=> [Zh x,.map [],jK x m (.p (.list false ((fstF x.orders.length ys).map Y7))) (.sl (4+x.orders.length) 0 k k),.dead]++List.replicate x.orders.length .dead++ [.elems 1 ((skF x k).map eI)]) (fun k=>k<=x.orders.length) (fun k=>x.orders.length-k) 0 Za ((Weak.nilC (o:=2) (j:=7) 1 (by rfl) (by rfl) Zb).trans (Weak.mk ?_)) ?_
       ·simp (disch:=omega) only [h5,ZfQ,List.replicate,Z7,ZX,ZL,ZY,Xz,Nat.reduceAdd,QW,U1,U2,U3,U4,Zt,Zm,ZP,ZA,Zh,jK,go_sem,seval]
       ·intro k hk;simp (disch:=omega) only [h5,List.replicate,Nat.reduceAdd,QW,U1,U2,U3,U4,Zt,Zm,ZP,ZA,Zh,jK,go_sem,seval];refine cD ?_ ?_<;>intro h1<;>simp (disch:=omega) only [Sh.out h1,go_sem,seval,↓reduceIte]
        ·have hk2:k<x.orders.length:=Za
         refine J2 (hun k) ?_;simp (disch:=omega) only [go_sem,seval,↓reduceIte];refine cD ?_ ?_<;>intro h2<;>simp (disch:=omega) only [Sh.out h2,go_sem,seval,↓reduceIte]
         ·refine J2 (Gj _ (hu k)) ?_;simp (disch:=omega) only [go_sem,seval];refine cD ?_ ?_<;>intro h3<;>simp (disch:=omega) only [Sh.out h3,go_sem,seval,↓reduceIte]
          ·have hsk:skpF x k=(Wg (Ws x k).1).1:=by simp [skpF,h2,h3]
           simp (disch:=omega) only [Jg,go_sem,seval];rw [if_pos ⟨Za,Za⟩];simp (disch:=omega) only [Jg,ZB,Zy,ZL,ZY,Xz,eq_self,V4,go_sem,seval];exact ⟨k+1,Za,Za,Weak.mk (by simp (disch:=omega) only [h5,EZ,hsk,Yg,List.replicate,Nat.reduceAdd,QW,U1,U2,U3,U4,Zt,Zm,ZP,ZA,go_sem,seval])⟩
          ·have hsk:skpF x k= -1:=by simp [skpF,h3]
           simp (disch:=omega) only [Jg,go_sem,seval];rw [if_pos ⟨Za,Za⟩];simp (disch:=omega) only [Jg,ZB,Zy,ZL,ZY,Xz,eq_self,V4,go_sem,seval];exact ⟨k+1,Za,Za,Weak.mk (by simp (disch:=omega) only [h5,EZ,hsk,Yg,List.replicate,Nat.reduceAdd,QW,U1,U2,U3,U4,Zt,Zm,ZP,ZA,go_sem,seval])⟩
         ·have hsk:skpF x k= -1:=by simp [skpF,h2]
          simp (disch:=omega) only [Jg,go_sem,seval];rw [if_pos ⟨Za,Za⟩];simp (disch:=omega) only [Jg,ZB,Zy,ZL,ZY,Xz,eq_self,V4,go_sem,seval];exact ⟨k+1,Za,Za,Weak.mk (by simp (disch:=omega) only [h5,EZ,hsk,Yg,List.replicate,Nat.reduceAdd,QW,U1,U2,U3,U4,Zt,Zm,ZP,ZA,go_sem,seval])⟩
        ·have hkl:k=x.orders.length:=Za
         clear hk h1;refine Zr (Weak.fz (o:=4+x.orders.length) (S:=1) (xs:=(skF x k).map eI) (by rw [h5];rfl)) ?_;refine Zf [] _ _ _ _ ?_;simp (disch:=omega) only [h5,Zt,Zm,Z7,ZX,ZB,Jg,Nat.reduceAdd,eq_self,go_sem,seval,↓reduceIte];exact ⟨.tup [.ptr 2 0,.p (.int .i64 0)],_,Weak.mk (by simp (disch:=omega) only [hkl,h5,YI,W9,shO,shVs,shV,QW,U1,U2,U3,U4,Zt,Zm,go_sem,seval]),.inr (.inr ⟨Za,hall,ys,⟨hC,hyl⟩,rfl,rfl⟩)⟩
theorem zD : ∀S:Fin 16,0<S.val->sHas (S.val:Int) (KH S.val)=true:=by decide+kernel
theorem fH {x:Inst} (hx:InstOk x) (i:Nat): -1<=skpF x i/\skpF x i<=18014398509481984:=by
 unfold skpF
 split
 ·rename_i h
  have hm:(Ws x i).1.cost<=1000000/\(Ws x i).1.moved<=1/\0<=(Ws x i).1.moved/\(Ws x i).1.other=0/\(Ws x i).1.work=0:=by
   unfold Ws
   split
   ·simp [zSco]
   ·split
    ·simp [zSco]
    ·split
     ·simp [zSco]
     ·have ha:=(hx.orders.2 (i:Int).toNat Za).arg;simp only [argOk,rng,Zs,Zp] at ha
      grind
  obtain ⟨_,h2⟩:=h;unfold Wg at h2 ⊢
  grind
 ·omega
theorem Oh {x:Inst} {l ys:List Col} (hx:InstOk x) (hn:x.orders.length<=4) (hC:Cheap l ys) (hr: ∀c∈l,rightB x c=true) (hs: ∀c∈l,c.set<9223372036854775808):ChOk x.orders.length x (fstF x.orders.length ys) (skF x x.orders.length):=by
 refine ⟨fun i hi c hc=> ?_,?_,fun i hi=> ?_⟩
 ·have e:nth (fstF x.orders.length ys) i=XZ ys i:=by
   grind [fstF,Zg]
  rw [e,XZ,Ja] at hc;obtain ⟨h1,h2⟩:=hc;simp only [Zp] at h2;obtain ⟨j,hj,hjl,_⟩:=hC.bst c h1
  have hm:c∈l:=by grind [Z0]
  obtain ⟨S,q1,q2,q3,_⟩:=Je (hr c hm) (hs c hm);have h16:S<16:=U9 q3 (YD (n:=2) Za hn);have hb:=zD ⟨S,h16⟩ q2;have hr1:=hr c hm;simp only [rightB,Zs,Zp] at hr1
  grind
 ·have ht:=hx.types;simp only [typesOk,rng,Zp] at ht;refine ⟨Za,fun t _=> ?_⟩;rcases Wr t x.types.length with h | h
  ·have:=ht.2 t h;unfold VW at this;have:=this.1.1.1.1.1.1.2;simp only [rng,Zp] at this;omega
  ·rw [show nth x.types t=default from by grind [nth]]
   decide
 simp_all [skF,Zg,fH]
def zSt : St:=⟨0,0,[0,0,0,0,0,0]⟩
def HC (x:Inst) (ys:List Col):Int:=YV x.orders.length ((X6 x x.orders.length:Nat):Int) x (fstF x.orders.length ys) (skF x x.orders.length) 20 (WT x.orders.length ((X6 x x.orders.length:Nat):Int) zSt)
theorem qB (n:Nat):StV n zSt:=⟨rfl,⟨by decide,by simp [zSt]⟩,⟨0,rfl,Za⟩,fun j hj=>by
 have:nth zSt.used j=0:=by
  have:j=0\/j=1\/j=2\/j=3\/j=4\/j=5:=Za
  rcases this with rfl | rfl | rfl | rfl | rfl | rfl<;>rfl
 omega⟩
theorem E1 {α:Type} {r:α->α->Prop} (irr: ∀a,¬r a a) (asy: ∀a b,r a b-> ¬r b a): ∀ {l l':List α},l.Pairwise r->l'.Pairwise r->(∀a,a∈l↔a∈l')->l=l'
 | [],[],_,_,_=>rfl
 | [],b::_,_,_,h=>by have:=(h b).2 Zb;simp at this
 | a::_,[],_,_,h=>by have:=(h a).1 Zb;simp at this
 | a::l,b::l',h1,h2,h=>by
  rw [List.pairwise_cons] at h1 h2
  have hab:a=b:=by
   rcases Z4.1 ((h a).1 Zb) with e | e
   ·exact e
   ·rcases Z4.1 ((h b).2 Zb) with e' | e'
    ·exact e'.symm
    ·exact absurd (h1.1 b e') (asy _ _ (h2.1 a e))
  subst hab
  rw [E1 irr asy h1.2 h2.2 fun c=>⟨fun hc=>by
   rcases Z4.1 ((h c).1 (Yp _ hc)) with e | e
   ·subst e;exact absurd (h1.1 c hc) (irr c)
   ·exact e,fun hc=>by
   rcases Z4.1 ((h c).2 (Yp _ hc)) with e | e
   ·subst e;exact absurd (h2.1 c hc) (irr c)
   ·exact e⟩]
theorem TH {l ys:List Col} (h:Cheap l ys) {c:Col} (hc:c∈l): ∃d∈ys,kd d=kd c/\d.price<=c.price:=by
 obtain ⟨d,hd,e⟩:=h.all c hc;obtain ⟨j,hj,rfl⟩:=Z1.1 hc;obtain ⟨i,hi,_,h3⟩:=h.bst d hd
 grind [Zg]
theorem TG {l ys:List Col} (h:Cheap l ys) {d:Col} (hd:d∈ys):d∈l:=by
 obtain ⟨j,hj,e,_⟩:=h.bst d hd
 grind [Z0]
theorem Lt {n i:Nat} {ys:List Col} :nth (fstF n ys) i=if i<n then XZ ys i else []:=by
 split
 ·grind [fstF,Zg]
 ·rename_i h;rw [nth,Up,List.getElem?_eq_none (by simp [fstF];omega)];rfl
def SV (a b:Int):Prop:=b<0\/(0<=a/\a<=b)
theorem OB {x:Inst} {s:St} {r:Col->Int} (hr: ∀c,-1<=r c): ∀ {l:List Col} {a:Int},(∀c∈l,0<=c.price) ->
  SV (l.foldl (fun o c=>if Yk x s c=true then YH o c.price (r c) else o) a) a/\ ∀c∈l,Yk x s c=true->0<=r c->SV (l.foldl (fun o c=>if Yk x s c=true then YH o c.price (r c) else o) a) (c.price+r c)
 | [],a,_=>⟨by grind [SV],fun c hc=>by simp at hc⟩
 | d::l,a,hp=>by
  have hd:=hp d Zb;obtain ⟨g1,g2⟩:=OB (x:=x) (s:=s) hr (l:=l) (a:=if Yk x s d=true then YH a d.price (r d) else a) fun c hc=>hp c (Yp _ hc);rw [Yh];generalize l.foldl (fun o c=>if Yk x s c=true then YH o c.price (r c) else o) (if Yk x s d=true then YH a d.price (r d) else a)=M at g1 g2;refine ⟨?_,fun c hc hy h0=> ?_⟩
  ·grind [SV,YH]
  ·rcases Z4.1 hc with rfl | hc
   ·rw [if_pos hy] at g1
    grind [SV,YH]
   grind
theorem FX {x:Inst} {s:St} {r:Col->Int} : ∀ {l:List Col} {a:Int},l.foldl (fun o c=>if Yk x s c=true then YH o c.price (r c) else o) a=a\/ ∃c∈l,Yk x s c=true/\0<=r c/\l.foldl (fun o c=>if Yk x s c=true then YH o c.price (r c) else o) a=c.price+r c
 | [],a=> .inl rfl
 | d::l,a=>by
  rw [Yh];rcases FX (x:=x) (s:=s) (r:=r) (l:=l) (a:=if Yk x s d=true then YH a d.price (r d) else a) with h | ⟨c,h1,h2,h3,h4⟩
  ·rw [h]
   split
   ·rename_i hy;unfold YH
    split
    ·grind
    omega
   omega
  grind
abbrev Cm := { c:Col // ∃S:Nat,c.set=S/\0<S/\S<16 }
instance : Inhabited Cm := ⟨⟨⟨0, 1, 0, default⟩, 1, rfl, by decide, by decide⟩⟩
def lo (c:Col):Int:=KH c.set.toNat
def jO (a b:Col):Int:=lY [WS a.typ b.typ,WS (lo a) (lo b)]
theorem QQ {a b:Col} :jO a b<0↔a.typ<b.typ\/(a.typ=b.typ/\lo a<lo b):=by
 grind [jO,Du,TS,TR]
def sC (a b:Cm):Int:=jO a.val b.val
theorem jQ : Go.Sort.SWO (ltOf sC) where
 irrefl x:=by grind [ltOf,sC,QQ]
 trans x y z h1 h2:=by simp only [ltOf,sC,Zp,QQ] at *;omega
 ntrans x y z h1 h2:=by grind [ltOf,sC,QQ]
theorem Zfh (c:Cm):PC 111 [.p (.int .i64 c.val.set)] (.int .i64 (lo c.val)):=by
 obtain ⟨c,S,h1,h2,h3⟩:=c
 grind [lo,LU]
theorem Ri (a b:Cm):PC 110 [.p (Ya a.val),.p (Ya b.val)] (.int .i64 (sC a b)):=by
 refine Zc Tryz.func110 rfl tI ?_;simp (disch:=omega) only [Tryz.f110,go_sem,seval];refine XN (Zd ?_);refine Zo (CO a.val.typ b.val.typ) (Zd ?_);refine Zo (Zfh a) (Zd ?_);refine Zo (Zfh b) (Zd ?_);refine Zo (CO (lo a.val) (lo b.val)) (Zd ?_);refine Zo (lZ [WS a.val.typ b.val.typ,WS (lo a.val) (lo b.val)] false Zb) (Zd ?_)
 rfl
theorem nI (xs:List Cm) (hl:xs.length<=1048576) {H:List AM.Obj} {o:Nat} (hH:H[o]? =some (.elems 7 (xs.map fun c=>Ya c.val))) :
  ACalls Tryz.prog 109 [.sl o 0 xs.length xs.length,.fn (.func 110) [] []] H fun y H'=>y= .tup []/\ ∃ys:List Cm,ys.Perm xs/\ys.Pairwise (fun a b=> ¬sC b a<0)/\H'=H.set o (.elems 7 (ys.map fun c=>Ya c.val)) :=
 ACalls.sortFunc L6 bF 7 Tryz.isAgg121 Tryz.sizeOf121 (fun c:Cm=>Ya c.val) (fun x=>⟨_,rfl,rfl,rfl⟩) sC jQ 110 Ri xs Za hH
theorem Cp {n:Nat} {m:Int} {x:Inst} {fst:List (List Col)} {sk:List Int} : ∀(d:Nat) (s:St),∀c∈(X7 n m x fst sk d s).1,∃i,i<fst.length/\c∈nth fst i
 | 0,s,c,h=>by simp [X7] at h
 | d+1,s,c,h=>by
  rw [X7] at h
  split at h
  ·simp at h
  ·split at h
   ·rename_i c' hf;simp only [Z4] at h;rcases h with rfl | h
    ·refine ⟨s.ix.toNat,?_,U7 hf⟩;rcases Wr s.ix.toNat fst.length with h | h
     ·exact h
     ·rw [show nth fst s.ix.toNat= [] from by simp [nth,Up,List.getElem?_eq_none h];rfl] at hf;simp at hf
    ·exact Cp d _ c h
   ·exact Cp d _ c h
def zPlC : Pln:=⟨true,[],true,[]⟩
def hK (x:Inst) (l:List Col) (p:Pln) (c e:Int):Prop:=(8192<l.length/\p=zPlC/\c=0/\e=4)\/(l.length<=8192/\(∃c∈l,rightB x c=false)/\p=zPlC/\c=0/\e=2) \/
 (l.length<=8192/\(∀c∈l,rightB x c=true)/\ ∃ys,Cheap l ys/\ys.length<=l.length/\((HC x ys<0/\p=zPlC/\c=0/\e=24)\/(0<=HC x ys/\c=HC x ys/\e=0 /\
  ∃zs:List Col,zs.Perm (X7 x.orders.length ((X6 x x.orders.length:Nat):Int) x (fstF x.orders.length ys) (skF x x.orders.length) 20 (WT x.orders.length ((X6 x x.orders.length:Nat):Int) zSt)).1/\zs.Pairwise (fun a b=> ¬jO b a<0) /\
   p=⟨false,zs.map (·.route),false,(X7 x.orders.length ((X6 x x.orders.length:Nat):Int) x (fstF x.orders.length ys) (skF x x.orders.length) 20 (WT x.orders.length ((X6 x x.orders.length:Nat):Int) zSt)).2⟩)))
theorem Co {n:Nat} {m:Int} {x:Inst} {fst:List (List Col)} {sk:List Int} : ∀(d:Nat) (s:St),(X7 n m x fst sk d s).1.length<=d/\(X7 n m x fst sk d s).2.length<=d
 | 0,s=>by simp [X7]
 | d+1,s=>by
  rw [X7]
  split
  ·simp
  ·split
   ·rename_i c' hf;have:=Co (n:=n) (m:=m) (x:=x) (fst:=fst) (sk:=sk) d (W7 n m s c');simp;omega
   ·have:=Co (n:=n) (m:=m) (x:=x) (fst:=fst) (sk:=sk) d (Ck n m s);simp;omega
theorem Sc (x:Inst) (l:List Col) (lc:Bool) (hx:InstOk x) (hn:x.orders.length<=4) (ht:x.types.length<=1048576) (hs: ∀c∈l,c.set<9223372036854775808) (hl:l.length<=1048576) :
  ACalls Tryz.prog 78 [.p (ZW x),.p (.list lc (l.map Ya))] [] fun y H'=> ∃p c e,hK x l p c e/\y= .tup [.p (C1 p),.p (.int .i64 c),.p (.int .i64 e)]/\H'= []:=by
 refine Zj [16] Tryz.func78 rfl ZeZ ?_;simp (disch:=omega) only [Tryz.f78,go_sem,seval];refine ((Rg x l lc hn ht (fun i=>Gy Za (fX hx _)) hs hl).behind (by rfl) _).mono ?_;rintro y H' ⟨y1,H1,hq,rfl,rfl⟩;rcases hq with ⟨h1,rfl,rfl⟩ | ⟨h1,h2,rfl,rfl⟩ | ⟨h1,h2,ys,⟨hC,hyl⟩,rfl,rfl⟩
 ·simp (disch:=omega) only [shV,shVs,Zm,go_sem,seval];exact ⟨.tup [.p (C1 zPlC),.p (.int .i64 0),.p (.int .i64 4)],[],Weak.mk (by simp (disch:=omega) only [zPlC,Zm,go_sem,seval]),_,_,_,Or.inl ⟨h1,rfl,rfl,rfl⟩,rfl,rfl⟩
 ·simp (disch:=omega) only [shV,shVs,Zm,go_sem,seval];exact ⟨.tup [.p (C1 zPlC),.p (.int .i64 0),.p (.int .i64 2)],[],Weak.mk (by simp (disch:=omega) only [zPlC,Zm,go_sem,seval]),_,_,_,Or.inr (Or.inl ⟨h1,h2,rfl,rfl,rfl⟩),rfl,rfl⟩
 ·have hok:=Oh hx hn hC h2 hs
  have hcl: ∀r∈fstF x.orders.length ys,r.length<=1048576:=fun r hr=>by
   obtain ⟨p,_,rfl⟩:=Xj.1 hr
   grind [XZ]
  obtain ⟨m,hm⟩: ∃m:Int,m=((X6 x x.orders.length:Nat):Int):=⟨_,rfl⟩;obtain ⟨B,hB⟩: ∃B,B=HC x ys:=⟨_,rfl⟩;simp (disch:=omega) only [shV,shVs,shO,YI,W9,Zt,Zm,List.replicate,ZP,ZA,go_sem,seval];rw [<- hm];refine ACalls.mono ((EX x (.list false ((fstF x.orders.length ys).map Y7)) (.list false ((skF x x.orders.length).map eI)) m [] zSt rfl (by decide) Za (by decide)).back [Zh x,.cells [.p (.list true []),.p (.list true [])],.cells (List.replicate 6 .junk)] (by rfl)) ?_;rintro y H' ⟨y1,H1,⟨rfl,rfl⟩,rfl,rfl⟩;obtain ⟨v1,_⟩:=H9 (m:=m) (qB x.orders.length)
  have hrg:=Vz (m:=m) hok 20 _ v1
  have hbb:B=YV x.orders.length m x (fstF x.orders.length ys) (skF x x.orders.length) 20 (WT x.orders.length m zSt):=by rw [hB,HC,hm]
  rw [<- hbb] at hrg;obtain ⟨R,hR⟩: ∃R,R=X7 x.orders.length m x (fstF x.orders.length ys) (skF x x.orders.length) 20 (WT x.orders.length m zSt):=⟨_,rfl⟩;obtain ⟨i,w,b0,b1,b2,b3,b4,b5,hw⟩:=Yy v1.len;have hRr:=hR;rw [hw] at hbb v1 hR ⊢;simp (disch:=omega) only [shV,shVs,shO,YI,W9,Zt,Zm,List.replicate,ZP,ZA,go_sem,seval];have c3:=((C9 x (fstF x.orders.length ys) (skF x x.orders.length) false false m Za (by simp [fstF]) (by simp [skF]) hok hcl 20 ⟨i,w,[b0,b1,b2,b3,b4,b5]⟩ [] Za v1 (by have:=v1.ix;omega) (fun p hp=>by simp at hp)).mono (fun y H' hq=>(⟨hq,by obtain ⟨l',_,_,rfl⟩:=hq;rfl⟩:_/\H'.length=(YI x (.list false ((fstF x.orders.length ys).map Y7)) (.list false ((skF x x.orders.length).map eI)) m []).length))).front (by rfl) (by rfl) [Ar ⟨i,w,[b0,b1,b2,b3,b4,b5]⟩]
  refine ACalls.mono (c3.back [Zh x,.cells [.p (.list true []),.p (.list true [])],.cells (List.replicate 6 .junk)] (by rfl)) ?_;rintro y H' ⟨y1,H1,⟨H2,⟨l',hl',rfl,rfl⟩,rfl⟩,rfl,rfl⟩;rw [<- hbb];simp (disch:=omega) only [shV,shVs,shO,YI,W9,Ar,Zt,Zm,List.replicate,ZP,ZA,go_sem,seval];refine cD ?_ ?_<;>intro h3<;>simp (disch:=omega) only [Sh.out h3,go_sem,seval,↓reduceIte]
  ·exact ⟨.tup [.p (C1 zPlC),.p (.int .i64 0),.p (.int .i64 24)],[],Weak.mk (by simp (disch:=omega) only [zPlC,Zm,go_sem,seval]),_,_,_,Or.inr (Or.inr ⟨h1,h2,ys,hC,hyl,Or.inl ⟨Za,rfl,rfl,rfl⟩⟩),rfl,rfl⟩
  ·refine ACalls.mono ((yC (Ar ⟨i,w,[b0,b1,b2,b3,b4,b5]⟩) (by intro H n;simp (disch:=omega) only [Ar,Zt,Zm,go_sem,seval]) (by intro o xs;rfl) x (fstF x.orders.length ys) (skF x x.orders.length) false false m Za (by simp [fstF]) (by simp [skF]) hok hcl ⟨i,w,[b0,b1,b2,b3,b4,b5]⟩ l' v1 hl').back [Zh x,.cells [.p (.list true []),.p (.list true [])],.cells (List.replicate 6 .junk)] (by rfl)) ?_;rintro y H' ⟨y1,H1,⟨l2,A,U,hl2,hAU,rfl,rfl⟩,rfl,rfl⟩;rw [<- hR] at hAU;have hlen:=Co (n:=x.orders.length) (m:=m) (x:=x) (fst:=fstF x.orders.length ys) (sk:=skF x x.orders.length) 20 (WT x.orders.length m zSt)
   rw [<- hRr,<- hAU] at hlen
   have hA: ∀c∈A,∃S:Nat,c.set=S/\0<S/\S<16:=fun c hc=>by
    have hc':c∈(X7 x.orders.length m x (fstF x.orders.length ys) (skF x x.orders.length) 20 (WT x.orders.length m zSt)).1:=by grind
    obtain ⟨j,hj,hm2⟩:=Cp _ _ _ hc'
    have e:nth (fstF x.orders.length ys) j=XZ ys j:=by
     grind [fstF,Zg]
    rw [e,XZ,Ja] at hm2;obtain ⟨q,hq,hql,_⟩:=hC.bst c hm2.1
    have hmem:c∈l:=by grind [Z0]
    obtain ⟨S,q1,q2,q3,_⟩:=Je (h2 c hmem) (hs c hmem);exact ⟨S,q1,q2,U9 q3 (YD (n:=2) Za hn)⟩
   obtain ⟨L,hL⟩: ∃L:List Cm,L.map Subtype.val=A:=⟨A.pmap (fun c h=>⟨c,h⟩) hA,by simp [List.map_pmap]⟩;subst hL
   have hLl:(L.map Subtype.val).length=L.length:=Zb
   have hLe:(L.map Subtype.val).map Ya=L.map fun c=>Ya c.val:=Zb
   simp only at hlen;rw [hLl] at hlen;simp (disch:=omega) only [shV,shVs,shO,YI,W9,Ar,Zt,Zm,List.replicate,ZP,ZA,hLl,hLe,go_sem,seval];refine ((nI L Za (H:=_) (o:=7) rfl)).mono ?_;rintro y H' ⟨rfl,zs,hp,hsr,rfl⟩;have hzl:zs.length=L.length:=hp.length_eq;rw [<- hzl] at hlen ⊢;simp (disch:=omega) only [Z7,ZX,go_sem,seval];obtain ⟨Z,hZ⟩: ∃Z,Z=zs.map Subtype.val:=⟨_,rfl⟩
   have hZl:Z.length=zs.length:=by rw [hZ];simp
   have hZe:Z.map Ya=zs.map fun c=>Ya c.val:=by rw [hZ];simp
   rw [<- hZl] at hlen ⊢
   have htl: ∀k,k<=Z.length->(Z.take k).length=k:=fun k hk=>by simp;omega
   refine Zn [4,10,13,45,46] (fun k:Nat=> [(47,.p (.int .i64 k))]) (fun k=> [Zh x,.cells [.p (.list true []),.p (.list true [])],.cells (List.replicate 6 .junk),.map (l2.map (IR KP)),shO 3 (W9 x (.list false ((fstF x.orders.length ys).map Y7)) (.list false ((skF x x.orders.length).map eI)) m),Ar ⟨i,w,[b0,b1,b2,b3,b4,b5]⟩,.cells (List.replicate 8 .junk),.elems 7 (Z.map Ya),.cells [.sl 9 0 k k,.p (.list false (U.map eI))],.elems 4 ((Z.take k).map fun c=>KO c.route)]) (fun k=>k<=Z.length) (fun k=>Z.length-k) 0 Za ((Weak.nilC (o:=8) (j:=0) 4 (by rfl) (by rfl) Zb).trans (Weak.mk ?_)) ?_
   ·simp (disch:=omega) only [hZe,Q3,Z7,ZX,ZL,ZY,Xz,Nat.reduceAdd,shV,shVs,shO,W9,Ar,Zt,Zm,List.replicate,ZP,ZA,Zh,go_sem,seval]
   ·intro k hk;simp (disch:=omega) only [shV,shVs,shO,W9,Ar,Zt,Zm,List.replicate,Zh,go_sem,seval];refine cD ?_ ?_<;>intro h4<;>simp (disch:=omega) only [Sh.out h4,go_sem,seval,↓reduceIte]
    ·have hk2:k<Z.length:=Za
     simp (disch:=first | omega | (simp only [ZL,ZY,Zy,ZB,Xy,XR]<;>omega)) only [QT hk2,hk2,go_sem,seval,↓reduceIte]
     have hsc:Z.take (k+1)=Z.take k++ [nth Z k]:=by rw [Yu hk2,Zg hk2]
     rw [if_pos ⟨htl k hk,Za,Za⟩];simp (disch:=omega) only [htl k hk,ZB,Zy,ZL,ZY,Xz,eq_self,V4,go_sem,seval];exact ⟨k+1,Za,Za,Weak.mk (by simp (disch:=omega) only [hsc,Yg,Zt,Zm,go_sem,seval])⟩
    ·have hkl:k=Z.length:=Za
     subst hkl;refine Zr (Weak.fz (o:=9) (by rfl)) ?_;refine Zf [] _ _ _ _ ?_;simp (disch:=omega) only [Zt,Zm,Z7,ZX,X5,go_sem,seval];exact ⟨.tup [.p (C1 ⟨false,Z.map (·.route),false,U⟩),.p (.int .i64 B),.p (.int .i64 0)],[],Weak.mk (by simp (disch:=omega) only [List.map_map,Function.comp_def,go_sem,seval]),_,_,_,Or.inr (Or.inr ⟨h1,h2,ys,hC,hyl,Or.inr ⟨Za,hB,rfl,Z,by grind,by rw [hZ];exact List.pairwise_map.2 hsr,by grind⟩⟩),rfl,rfl⟩
def ZiN (x:Inst) (l:List Col) (a e:Int):Prop:=(8192<l.length/\a=0/\e=4)\/(l.length<=8192/\(∃c∈l,rightB x c=false)/\a=0/\e=2) \/
 (l.length<=8192/\(∀c∈l,rightB x c=true)/\ ∃ys,Cheap l ys/\a=(if HC x ys<0 then 0 else HC x ys)/\e=(if HC x ys<0 then 24 else 0))
def ky (l:List Col) (a:Int):Int×Int×Int:=if a<0 then (1,0,0) else (0,(nth l a.toNat).typ,(nth l a.toNat).set)
def bU (a b:Int×Int×Int):Prop:=a.1<b.1\/(a.1=b.1/\(a.2.1<b.2.1\/(a.2.1=b.2.1/\a.2.2<b.2.2)))
def KE (n:Nat) (l:List Col) (a b:List Int):Prop:= ∀t,t<n->ky l (nth a t)=ky l (nth b t)/\nth a t<=nth b t
def KL (n:Nat) (l:List Col) (a b:List Int):Prop:=(∃i,i<n/\(∀t,t<i->ky l (nth a t)=ky l (nth b t))/\bU (ky l (nth a i)) (ky l (nth b i)))\/KE n l a b
def mI (x:Inst):Int:=((X6 x x.orders.length:Nat):Int)
theorem Ep {x:Inst} (hn:x.orders.length<=4) {k:Nat} (hk:k<x.orders.length):sHas (mI x) k= !(nth x.orders k).off:=by
 grind [mI,We,Ue]
theorem AI {n:Nat} {s:St} (h:StV n s) {k:Nat} (hk:k<=62):sHas s.cov k=s.cov.toNat.testBit k:=by
 obtain ⟨C,hC,_⟩:=h.cov
 grind [We]
structure Ctx (x:Inst) (l ys:List Col):Prop where
 n4:x.orders.length<=4
 t6:x.types.length<=6
 ch:Cheap l ys
 rt: ∀c∈l,rightB x c=true
 st: ∀c∈l,c.set<9223372036854775808
 ok:ChOk x.orders.length x (fstF x.orders.length ys) (skF x x.orders.length)
 sk: ∀k,k<x.orders.length->(nth x.orders k).off=false->(0<=(nth x.orders k).penalty↔0<=skpF x k)/\(0<=skpF x k->skpF x k=skR x k)
theorem xK : ∀S:Fin 16,0<S.val-> ∀k:Fin 4,(KH S.val=(k.val:Int)↔(S.val.testBit k.val=true/\ ∀i:Fin 4,i.val<k.val->S.val.testBit i.val=false)):=by decide+kernel
theorem NP {S n k:Nat} (hS:0<S) (h:S<2^n) (hn:n<=4) (hk:k<n):KH S=(k:Int)↔(S.testBit k=true/\ ∀i,i<n->S.testBit i=true->k<=i):=by
 have h16:S<16:=U9 h (YD (n:=2) Za hn);rw [show KH S=(k:Int)↔_ from xK ⟨S,h16⟩ hS ⟨k,Za⟩];refine and_congr_right fun _=>⟨fun g i hi hb=> ?_,fun g i hi=> ?_⟩
 ·rcases Wr i k with h1 | h1
  ·have:=g ⟨i,Za⟩ h1
   grind
  ·exact h1
 grind
theorem Ctx.set {x:Inst} {l ys:List Col} (h:Ctx x l ys) {c:Col} (hc:c∈l):c.set=(c.set.toNat:Int)/\0<c.set.toNat/\c.set.toNat<2^x.orders.length/\ ∀i,c.set.toNat.testBit i=true->i<x.orders.length/\(nth x.orders i).off=false:=by
 obtain ⟨S,h1,h2,h3,h4⟩:=Je (h.rt c hc) (h.st c hc)
 grind
theorem Ctx.typ {x:Inst} {l ys:List Col} (h:Ctx x l ys) {c:Col} (hc:c∈l):(0<=c.typ/\c.typ<x.types.length)/\0<=c.price:=by
 have:=h.rt c hc;simp only [rightB,Zs,Zp] at this;omega
structure Nd (x:Inst) (l:List Col) (a:List Int) (s:St) (k:Nat):Prop where
 len:a.length=x.orders.length
 ix:s.ix=k
 v:StV x.orders.length s
 cov: ∀i,i<x.orders.length->s.cov.toNat.testBit i=decide (0<=nth a i)
 rng: ∀i,i<x.orders.length-> -1<=nth a i/\nth a i<l.length
 used: ∀T:Nat,T<6->nth s.used T=usdI l a T x.orders.length
 grp: ∀i,i<x.orders.length->0<=nth a i-> ∀t,t<x.orders.length->(nth l (nth a i).toNat).set.toNat.testBit t=true->nth a t=nth a i
 old: ∀i,i<x.orders.length->k<=i->0<=nth a i-> ∃t,t<k/\(nth l (nth a i).toNat).set.toNat.testBit t=true
 own: ∀i,i<x.orders.length->0<=nth a i->(nth l (nth a i).toNat).set.toNat.testBit i=true
def Fc (s:St):St:= { s with ix:=s.ix+1 }
def Kr (s:St) (c:Col):St:=⟨s.ix+1,((s.cov.toNat|||c.set.toNat:Nat):Int),s.used.set c.typ.toNat (nth s.used c.typ.toNat+1)⟩
theorem Nd.skip {x:Inst} {l:List Col} {a:List Int} {s:St} {k:Nat} (h:Nd x l a s k) (hk:k<x.orders.length) (ho:0<=nth a k-> ∃t,t<k/\(nth l (nth a k).toNat).set.toNat.testBit t=true):Nd x l a (Fc s) (k+1) :=
 ⟨h.len,by simp only [Fc,h.ix];omega,⟨h.v.len,by have:=h.ix;simp only [Fc];omega,h.v.cov,h.v.used⟩,h.cov,h.rng,h.used,h.grp,fun i hi hki h0=>by
  obtain ⟨t,h1,h2⟩:=h.old i hi Za h0
  grind,h.own⟩
theorem Nd.skip' {x:Inst} {l:List Col} {a:List Int} {s:St} {k:Nat} (h:Nd x l a s k) (hk:k<x.orders.length):Nd x l a (Fc s) (k+1):=h.skip hk fun h0=>h.old k hk (Zw _) h0
theorem Og {x:Inst} {l ys:List Col} (hc:Ctx x l ys) {a:List Int} {s:St} {k j:Nat} (h:Nd x l a s k) (hk:k<x.orders.length) (hj:j<l.length):BZ x l a j k=true↔(Yk x s (nth l j)=true/\KH (nth l j).set.toNat=(k:Int)):=by
 obtain ⟨hS,hS0,hS1,hS2⟩:=hc.set (Z0 hj);obtain ⟨⟨ht0,ht1⟩,_⟩:=hc.typ (Z0 hj);have ht6:=hc.t6;have hu:=h.used (nth l j).typ.toNat Za;rw [show (((nth l j).typ.toNat:Nat):Int)=(nth l j).typ by omega] at hu;rw [NP hS0 hS1 hc.n4 hk];simp only [BZ,Yk,C3,Zs,Zp,Ds,h.len,hu]
 constructor
 ·rintro ⟨h1,h2,h3⟩;refine ⟨⟨Dj fun i=> ?_,h2⟩,h1,fun i hi hb=>(h3 i hi hb).2⟩;rw [Nat.testBit_and,Nat.zero_testBit]
  cases hb:(nth l j).set.toNat.testBit i with
  | false=>simp
  | true =>
   have hi:=(hS2 i hb).1;rw [h.cov i hi,UM,XQ]
   grind
 ·rintro ⟨⟨h1,h2⟩,h3,h4⟩;refine ⟨h3,h2,fun i hi hb=>⟨?_,h4 i hi hb⟩⟩;have:=ZC (fun z=>z.testBit i) h1;simp only [Nat.testBit_and,Nat.zero_testBit,hb,UM] at this;rw [h.cov i hi,XQ] at this;omega
theorem GL {x:Inst} {l:List Col} {a:List Int} {k:Nat} {S:Nat} {j:Nat} (hl:a.length=x.orders.length) (hk:k<x.orders.length) (hb:S.testBit k=true) (hneg: ∀i,i<x.orders.length->S.testBit i=true->nth a i<0/\k<=i) (hfr: ∀i,i<x.orders.length->S.testBit i=false->nth a i≠(j:Int)) (T:Int) :
  ∀m,m<=x.orders.length->usdI l (V9 S a j) T m=usdI l a T m+(if k<m/\(nth l j).typ=T then 1 else 0)
 | 0,_=>by simp [usdI]
 | i+1,hm=>by
  have hi:i<a.length:=Za
  rw [usdI,usdI,GL hl hk hb hneg hfr T i Za];have ZJ: ∀t,t<i->nth (V9 S a j) t=if S.testBit t=true then (j:Int) else nth a t:=fun t ht=>Xl Za
  cases hs:S.testBit i with
  | false =>
   have e:CG l (V9 S a j) T i=CG l a T i:=by
    rw [CG,CG,Xl hi,hs,if_neg Zb]
    by_cases h0:0<=nth a i
    ·have ef:kV (V9 S a j) i=kV a i:=by
      rw [W1,AR,AR,Xl hi,hs,if_neg Zb]
      grind
     rw [ef]
    ·simp [h0]
   grind
  | true =>
   obtain ⟨hn,hki⟩:=hneg i Za hs
   have e2:CG l a T i=false:=by
    simp_all [CG,Ut]
   have e1:CG l (V9 S a j) T i=(decide ((nth l j).typ=T)&&decide (k=i)):=by
    rw [CG,Xl hi,hs,if_pos rfl,Qe Za,VN,Xn]
    congr 1
    rw [W1,AR,Xl hi,hs,if_pos rfl,Zp]
    grind
   grind
theorem Nd.child {x:Inst} {l ys:List Col} (hc:Ctx x l ys) {a:List Int} {s:St} {k j:Nat} (h:Nd x l a s k) (hk:k<x.orders.length) (hj:j<l.length) (hcan:BZ x l a j k=true):Nd x l (V9 (nth l j).set.toNat a j) (Kr s (nth l j)) (k+1):=by
 obtain ⟨hS,hS0,hS1,hS2⟩:=hc.set (Z0 hj);obtain ⟨⟨ht0,ht1⟩,_⟩:=hc.typ (Z0 hj);have ht6:=hc.t6;have hl6:s.used.length=6:=h.v.len;have hu:=h.used (nth l j).typ.toNat Za;rw [show (((nth l j).typ.toNat:Nat):Int)=(nth l j).typ by omega] at hu;have hcan':=hcan;simp only [BZ,Zs,Zp,Ds,h.len] at hcan';obtain ⟨hb,hcnt,hneg⟩:=hcan';rw [<- hu] at hcnt;have hcount:=hc.ok.typ.2 (nth l j).typ.toNat Za;have hak:=(hneg k hk hb).1
 have hfr: ∀i,i<x.orders.length->(nth l j).set.toNat.testBit i=false->nth a i≠(j:Int):=fun i hi _ e=>by
  have:=h.grp i hi Za k hk (by grind [Xn]);omega
 obtain ⟨C,hC,hC2⟩:=h.v.cov;have hS10:(nth l j).set.toNat<1024:=U9 hS1 (YD (n:=2) Za (show x.orders.length<=10 by have:=hc.n4;omega));refine ⟨by rw [QD];exact h.len,by simp only [Kr,h.ix];omega,⟨by simp only [StR,Kr,Kl];exact hl6,by have:=h.ix;simp only [Kr];omega,⟨_,rfl,?_⟩,fun t ht=> ?_⟩,fun i hi=> ?_,fun i hi=> ?_,fun T hT=> ?_,fun i hi h0 t ht hbt=> ?_,fun i hi hki h0=> ?_,fun i hi h0=> ?_⟩
 ·rw [hC,Xn];exact Qa (n:=10) hC2 hS10
 ·simp only [Kr];rw [Ex Za]
  split
  ·omega
  ·exact h.v.used t ht
 ·simp only [Kr,Xn];rw [Kn,h.cov i hi,Xl (by rw [h.len];exact hi)]
  grind
 ·rw [Xl (by rw [h.len];exact hi)]
  split
  ·omega
  ·exact h.rng i hi
 ·simp only [Kr];rw [Ex Za,GL h.len hk hb hneg hfr T _ (Zw _),h.used T hT]
  grind
 ·rw [Xl (i:=i) (by rw [h.len];exact hi)] at h0 hbt ⊢;rw [Xl (i:=t) (by rw [h.len];exact ht)]
  cases hbi:(nth l j).set.toNat.testBit i with
  | true =>
   rw [hbi,if_pos rfl,Xn] at hbt
   grind
  | false =>
   rw [hbi,if_neg Zb] at h0 hbt;have e:=h.grp i hi h0 t ht hbt
   grind
 ·rw [Xl (by rw [h.len];exact hi)] at h0 ⊢
  cases hbi:(nth l j).set.toNat.testBit i with
  | true =>
   rw [if_pos rfl,Xn]
   grind
  | false =>
   rw [hbi,if_neg Zb] at h0;rw [if_neg Zb];obtain ⟨t,h1,h2⟩:=h.old i hi Za h0
   grind
 ·rw [Xl (by rw [h.len];exact hi)] at h0 ⊢
  cases hbi:(nth l j).set.toNat.testBit i with
  | true=>rw [if_pos rfl,Xn];exact hbi
  | false =>
   rw [hbi,if_neg Zb] at h0;rw [if_neg Zb];exact h.own i hi h0
def Lx (x:Inst) (ys:List Col) (D:Nat) (s:St):Int:=YV x.orders.length (mI x) x (fstF x.orders.length ys) (skF x x.orders.length) D (WT x.orders.length (mI x) s)
theorem S0 {x:Inst} {ys:List Col} {D:Nat} {s:St} (h:s.ix=x.orders.length):Lx x ys D s=0:=by
 unfold Lx
 cases D with
 | zero=>rfl
 | succ D =>
  simp_all [YV,WT,BI]
theorem Cw {n:Nat} {m:Int} {s:St} {k:Nat} (hk:s.ix=k) (hkn:k<n) (hc:sHas m k=false\/sHas s.cov k=true):WT n m s=WT n m (Fc s):=by
 simp_all [WT,Fc,Dx]
theorem Cx {n:Nat} {m:Int} {s:St} {k:Nat} (hk:s.ix=k) (h1:sHas m k=true) (h2:sHas s.cov k=false):WT n m s=s:=by
 obtain ⟨i,v,u⟩:=s
 simp_all [WT,Cy]
theorem E8 {n:Nat} {m:Int} {s:St} {c:Col} {k:Nat} (hk:s.ix=k) (hkn:k<n) (hn:n<=4) (hb:c.set.toNat.testBit k=true):W7 n m s c=WT n m (Kr s c):=by
 have e:=Cw (n:=n) (m:=m) (s:=⟨s.ix,((s.cov.toNat|||c.set.toNat:Nat):Int),s.used.set c.typ.toNat (nth s.used c.typ.toNat+1)⟩) (k:=k) hk hkn (.inr (by
  simp only
  rw [We _ _ Za,Kn,hb,Bool.or_true]))
 exact e
theorem JW {x:Inst} {l ys:List Col} (hc:Ctx x l ys) {k:Nat} (hk:k<x.orders.length) {c:Col} (hm:c∈XZ ys k):c∈ys/\c∈l/\KH c.set.toNat=(k:Int)/\c.set.toNat.testBit k=true:=by
 rw [XZ,Ja,Zp] at hm;have hl:=TG hc.ch hm.1;obtain ⟨_,h0,h1,_⟩:=hc.set hl;exact ⟨hm.1,hl,hm.2,((NP h0 h1 hc.n4 hk).1 hm.2).1⟩
theorem Ms {x:Inst} {l ys:List Col} (hc:Ctx x l ys) {D:Nat} (hD:10<D) {s:St} {k:Nat} (hv:StV x.orders.length s) (hk:s.ix=k) (hkn:k<x.orders.length) (ho:(nth x.orders k).off=false) (hcv:s.cov.toNat.testBit k=false) :
  Lx x ys D s=if 0<=skpF x k then YH ((XZ ys k).foldl (fun o c=>if Yk x s c=true then YH o c.price (Lx x ys D (Kr s c)) else o) (-1)) (skpF x k) (Lx x ys D (Fc s)) else (XZ ys k).foldl (fun o c=>if Yk x s c=true then YH o c.price (Lx x ys D (Kr s c)) else o) (-1):=by
 have hn:=hc.n4
 have e1:Lx x ys D s=YV x.orders.length (mI x) x (fstF x.orders.length ys) (skF x x.orders.length) (D+1) s:=by
  rw [Lx,Cx hk (by grind [Ep]) (by grind [AI])];exact Qy hc.ok _ _ s hv Za Za
 rw [e1,YV,if_neg Za]
 have e2:nth (fstF x.orders.length ys) s.ix.toNat=XZ ys k:=by simp_all [Lt]
 have e3:nth (skF x x.orders.length) s.ix.toNat=skpF x k:=by grind [skF,Zg]
 have e4:(XZ ys k).foldl (fun o c=>if Yk x s c=true then YH o c.price (YV x.orders.length (mI x) x (fstF x.orders.length ys) (skF x x.orders.length) D (W7 x.orders.length (mI x) s c)) else o) (-1)=(XZ ys k).foldl (fun o c=>if Yk x s c=true then YH o c.price (Lx x ys D (Kr s c)) else o) (-1) :=
  QV fun c hm o=>by rw [E8 hk hkn hn (JW hc hkn hm).2.2.2];rfl
 simp only [e2,e3,e4]
 rfl
def JY (x:Inst) (ys:List Col) (D:Nat) (s:St) (c:Col):Bool:=Yk x s c&&(decide (0<=Lx x ys D (Kr s c))&&decide (c.price+Lx x ys D (Kr s c)=Lx x ys D s))
noncomputable def Aj (l:List Col) (d:Col):Nat:=open Classical in if h:Bst l l.length d then h.choose else 0
theorem Pb {l:List Col} {d:Col} (h:Bst l l.length d):Aj l d<l.length/\nth l (Aj l d)=d/\ ∀i,i<l.length->kd (nth l i)=kd d->d.price<(nth l i).price\/(d.price=(nth l i).price/\Aj l d<=i):=by
 have e:Aj l d=h.choose:=by rw [Aj,dif_pos h]
 grind
noncomputable def gr (x:Inst) (l ys:List Col) (D:Nat):Nat->Nat->St->List Int->List Int
 | 0,_,_,a=>a
 | d+1,k,s,a=>if (nth x.orders k).off=true\/0<=nth a k then gr x l ys D d (k+1) (Fc s) a else
  match (XZ ys k).find? (JY x ys D s) with
  | some c=>gr x l ys D d (k+1) (Kr s c) (V9 c.set.toNat a (Aj l c))
  | none=>gr x l ys D d (k+1) (Fc s) a
theorem Jb {x:Inst} {l ys:List Col} (hc:Ctx x l ys) {a:List Int} {s:St} {k:Nat} (h:Nd x l a s k) (hk:k<x.orders.length) {c:Col} (hm:c∈XZ ys k) (hy:Yk x s c=true):Aj l c<l.length/\nth l (Aj l c)=c/\BZ x l a (Aj l c) k=true:=by
 obtain ⟨h1,h2,h3,h4⟩:=JW hc hk hm;obtain ⟨p1,p2,_⟩:=Pb (hc.ch.bst c h1)
 grind [Og]
theorem AG {x:Inst} {l:List Col} {a:List Int} {k j:Nat} (hl:a.length=x.orders.length) (hcan:BZ x l a j k=true):(nth l j).set.toNat.testBit k=true/\ ∀t,t<x.orders.length->(t<k\/0<=nth a t)->nth (V9 (nth l j).set.toNat a j) t=nth a t:=by
 simp only [BZ,Zs,Ds,hl] at hcan
 grind [Xl]
theorem B6 {x:Inst} {l ys:List Col} (hc:Ctx x l ys) {D:Nat} : ∀(d k:Nat) (s:St) (a:List Int),k+d=x.orders.length->Nd x l a s k->(gr x l ys D d k s a).length=x.orders.length/\ ∀t,t<x.orders.length->(t<k\/0<=nth a t)->nth (gr x l ys D d k s a) t=nth a t
 | 0,k,s,a,_,h=>⟨h.len,fun _ _ _=>rfl⟩
 | d+1,k,s,a,hd,h=>by
  have hk:k<x.orders.length:=Za
  rw [gr];have skip:=B6 hc (D:=D) d (k+1) (Fc s) a Za (h.skip' hk)
  split
  ·grind
  ·split
   ·rename_i c hf;have hsel:=Q5 hf;simp only [JY,Zs] at hsel;obtain ⟨p1,p2,p3⟩:=Jb hc h hk (U7 hf) hsel.1;have hch:=h.child hc hk p1 p3;rw [p2] at hch;have ho:=(AG h.len p3).2;rw [p2] at ho;obtain ⟨g1,g2⟩:=B6 hc (D:=D) d (k+1) (Kr s c) _ Za hch;refine ⟨g1,fun t ht hh=> ?_⟩
    rw [g2 t ht (by
     rcases hh with h1 | h1
     ·left;omega
     ·right;rw [ho t ht (.inr h1)];exact h1),ho t ht hh]
   grind
theorem Be {x:Inst} {l:List Col} : ∀(d:Nat) (a:List Int) (p:Int),d<=x.orders.length->a.length=x.orders.length-> ∀q∈Aw x l d a p,q.1.length=x.orders.length/\ ∀t,t<x.orders.length->(t<x.orders.length-d\/0<=nth a t)->nth q.1 t=nth a t
 | 0,a,p,_,h,q,hq=>by
  simp only [Aw,Z4,W0,Wl] at hq
  grind
 | d+1,a,p,hd,h,q,hq=>by
  rw [Aw] at hq
  split at hq
  ·obtain ⟨g1,g2⟩:=Be d a p Za h q hq;exact ⟨g1,fun t ht hh=>g2 t ht (hh.imp Za id)⟩
  ·rw [Z5,XS] at hq;rcases hq with ⟨j,hj,hq⟩ | hq
   ·split at hq
    ·rename_i hcan;have ho:=(AG h hcan).2;obtain ⟨g1,g2⟩:=Be d _ _ Za (by rw [QD];exact h) q hq;refine ⟨g1,fun t ht hh=> ?_⟩
     rw [g2 t ht (by
      rcases hh with h1 | h1
      ·left;omega
      ·right;rw [ho t ht (.inr h1)];exact h1),ho t ht hh]
    ·simp at hq
   ·split at hq
    ·obtain ⟨g1,g2⟩:=Be d a _ Za h q hq;exact ⟨g1,fun t ht hh=>g2 t ht (hh.imp Za id)⟩
    ·simp at hq
theorem KE.refl {n:Nat} {l:List Col} {a:List Int} :KE n l a a:=fun _ _=>⟨rfl,Yr _⟩
theorem xH {l:List Col} {a:Int} (h:a<0):ky l a=(1,0,0):=if_pos h
theorem Hv {l:List Col} {a:Int} (h:0<=a):ky l a=(0,(nth l a.toNat).typ,(nth l a.toNat).set):=if_neg Za
theorem Zfa {l:List Col} {i j:Nat} :ky l (i:Int)=ky l (j:Int)↔kd (nth l i)=kd (nth l j):=by
 grind [Hv,kd]
theorem aR {x:Inst} {s:St} {r:Col->Int} {ls:List Col} (hp: ∀c∈ls,0<=c.price) (hr: ∀c∈ls,Yk x s c=true-> -1<=r c) {c:Col} (hc:c∈ls) (hy:Yk x s c=true) (h0:0<=r c) :
  SV (ls.foldl (fun o c=>if Yk x s c=true then YH o c.price (r c) else o) (-1)) (c.price+r c):=by
 have e:=QV (f:=fun o c=>if Yk x s c=true then YH o c.price (r c) else o) (g:=fun o c=>if Yk x s c=true then YH o c.price (max (-1) (r c)) else o) (l:=ls) (b:=(-1:Int)) fun c hc o=>by
  grind
 rw [e];have:=(OB (x:=x) (s:=s) (r:=fun c=>max (-1) (r c)) (fun c=>Za) (l:=ls) (a:= -1) hp).2 c hc hy Za
 grind
theorem Mt {x:Inst} {l ys:List Col} (hc:Ctx x l ys) {D:Nat} {s:St} (hv:StV x.orders.length s): -1<=Lx x ys D s:=(Vz (m:=mI x) hc.ok D _ (H9 hv).1).1
theorem Oe {o p r:Int} (hr: -1<=r) (hp:0<=p):SV (YH o p r) o/\(0<=r->SV (YH o p r) (p+r)):=by
 grind [SV,YH]
theorem qE {x:Inst} {l ys:List Col} (hc:Ctx x l ys) {D:Nat} (hD:10<D) {a:List Int} {s:St} {k:Nat} (h:Nd x l a s k) (hk:k<x.orders.length) (ho:(nth x.orders k).off=false) (hak:nth a k<0) {c:Col} (hm:c∈XZ ys k) (hy:Yk x s c=true) (h0:0<=Lx x ys D (Kr s c)) :
  SV (Lx x ys D s) (c.price+Lx x ys D (Kr s c)):=by
 have hcv:s.cov.toNat.testBit k=false:=by rw [h.cov k hk];grind
 rw [Ms hc hD h.v h.ix hk ho hcv]
 have nd: ∀e∈XZ ys k,Yk x s e=true->StV x.orders.length (Kr s e):=fun e he hye=>by
  obtain ⟨p1,p2,p3⟩:=Jb hc h hk he hye;have:=(h.child hc hk p1 p3).v
  grind
 have low:=aR (x:=x) (s:=s) (r:=fun c=>Lx x ys D (Kr s c)) (ls:=XZ ys k) (fun e he=>(hc.typ (JW hc hk he).2.1).2) (fun e he hye=>Mt hc (nd e he hye)) hm hy h0
 split
 ·rename_i hs;have b:=(Oe (o:=(XZ ys k).foldl (fun o c=>if Yk x s c=true then YH o c.price (Lx x ys D (Kr s c)) else o) (-1)) (Mt hc (D:=D) (h.skip' hk).v) hs).1
  grind [SV]
 ·exact low
theorem iA {x:Inst} {l ys:List Col} (hc:Ctx x l ys) {D:Nat} (hD:10<D) {a:List Int} {s:St} {k:Nat} (h:Nd x l a s k) (hk:k<x.orders.length) (ho:(nth x.orders k).off=false) (hak:nth a k<0) (hs:0<=skpF x k) (h0:0<=Lx x ys D (Fc s)) :
  SV (Lx x ys D s) (skpF x k+Lx x ys D (Fc s)):=by
 have hcv:s.cov.toNat.testBit k=false:=by rw [h.cov k hk];grind
 rw [Ms hc hD h.v h.ix hk ho hcv,if_pos hs]
 grind [Oe]
theorem NW {x:Inst} {l ys:List Col} (hc:Ctx x l ys) {D:Nat} {a:List Int} {s:St} {k:Nat} (h:Nd x l a s k) (hk:k<x.orders.length) (ho:(nth x.orders k).off=true\/0<=nth a k):Lx x ys D s=Lx x ys D (Fc s):=by
 unfold Lx;rw [Cw h.ix hk (ho.imp (fun e=>by rw [Ep hc.n4 hk,e];rfl) fun e=>by rw [AI h.v (by have:=hc.n4;omega),h.cov k hk];grind)]
theorem AS {x:Inst} {l ys:List Col} (hc:Ctx x l ys) {D:Nat} (hD:10<D): ∀(d k:Nat) (s:St) (a b:List Int) (p:Int),k+d=x.orders.length->Nd x l a s k->Nd x l b s k->KE x.orders.length l a b-> ∀q∈Aw x l d b p,
  0<=Lx x ys D s/\p+Lx x ys D s<=q.2/\(q.2=p+Lx x ys D s->KL x.orders.length l (gr x l ys D d k s a) q.1)
 | 0,k,s,a,b,p,hd,ha,hb,he,q,hq=>by
  simp only [Aw,Z4,W0,Wl] at hq;subst hq;rw [S0 (by rw [ha.ix];omega)];exact ⟨Za,Zb,fun _=> .inr he⟩
 | d+1,k,s,a,b,p,hd,ha,hb,he,q,hq=>by
  have hk:k<x.orders.length:=Za
  have hkd:x.orders.length-(d+1)=k:=Za
  have hneg: ∀t,t<x.orders.length->(0<=nth a t↔0<=nth b t):=fun t ht=>by
   have h1:=ha.cov t ht;rw [hb.cov t ht,decide_eq_decide] at h1;exact h1.symm
  rw [Aw,hkd] at hq;rw [gr]
  split at hq
  ·rename_i ho;have ho':(nth x.orders k).off=true\/0<=nth a k:=ho.imp id (hneg k hk).2;rw [if_pos ho',NW hc ha hk ho'];exact AS hc hD d (k+1) (Fc s) a b p Za (ha.skip' hk) (hb.skip' hk) he q hq
  ·rename_i ho;have ho': ¬((nth x.orders k).off=true\/0<=nth a k):=fun g=>ho (g.imp id (hneg k hk).1);rw [if_neg ho']
   have hoff:(nth x.orders k).off=false:=by
    grind
   have hbk:nth b k<0:=Int.not_le.1 fun g=>ho (.inr g);have hak:nth a k<0:=Int.not_le.1 fun g=>ho' (.inr g)
   -- what was picked stands at k
   have hpick: ∀c,(XZ ys k).find? (JY x ys D s)=some c->Yk x s c=true/\c∈ys/\(∀t,t<k->nth (gr x l ys D d (k+1) (Kr s c) (V9 c.set.toNat a (Aj l c))) t=nth a t)/\nth (gr x l ys D d (k+1) (Kr s c) (V9 c.set.toNat a (Aj l c))) k=Aj l c/\nth l (Aj l c)=c:=fun c hf=>by
    have hsel:=Q5 hf;simp only [JY,Zs] at hsel;obtain ⟨p1,p2,p3⟩:=Jb hc ha hk (U7 hf) hsel.1;have hch:=ha.child hc hk p1 p3;obtain ⟨c1,c2⟩:=AG ha.len p3;rw [p2] at hch c1 c2;have g2:=(B6 hc (D:=D) d (k+1) (Kr s c) _ Za hch).2;refine ⟨hsel.1,(JW hc hk (U7 hf)).1,fun t ht=> ?_,?_,p2⟩
    ·grind
    ·rw [g2 k hk (.inl Za),Xl (by rw [ha.len];exact hk),if_pos c1]
   rw [Z5,XS] at hq;rcases hq with ⟨j,hj,hq⟩ | hq
   ·have hj:=ZO.1 hj
    split at hq
    ·rename_i hcan;obtain ⟨hy,htz⟩:=(Og hc hb hk hj).1 hcan;have hjl:=Z0 hj;obtain ⟨d',hd',hkd',hpr⟩:=TH hc.ch hjl
     have hst:d'.set=(nth l j).set/\d'.typ=(nth l j).typ:=by
      grind [kd]
     have hm:d'∈XZ ys k:=by
      simp_all [XZ]
     have hy':Yk x s d'=true:=by grind [Yk]
     have hnx:Kr s d'=Kr s (nth l j):=by grind [Kr]
     have hcb:=hb.child hc hk hj hcan;obtain ⟨cb1,cb2⟩:=AG hb.len hcan;have hqo:=(Be d _ _ Za (by rw [QD];exact hb.len) q hq).2
     have hqt: ∀t,t<k->nth q.1 t=nth b t:=fun t ht=>by rw [hqo t Za (.inl Za),cb2 t Za (.inl ht)]
     have hqk:nth q.1 k=j:=by rw [hqo k hk (.inl Za),Xl (by rw [hb.len];exact hk),if_pos cb1]
     obtain ⟨i1,i2,_⟩:=AS hc hD d (k+1) _ _ _ _ Za hcb hcb KE.refl q hq;rw [<- hnx] at i1 i2;have hle:=qE hc hD ha hk hoff hak hm hy' i1;have hp0:=(hc.typ (JW hc hk hm).2.1).2
     have hL0:0<=Lx x ys D s/\Lx x ys D s<=d'.price+Lx x ys D (Kr s d'):=by
      rcases hle with h | h
      ·-- the least price would be lacking: not so, azs the column leads on
       omega
      ·exact h
     refine ⟨hL0.1,Za,fun hqc=> ?_⟩
     have hpe:d'.price=(nth l j).price:=Za
     have hLe:d'.price+Lx x ys D (Kr s d')=Lx x ys D s:=Za
     have hsel:JY x ys D s d'=true:=by simp_all [JY]
     have hpos:=Pb (hc.ch.bst d' hd')
     have hpj:Aj l d'<=j:=by
      rcases hpos.2.2 j hj hkd'.symm with h | h
      ·omega
      ·exact h.2
     cases hf:(XZ ys k).find? (JY x ys D s) with
     | none=>rw [Af] at hf;simp_all
     | some c =>
      obtain ⟨k1,k2,k3,k4,k5⟩:=hpick c hf;simp only
      by_cases hcd:c=d'
      ·subst hcd;obtain ⟨p1,p2,p3⟩:=Jb hc ha hk hm hy';have hca:=ha.child hc hk p1 p3;rw [p2] at hca;rw [<- hnx] at hcb;refine (AS hc hD d (k+1) _ _ _ _ Za hca hcb (fun t ht=> ?_) q hq).2.2 Za;rw [hst.1,Xl (by rw [ha.len];exact ht),Xl (by rw [hb.len];exact ht)]
       cases hbt:(nth l j).set.toNat.testBit t with
       | true =>
        rw [if_pos rfl,if_pos rfl,Zfa,p2]
        grind
       | false =>
        rw [if_neg Zb,if_neg Zb];exact he t ht
      ·-- an earlier kind
       have hlt:cfK c d'<0:=by
        have hpw:(XZ ys k).Pairwise fun a b=>cfK a b<0:=hc.ch.asc.filter _;obtain ⟨_,u,w,hab,hno⟩:=List.find?_eq_some_iff_append.1 hf;rw [hab] at hpw hm;rw [Di,List.pairwise_cons] at hpw;rcases Z5.1 hm with h | h
        ·have:=hno d' h
         grind
        ·rcases Z4.1 h with h | h
         ·grind
         ·exact hpw.2.1.1 d' h
       rw [DT] at hlt;refine .inl ⟨k,hk,fun t ht=> ?_,?_⟩
       ·rw [k3 t ht,hqt t ht];exact (he t Za).1
       ·rw [k4,hqk,Hv Za,Hv Za,Xn,Xn,k5]
        right
        grind
    ·simp at hq
   ·split at hq
    ·rename_i hpen;obtain ⟨s1,s2⟩:=hc.sk k hk hoff;have hs0:=s1.1 hpen;have hse:=s2 hs0;rw [<- hse] at hq;have hqo:=(Be d _ _ Za hb.len q hq).2;obtain ⟨i1,i2,i3⟩:=AS hc hD d (k+1) (Fc s) a b _ Za (ha.skip' hk) (hb.skip' hk) he q hq;have hle:=iA hc hD ha hk hoff hak hs0 i1;have hrg:=Mt hc (D:=D) ha.v
     have hL0:0<=Lx x ys D s/\Lx x ys D s<=skpF x k+Lx x ys D (Fc s):=by
      rcases hle with h | h
      ·omega
      ·exact h
     refine ⟨hL0.1,Za,fun hqc=> ?_⟩
     cases hf:(XZ ys k).find? (JY x ys D s) with
     | none=>grind
     | some c =>
      obtain ⟨k1,k2,k3,k4,k5⟩:=hpick c hf;simp only;refine .inl ⟨k,hk,fun t ht=> ?_,?_⟩
      ·rw [k3 t ht,hqo t Za (.inl Za)];exact (he t Za).1
      ·rw [k4,hqo k hk (.inl Za),Hv Za,xH hbk]
       left;omega
    ·simp at hq
theorem gD {x:Inst} {S:Nat} (hn:x.orders.length<=4) (hS:S<9223372036854775808):NT S (X6 x x.orders.length)=(decide (S<2^x.orders.length)&&(List.range x.orders.length).all fun i=> !(S.testBit i&&(nth x.orders i).off)):=by
 rw [W1,Zs,Zp,NT,ZH,ZH]
 constructor
 ·intro h
  have key: ∀i,S.testBit i=true->i<x.orders.length/\(nth x.orders i).off=false:=fun i hi=>by
   have h63:i<63:=by
    rcases Wr i 63 with h | h
    ·exact h
    ·have:2^63<=2^i:=YD Za h
     grind [Cd]
   grind [Ue]
  refine ⟨Nat.lt_pow_two_of_testBit _ fun i hi=> ?_,fun i _=> ?_⟩
  ·grind
  grind
 ·rintro ⟨h1,h2⟩ i _
  cases hb:S.testBit i with
  | false=>rfl
  | true =>
   have hi:i<x.orders.length:=by
    rcases Wr i x.orders.length with h | h
    ·exact h
    ·have:2^x.orders.length<=2^i:=YD Za h
     grind [Cd]
   have:=h2 i (ZO.2 hi)
   simp_all [Ue]
def zCh : Chc:=⟨false,[],0⟩
def GW (x:Inst) (l:List Col):Chc:=(Aw x l x.orders.length (List.replicate x.orders.length (-1)) 0).foldl (UG l) zCh
def hU (x:Inst) (l:List Col) (b:Chc) (e:Int):Prop:=(8192<l.length/\b=zCh/\e=4)\/(l.length<=8192/\(∃c∈l,rightB x c=false)/\b=zCh/\e=2) \/
 (l.length<=8192/\(∀c∈l,rightB x c=true)/\(((GW x l).found=false/\b=zCh/\e=24)\/((GW x l).found=true/\b=GW x l/\e=0)))
theorem HI {n i:Nat} (h:i<n):nth (List.replicate n (-1:Int)) i= -1:=by
 grind [Zg]
theorem bV {l:List Col} {x y:Int} (hx: -1<=x) (hy: -1<=y) (h:ky l x=ky l y):(x<0->x=y)/\(y<0->x=y)/\(0<=x->0<=y/\(nth l x.toNat).typ=(nth l y.toNat).typ/\(nth l x.toNat).set=(nth l y.toNat).set):=by
 unfold ky at h
 grind
theorem BX {l:List Col} : ∀ {a b:List Int},a.length=b.length->(∀t,t<a.length-> -1<=nth a t/\ -1<=nth b t/\ky l (nth a t)=ky l (nth b t))->Aa l a b=none
 | [],[],_,_=>Ty
 | [],_::_,h,_=>by simp at h
 | _::_,[],h,_=>by simp at h
 | x::a,y::b,hl,h=>by
  have ih:=BX (l:=l) (a:=a) (b:=b) (by grind) fun t ht=>h (t+1) (by grind);obtain ⟨h1,h2,h3⟩:=h 0 Zb;obtain ⟨k1,k2,k3⟩:=bV (show-1<=x from h1) (show-1<=y from h2) h3;rw [Aa]
  grind
theorem Ob {l:List Col} : ∀ {a b:List Int} {i:Nat},a.length=b.length->i<a.length->(∀t,t<a.length-> -1<=nth a t/\ -1<=nth b t)->(∀t,t<i->ky l (nth a t)=ky l (nth b t))->bU (ky l (nth a i)) (ky l (nth b i))->Aa l a b=some true/\Aa l b a=some false
 | [],_,_,_,h,_,_,_=>by simp at h
 | _::_,[],_,h,_,_,_,_=>by simp at h
 | x::a,y::b,0,_,_,hr,_,h=>by
  obtain ⟨h1,h2⟩:=hr 0 Zb;have h':bU (ky l x) (ky l y):=h
  have hne:x≠y:=fun e=>by grind [bU]
  rw [Aa,Aa,if_neg hne,if_neg (Ne.symm hne)];unfold ky bU at h'
  grind
 | x::a,y::b,i+1,hl,hi,hr,he,h=>by
  have ih:=Ob (l:=l) (a:=a) (b:=b) (i:=i) (by grind) (by grind) (fun t ht=>hr (t+1) (by grind)) (fun t ht=>he (t+1) Za) h;obtain ⟨h1,h2⟩:=hr 0 Zb;have h3:ky l x=ky l y:=he 0 Za;obtain ⟨k1,k2,k3⟩:=bV (show-1<=x from h1) (show-1<=y from h2) h3;rw [Aa,Aa]
  grind
theorem Oc : ∀ {a b:List Int},a.length=b.length->(∀t,t<a.length->nth a t<=nth b t)->a=b\/(MH a b=true/\MH b a=false)
 | [],[],_,_=> .inl rfl
 | [],_::_,h,_=>by simp at h
 | _::_,[],h,_=>by simp at h
 | x::a,y::b,hl,h=>by
  have h0:x<=y:=h 0 Zb;rw [MH,MH]
  by_cases hxy:x=y
  ·subst hxy;rw [if_pos rfl,if_pos rfl];rcases Oc (a:=a) (b:=b) (by grind) (fun t ht=>h (t+1) (by grind)) with e | e
   ·grind
   grind
  grind
theorem qD {x:Inst} {l:List Col} {a b:List Int} (ha:RngA x l a) (hb:RngA x l b) (h:KL x.orders.length l a b):a=b\/(G7 l a b=true/\G7 l b a=false):=by
 have hl:a.length=b.length:=by rw [ha.1,hb.1]
 have hr: ∀t,t<a.length-> -1<=nth a t/\ -1<=nth b t:=fun t ht=>⟨(ha.2 t (by rw [<- ha.1];exact ht)).1,(hb.2 t (by rw [<- ha.1];exact ht)).1⟩;rcases h with ⟨i,hi,he,hlt⟩ | h
 ·obtain ⟨h1,h2⟩:=Ob hl (by rw [ha.1];exact hi) hr he hlt
  grind [P6]
 ·have h1:=BX (l:=l) hl fun t ht=>⟨(hr t ht).1,(hr t ht).2,(h t (by rw [<- ha.1];exact ht)).1⟩;have h2:=BX (l:=l) hl.symm fun t ht=>⟨(hr t Za).2,(hr t Za).1,((h t (by rw [<- hb.1];exact ht)).1).symm⟩;rcases Oc hl fun t ht=>(h t (by rw [<- ha.1];exact ht)).2 with e | ⟨e1,e2⟩
  ·exact .inl e
  grind [P5]
def Prf (l:List Col) (P:List Int) (W:Int) (q:List Int×Int):Prop:=W<=q.2/\(q.2=W->P=q.1\/(G7 l P q.1=true/\G7 l q.1 P=false))
theorem Mf {l:List Col} {P:List Int} {W:Int} : ∀ {L:List (List Int×Int)},(∀q∈L,Prf l P W q)->L.foldl (UG l) ⟨true,P,W⟩=⟨true,P,W⟩
 | [],_=>rfl
 | q::L,h=>by
  have e:UG l ⟨true,P,W⟩ q=⟨true,P,W⟩:=by
   obtain ⟨h1,h2⟩:=h q Zb;unfold UG
   split
   ·rename_i hc;rcases hc with hc | hc | ⟨hc,hd⟩
    ·cases hc
    ·simp only at hc;omega
    ·simp only at hc hd;rcases h2 hc with e | ⟨_,e⟩
     ·rw [<- e,hc]
     ·rw [e] at hd;cases hd
   ·rfl
  rw [Yh,e];exact Mf fun q hq=>h q (Yp _ hq)
theorem GK {l:List Col} {P:List Int} {W:Int} : ∀ {L:List (List Int×Int)} {b:Chc},(b.found=false\/Prf l P W (b.places,b.price))->(∀q∈L,Prf l P W q)->(P,W)∈L->L.foldl (UG l) b=⟨true,P,W⟩
 | [],_,_,_,hm=>by simp at hm
 | q::L,b,hb,h,hm=>by
  rw [Yh];have hq:=h q Zb;have hL: ∀q∈L,Prf l P W q:=fun q hq=>h q (Yp _ hq)
  by_cases e:q=(P,W)
  ·have:UG l b q=⟨true,P,W⟩:=by
    subst e;unfold UG
    split
    ·rfl
    ·rename_i hc;rcases hb with hb | ⟨h1,h2⟩
     ·grind
     ·simp only at h1 h2 hc
      have h3:b.price=W:=by
       omega
      rcases h2 h3 with e | ⟨e,_⟩
      ·obtain ⟨f,bp,bc⟩:=b
       grind
      grind
   grind [Mf]
  ·refine GK ?_ hL (by
    rcases Z4.1 hm with h | h
    ·exact absurd h.symm e
    ·exact h)
   unfold UG
   split
   ·exact .inr hq
   ·exact hb
theorem OE {x:Inst} {l ys:List Col} (hc:Ctx x l ys) {D:Nat} (hD:10<D): ∀(d k:Nat) (s:St) (a:List Int) (p:Int),k+d=x.orders.length->Nd x l a s k->0<=Lx x ys D s->(gr x l ys D d k s a,p+Lx x ys D s)∈Aw x l d a p
 | 0,k,s,a,p,hd,ha,h0=>by
  rw [S0 (by rw [ha.ix];omega),Int.add_zero,gr,Aw];simp
 | d+1,k,s,a,p,hd,ha,h0=>by
  have hk:k<x.orders.length:=Za
  have hkd:x.orders.length-(d+1)=k:=Za
  rw [Aw,hkd,gr]
  split
  ·rename_i ho;rw [NW hc ha hk ho] at h0 ⊢;exact OE hc hD d (k+1) _ a p Za (ha.skip' hk) h0
  ·rename_i ho
   have hoff:(nth x.orders k).off=false:=by
    cases e:(nth x.orders k).off with
    | false=>rfl
    | true=>exact absurd (.inl e) ho
   have hak:nth a k<0:=Int.not_le.1 fun g=>ho (.inr g)
   have hcv:s.cov.toNat.testBit k=false:=by rw [ha.cov k hk];exact Ut Za
   rw [Z5,XS]
   cases hf:(XZ ys k).find? (JY x ys D s) with
   | some c =>
    left
    have hsel:=Q5 hf;simp only [JY,Zs,Zp] at hsel;obtain ⟨p1,p2,p3⟩:=Jb hc ha hk (U7 hf) hsel.1;have hch:=ha.child hc hk p1 p3;rw [p2] at hch;refine ⟨Aj l c,ZO.2 p1,?_⟩;rw [if_pos p3,p2];have:=OE hc hD d (k+1) _ _ (p+c.price) Za hch hsel.2.1;rw [show p+c.price+Lx x ys D (Kr s c)=p+Lx x ys D s by omega] at this;exact this
   | none =>
    right
    rw [Af] at hf;have hdec:=Ms hc hD ha.v ha.ix hk hoff hcv;have hno: ∀c∈XZ ys k,Yk x s c=true->0<=Lx x ys D (Kr s c)->c.price+Lx x ys D (Kr s c)≠Lx x ys D s:=fun c hm hy hL e=>hf c hm (by simp only [JY,hy,Qe hL,Qe e,Bool.and_self]);obtain ⟨s1,s2⟩:=hc.sk k hk hoff;have hfold:=FX (x:=x) (s:=s) (r:=fun c=>Lx x ys D (Kr s c)) (l:=XZ ys k) (a:= -1)
    by_cases hs:0<=skpF x k
    ·rw [if_pos (s1.2 hs),<- s2 hs];rw [if_pos hs] at hdec;unfold YH at hdec
     split at hdec
     ·rename_i hb;have:=OE hc hD d (k+1) _ a (p+skpF x k) Za (ha.skip' hk) hb.1;rw [show p+skpF x k+Lx x ys D (Fc s)=p+Lx x ys D s by omega] at this;exact this
     ·exfalso;rcases hfold with e | ⟨c,h1,h2,h3,h4⟩
      ·unfold YH at e;omega
      ·exact hno c h1 h2 h3 (by rw [hdec];exact h4.symm)
    ·exfalso;rw [if_neg hs] at hdec;rcases hfold with e | ⟨c,h1,h2,h3,h4⟩
     ·omega
     ·exact hno c h1 h2 h3 (by rw [hdec];exact h4.symm)
def hJ (l:List Col) (g:List Int) (T:Nat):Nat->List Col
 | 0=> []
 | i+1=>hJ l g T i++(if 0<=nth g i/\(nth l (nth g i).toNat).typ=T/\(nth l (nth g i).toNat).set%(pw i:Nat)=0 then [nth l (nth g i).toNat] else [])
def eU (l:List Col) (g:List Int) (n:Nat):Nat->List Col
 | 0=> []
 | T+1=>eU l g n T++hJ l g T n
def unI (x:Inst) (g:List Int):Nat->List Int
 | 0=> []
 | i+1=>unI x g i++(if nth g i<0/\(nth x.orders i).off=false then [(i:Int)] else [])
theorem Pg {l:List Col} {g:List Int} {T:Nat} : ∀k,(hJ l g T k).length<=k
 | 0=>Zw _
 | k+1=>by
  have:=Pg (l:=l) (g:=g) (T:=T) k;rw [hJ,Zy];split<;>simp<;>omega
theorem Pi {l:List Col} {g:List Int} {n:Nat} : ∀T,(eU l g n T).length<=T*n
 | 0=>by simp [eU]
 | T+1=>by
  have:=Pi (l:=l) (g:=g) (n:=n) T;have:=Pg (l:=l) (g:=g) (T:=T) n;rw [eU,Zy,Xo];omega
theorem Pz {x:Inst} {g:List Int} : ∀k,(unI x g k).length<=k
 | 0=>Zw _
 | k+1=>by
  have:=Pz (x:=x) (g:=g) k;rw [unI,Zy];split<;>simp<;>omega
def qC (x:Inst) (l:List Col) (p:Pln) (c e:Int):Prop:= ∃b,hU x l b e/\(e≠0->p=zPlC/\c=0)/\(e=0->c=b.price/\p=⟨false,(eU l b.places b.places.length x.types.length).map (·.route),false,unI x b.places b.places.length⟩)
theorem D5 {α:Type} {p q:α->Bool} : ∀ {l:List α},(∀a∈l,p a=q a)->l.find? p=l.find? q
 | [],_=>rfl
 | a::l,h=>by
  rw [List.find?_cons,List.find?_cons,h a Zb,D5 fun a ha=>h a (Yp _ ha)]
def RA (l:List Col) (g:List Int):Nat->Nat->List Col
 | 0,_=> []
 | d+1,k=>(if 0<=nth g k/\KH (nth l (nth g k).toNat).set.toNat=(k:Int) then [nth l (nth g k).toNat] else [])++RA l g d (k+1)
def UA (x:Inst) (g:List Int):Nat->Nat->List Int
 | 0,_=> []
 | d+1,k=>(if nth g k<0/\(nth x.orders k).off=false then [(k:Int)] else [])++UA x g d (k+1)
theorem nC {x:Inst} {l ys:List Col} (hc:Ctx x l ys) {D:Nat} (hD:D=20) {s:St} {k:Nat} (hv:StV x.orders.length s) (hk:s.ix=k) (hkn:k<x.orders.length) (ho:(nth x.orders k).off=false) (hcv:s.cov.toNat.testBit k=false) {c:Col} (hm:c∈XZ ys k) :
  H8 x.orders.length (mI x) x (fstF x.orders.length ys) (skF x x.orders.length) s c=JY x ys D s c:=by
 have hn:=hc.n4;have e1:=Cx (n:=x.orders.length) hk (m:=mI x) (by grind [Ep]) (by grind [AI]);have e2:=E8 (m:=mI x) hk hkn hn (JW hc hkn hm).2.2.2
 grind [H8,JY,Lx]
theorem Dw {x:Inst} {l ys:List Col} (hc:Ctx x l ys) {D:Nat} (hD:D=20): ∀(d k:Nat) (s:St) (a:List Int) (f:Nat),k+d=x.orders.length->d<f->Nd x l a s k ->
  X7 x.orders.length (mI x) x (fstF x.orders.length ys) (skF x x.orders.length) f (WT x.orders.length (mI x) s)=(RA l (gr x l ys D d k s a) d k,UA x (gr x l ys D d k s a) d k)
 | 0,k,s,a,0,_,hf,_=>Za
 | 0,k,s,a,f+1,hd,_,h=>by
  rw [X7,if_pos,RA,UA];simp only [WT];have:=BI (n:=x.orders.length) (m:=mI x) (cov:=s.cov) (x.orders.length-s.ix.toNat) s.ix.toNat;have:=h.ix;omega
 | d+1,k,s,a,0,_,hf,_=>Za
 | d+1,k,s,a,f+1,hd,hf,h=>by
  have hk:k<x.orders.length:=Za
  have hn:=hc.n4;rw [gr]
  split
  ·rename_i ho;have hsk:=ho.imp (fun e=>show sHas (mI x) k=false by grind [Ep]) (fun e=>show sHas s.cov k=true by rw [AI h.v Za,h.cov k hk];grind);rw [Cw h.ix hk hsk,Dw hc hD d (k+1) (Fc s) a (f+1) Za Za (h.skip' hk)];have hg:=(B6 hc (D:=D) d (k+1) (Fc s) a Za (h.skip' hk)).2 k hk (.inl Za);rw [RA,UA,hg,if_neg,if_neg,ZA,ZA]
   ·grind
   ·rintro ⟨g1,g2⟩;obtain ⟨t,t1,t2⟩:=h.old k hk (Zw _) g1;have hr:=h.rng k hk;obtain ⟨_,s0,s1,_⟩:=hc.set (Z0 (l:=l) (i:=(nth a k).toNat) Za);have:=((NP s0 s1 hn hk).1 g2).2 t Za t2;omega
  ·rename_i ho
   have hoff:(nth x.orders k).off=false:=by
    grind
   have hak:nth a k<0:=Int.not_le.1 fun g=>ho (.inr g)
   have hcv:s.cov.toNat.testBit k=false:=by rw [h.cov k hk];grind
   rw [Cx h.ix (by grind [Ep]) (by rw [AI h.v Za,hcv]),X7,if_neg (by rw [h.ix];omega)]
   have e2:nth (fstF x.orders.length ys) s.ix.toNat=XZ ys k:=by rw [h.ix,Xn,Lt,if_pos hk]
   rw [e2,D5 (q:=JY x ys D s) fun c hm=>nC hc hD h.v h.ix hk hoff hcv hm]
   cases hfd:(XZ ys k).find? (JY x ys D s) with
   | some c =>
    have hsel:=Q5 hfd;have hm:=U7 hfd;simp only [JY,Zs] at hsel;obtain ⟨p1,p2,p3⟩:=Jb hc h hk hm hsel.1;have hch:=h.child hc hk p1 p3;obtain ⟨c1,c2⟩:=AG h.len p3;rw [p2] at hch c1 c2;have hg:=(B6 hc (D:=D) d (k+1) (Kr s c) _ Za hch).2 k hk (.inl Za);rw [Xl (by rw [h.len];exact hk),if_pos c1] at hg;simp only;rw [E8 h.ix hk hn (JW hc hk hm).2.2.2,Dw hc hD d (k+1) (Kr s c) _ f Za Za hch,RA,UA,hg,if_pos ⟨Za,by rw [Xn,p2];exact (JW hc hk hm).2.2.1⟩,if_neg Za,Xn,p2]
    rfl
   | none =>
    have hg:=(B6 hc (D:=D) d (k+1) (Fc s) a Za (h.skip' hk)).2 k hk (.inl Za);simp only;have e3:Ck x.orders.length (mI x) s=WT x.orders.length (mI x) (Fc s):=rfl;rw [e3,Dw hc hD d (k+1) (Fc s) a f Za Za (h.skip' hk),RA,UA,hg,if_neg Za,if_pos ⟨hak,hoff⟩,h.ix]
    rfl
theorem GP {l:List Col} {g:List Int} {c:Col} : ∀(d k:Nat),c∈RA l g d k↔ ∃i,k<=i/\i<k+d/\0<=nth g i/\KH (nth l (nth g i).toNat).set.toNat=(i:Int)/\c=nth l (nth g i).toNat
 | 0,k=>by simp [RA];omega
 | d+1,k=>by
  rw [RA,Z5,GP d (k+1)]
  constructor
  ·rintro (h | ⟨i,h1,h2,h3⟩)
   ·split at h
    ·grind
    ·simp at h
   grind
  grind
theorem S1 {l:List Col} {g:List Int} : ∀(d k:Nat),(RA l g d k).Pairwise fun a b=>KH a.set.toNat<KH b.set.toNat
 | 0,k=> .nil
 | d+1,k=>by
  rw [RA,Di];refine ⟨?_,S1 d (k+1),fun a ha b hb=> ?_⟩
  ·split<;>simp
  ·split at ha
   ·rename_i hh;obtain ⟨i,h1,h2,h3,h4,rfl⟩:=(GP _ _).1 hb
    grind
   ·simp at ha
theorem NX {x:Inst} {g:List Int} : ∀(d k:Nat),UA x g (d+1) k=UA x g d k++(if nth g (k+d)<0/\(nth x.orders (k+d)).off=false then [((k+d:Nat):Int)] else [])
 | 0,k=>by simp [UA]
 | d+1,k=>by
  rw [UA,NX d (k+1),UA,WZ,show k+1+d=k+(d+1) by omega]
theorem S4 {x:Inst} {g:List Int} : ∀n,UA x g n 0=unI x g n
 | 0=>rfl
 | n+1=>by rw [NX,S4 n,unI,Xz]
theorem yG : ∀S:Fin 16,0<S.val-> ∀i:Fin 4,S.val.testBit i.val=true->((S.val:Int)%(pw i.val:Nat)=0↔KH S.val=(i.val:Int)):=by decide+kernel
theorem Kz {l:List Col} {g:List Int} {T:Nat} {c:Col} : ∀k,c∈hJ l g T k↔ ∃i,i<k/\0<=nth g i/\(nth l (nth g i).toNat).typ=T/\(nth l (nth g i).toNat).set%(pw i:Nat)=0/\c=nth l (nth g i).toNat
 | 0=>by simp [hJ]
 | k+1=>by
  rw [hJ,Z5,Kz k]
  constructor
  ·grind
  grind
theorem HZ {l:List Col} {g:List Int} {n:Nat} {c:Col} : ∀T,c∈eU l g n T↔ ∃t,t<T/\c∈hJ l g t n
 | 0=>by simp [eU]
 | T+1=>by
  rw [eU,Z5,HZ T]
  grind
theorem ZfR {x:Inst} (hx:InstOk x) {k:Nat} (hk:k<x.orders.length) (ho:(nth x.orders k).off=false):(0<=(nth x.orders k).penalty↔0<=skpF x k)/\(0<=skpF x k->skpF x k=skR x k):=by
 have ha:=(hx.orders.2 k hk).arg;simp only [argOk,rng,Zs,Zp] at ha
 have e:Ws x k=if (nth x.orders k).penalty= -1 then (zSco,23) else (⟨(nth x.orders k).penalty,if (nth x.orders k).now= -1 then 0 else 1,0,0⟩,0):=by
  simp_all [Ws,if_neg]
 by_cases hp:(nth x.orders k).penalty= -1
 ·simp_all [skpF]
 ·have hm:(if (nth x.orders k).now= -1 then (0:Int) else 1)=0\/(if (nth x.orders k).now= -1 then (0:Int) else 1)=1:=Za
  have e2:skpF x k=skR x k/\0<=skR x k:=by
   rw [skpF,skR,e,if_neg hp];generalize (if (nth x.orders k).now= -1 then (0:Int) else 1)=m at hm
   have:Wg ⟨(nth x.orders k).penalty,m,0,0⟩=((((nth x.orders k).penalty*16+m)*16+0)*65536+0,0):=by
    rw [Wg,if_neg (by grind),if_neg (by grind)]
   grind
  omega
theorem T0 {x:Inst} {l ys:List Col} (hx:InstOk x) (hn:x.orders.length<=4) (hC:Cheap l ys) (hr: ∀c∈l,rightB x c=true) (hs: ∀c∈l,c.set<9223372036854775808):Ctx x l ys :=
 have hok:=Oh hx hn hC hr hs
 ⟨hn,hok.typ.1,hC,hr,hs,hok,fun _ hk ho=>ZfR hx hk ho⟩
theorem PA {l:List Col} {n:Nat} {T:Int} : ∀m,m<=n->usdI l (List.replicate n (-1)) T m=0
 | 0,_=>rfl
 | m+1,h=>by
  rw [usdI,PA m Za,CG,HI Za,Ut Za];rfl
theorem O1 (x:Inst) (l:List Col):Nd x l (List.replicate x.orders.length (-1)) zSt 0:=by
 have hz: ∀i,i<x.orders.length->nth (List.replicate x.orders.length (-1:Int)) i= -1:=fun i hi=>HI hi;refine ⟨Zb,rfl,qB _,fun i hi=> ?_,fun i hi=>by grind,fun T hT=> ?_,fun i hi h=>by grind,fun i hi _ h=>by grind,fun i hi h=>by grind⟩
 ·simp_all [zSt]
 ·rw [PA _ (Zw _)]
  have:T=0\/T=1\/T=2\/T=3\/T=4\/T=5:=Za
  rcases this with rfl | rfl | rfl | rfl | rfl | rfl<;>rfl
theorem Nd.RngA {x:Inst} {l:List Col} {a:List Int} {s:St} {k:Nat} (h:Nd x l a s k):RngA x l a:=⟨h.len,h.rng⟩
theorem I7 {x:Inst} {l ys:List Col} (hc:Ctx x l ys) {D:Nat} : ∀(d k:Nat) (s:St) (a:List Int),k+d=x.orders.length->Nd x l a s k-> ∃s',Nd x l (gr x l ys D d k s a) s' x.orders.length
 | 0,k,s,a,hd,h=>⟨s,by grind [gr]⟩
 | d+1,k,s,a,hd,h=>by
  have hk:k<x.orders.length:=Za
  rw [gr]
  split
  ·exact I7 hc d (k+1) _ _ Za (h.skip' hk)
  ·split
   ·rename_i c hf;have hsel:=Q5 hf;simp only [JY,Zs] at hsel;obtain ⟨p1,p2,p3⟩:=Jb hc h hk (U7 hf) hsel.1;have hch:=h.child hc hk p1 p3;rw [p2] at hch;exact I7 hc d (k+1) _ _ Za hch
   ·exact I7 hc d (k+1) _ _ Za (h.skip' hk)
theorem N2 {x:Inst} {l ys:List Col} (hc:Ctx x l ys) {D:Nat} (hD:10<D) :
  (Lx x ys D zSt<0->(GW x l).found=false)/\(0<=Lx x ys D zSt->GW x l=⟨true,gr x l ys D x.orders.length 0 zSt (List.replicate x.orders.length (-1)),Lx x ys D zSt⟩):=by
 have hz:=O1 x l;have hb:=AS hc hD x.orders.length 0 zSt _ _ 0 Za hz hz KE.refl;obtain ⟨s',hg⟩:=I7 hc (D:=D) x.orders.length 0 zSt _ Za hz
 constructor
 ·intro h
  have:Aw x l x.orders.length (List.replicate x.orders.length (-1)) 0= []:=by
   cases e:Aw x l x.orders.length (List.replicate x.orders.length (-1)) 0 with
   | nil=>rfl
   | cons q L=>grind
  rw [GW,this];rfl
 ·intro h;have hin:=OE hc hD x.orders.length 0 zSt _ 0 Za hz h;rw [Int.zero_add] at hin;refine GK (.inl rfl) (fun q hq=> ?_) hin;obtain ⟨_,h2,h3⟩:=hb q hq;rw [Int.zero_add] at h2 h3;exact ⟨h2,fun e=>qD hg.RngA (Dm _ hz.RngA q hq) (h3 e)⟩
theorem Pf {l:List Col} {g:List Int} {T n:Nat} (hdv: ∀i,i<n->0<=nth g i->((nth l (nth g i).toNat).set%(pw i:Nat)=0↔KH (nth l (nth g i).toNat).set.toNat=(i:Int))): ∀k,k<=n->(hJ l g T k).Pairwise fun a b=>jO a b<0
 | 0,_=> .nil
 | k+1,hk=>by
  rw [hJ,Di];refine ⟨Pf hdv k Za,by split<;>simp,fun a ha b hb=> ?_⟩
  split at hb
  ·rename_i hh
   obtain rfl:b=nth l (nth g k).toNat:=by grind
   obtain ⟨i,h1,h2,h3,h4,rfl⟩:=(Kz _).1 ha;rw [QQ,h3,hh.2.1]
   right
   refine ⟨rfl,?_⟩
   show KH _<KH _
   grind
  ·simp at hb
theorem Ph {l:List Col} {g:List Int} {n:Nat} (hdv: ∀i,i<n->0<=nth g i->((nth l (nth g i).toNat).set%(pw i:Nat)=0↔KH (nth l (nth g i).toNat).set.toNat=(i:Int))): ∀T,(eU l g n T).Pairwise fun a b=>jO a b<0
 | 0=> .nil
 | T+1=>by
  rw [eU,Di];refine ⟨Ph hdv T,Pf hdv n (Zw _),fun a ha b hb=> ?_⟩;obtain ⟨t,h1,h2⟩:=(HZ _).1 ha;obtain ⟨i,_,_,h3,_,rfl⟩:=(Kz _).1 h2;obtain ⟨j,_,_,h5,_,rfl⟩:=(Kz _).1 hb
  simp_all [QQ]
theorem Ss {x:Inst} {l ys:List Col} (hc:Ctx x l ys) {g:List Int} {s:St} (hg:Nd x l g s x.orders.length) {zs:List Col} (hp:zs.Perm (RA l g x.orders.length 0)) (ha:zs.Pairwise fun a b=> ¬jO b a<0):zs=eU l g x.orders.length x.types.length:=by
 have hn:=hc.n4;have hin: ∀i,i<x.orders.length->0<=nth g i->nth l (nth g i).toNat∈l:=fun i hi h0=>Z0 (by have:=hg.rng i hi;omega)
 have hdv: ∀i,i<x.orders.length->0<=nth g i->((nth l (nth g i).toNat).set%(pw i:Nat)=0↔KH (nth l (nth g i).toNat).set.toNat=(i:Int)):=fun i hi h0=>by
  obtain ⟨e,s0,s1,_⟩:=hc.set (hin i hi h0);have h16:(nth l (nth g i).toNat).set.toNat<16:=U9 s1 (YD (n:=2) Za hn);have:=yG ⟨_,h16⟩ s0 ⟨i,Za⟩ (hg.own i hi h0)
  grind
 have hne:zs.Pairwise fun a b=>lo a≠lo b:=by
  have h1:(RA l g x.orders.length 0).Pairwise fun a b=>lo a≠lo b:=(S1 _ _).imp fun {a b} h e=>by
   have e':KH a.set.toNat=KH b.set.toNat:=e;omega
  exact (hp.pairwise_iff fun h e=>h e.symm).2 h1
 have hz:zs.Pairwise fun a b=>jO a b<0:=(hne.and ha).imp fun {a b} h=>by
  have h1:=h.1;have h2:=h.2;rw [QQ] at h2 ⊢;omega
 refine E1 (r:=fun a b=>jO a b<0) (fun a=>by rw [QQ];omega) (fun a b=>by rw [QQ,QQ];omega) hz (Ph hdv _) fun c=> ?_;rw [hp.mem_iff,GP,HZ]
 constructor
 ·rintro ⟨i,_,h1,h2,h3,rfl⟩;have ht:=(hc.typ (hin i Za h2)).1;exact ⟨(nth l (nth g i).toNat).typ.toNat,Za,(Kz _).2 ⟨i,Za,h2,Za,(hdv i Za h2).2 h3,rfl⟩⟩
 ·rintro ⟨t,_,h⟩;obtain ⟨i,h1,h2,h3,h4,rfl⟩:=(Kz _).1 h
  grind
theorem ID {x:Inst} {ys:List Col} {D:Nat} (hD:D=20):HC x ys=Lx x ys D zSt:=by subst hD;rfl
theorem Zfc {x:Inst} {l:List Col} {a e e':Int} {b:Chc} (hx:InstOk x) (hn:x.orders.length<=4) (hs: ∀c∈l,c.set<9223372036854775808) (h:ZiN x l a e) (h':hU x l b e'):a=b.price/\e=e':=by
 rcases h with ⟨g1,rfl,rfl⟩ | ⟨g1,⟨c,gc,g2⟩,rfl,rfl⟩ | ⟨g1,g2,ys,g3,rfl,rfl⟩<;>rcases h' with ⟨k1,rfl,rfl⟩ | ⟨k1,⟨c',kc,k2⟩,rfl,rfl⟩ | ⟨k1,k2,k3⟩
 ·exact ⟨rfl,rfl⟩
 ·omega
 ·omega
 ·omega
 ·exact ⟨rfl,rfl⟩
 ·grind
 ·omega
 ·grind
 ·obtain ⟨D,hD⟩: ∃D:Nat,D=20:=⟨20,rfl⟩;rw [ID hD];obtain ⟨q1,q2⟩:=N2 (T0 hx hn g3 g2 hs) (D:=D) Za;rcases k3 with ⟨f,rfl,rfl⟩ | ⟨f,rfl,rfl⟩
  ·have:Lx x ys D zSt<0:=Int.not_le.1 fun h0=>by grind
   rw [if_pos this,if_pos this];exact ⟨rfl,rfl⟩
  grind
theorem TK {x:Inst} {l:List Col} {p q:Pln} {c e c' e':Int} (hx:InstOk x) (hn:x.orders.length<=4) (hs: ∀c∈l,c.set<9223372036854775808) (h:hK x l p c e) (h':qC x l q c' e'):c=c'/\e=e'/\p.routes=q.routes/\p.unserved=q.unserved/\p.routes.length<=24/\p.unserved.length<=24/\ ∀r∈p.routes,∃c∈l,r=c.route:=by
 obtain ⟨b,hb,h1,h2⟩:=h';have z:zPlC.routes.length<=24/\zPlC.unserved.length<=24/\ ∀r∈zPlC.routes,∃c∈l,r=c.route:=⟨by simp [zPlC],by simp [zPlC],fun r hr=>by simp [zPlC] at hr⟩;rcases h with ⟨g1,rfl,rfl,rfl⟩ | ⟨g1,⟨c,gc,g2⟩,rfl,rfl,rfl⟩ | ⟨g1,g2,ys,g3,g4,g5⟩<;>rcases hb with ⟨k1,rfl,rfl⟩ | ⟨k1,⟨c',kc,k2⟩,rfl,rfl⟩ | ⟨k1,k2,k3⟩
 ·grind
 ·omega
 ·omega
 ·omega
 ·grind
 ·grind
 ·omega
 ·grind
 ·obtain ⟨D,hD⟩: ∃D:Nat,D=20:=⟨20,rfl⟩;have hc:=T0 hx hn g3 g2 hs;obtain ⟨q1,q2⟩:=N2 hc (D:=D) Za;rw [ID hD] at g5;rcases g5 with ⟨g6,rfl,rfl,rfl⟩ | ⟨g6,rfl,rfl,zs,hp,ha,rfl⟩
  ·grind
  ·rcases k3 with ⟨f,rfl,rfl⟩ | ⟨f,rfl,rfl⟩
   ·grind
   ·obtain ⟨rfl,rfl⟩:=h2 rfl;have hz:=O1 x l;have hpk:=Dw hc hD x.orders.length 0 zSt _ 20 Za Za hz;obtain ⟨s',hg⟩:=I7 hc (D:=D) x.orders.length 0 zSt _ Za hz;rw [q2 g6];simp only [mI] at hpk;rw [hpk] at hp ⊢;simp only at hp ⊢;have hzs:=Ss hc hg hp ha;rw [hg.len,S4,hzs];have l1:=Pi (l:=l) (g:=gr x l ys D x.orders.length 0 zSt (List.replicate x.orders.length (-1))) (n:=x.orders.length) x.types.length;have l2:=Pz (x:=x) (g:=gr x l ys D x.orders.length 0 zSt (List.replicate x.orders.length (-1))) x.orders.length
    have l3:x.types.length*x.orders.length<=6*4:=Nat.mul_le_mul hc.t6 hn;refine ⟨trivial,trivial,rfl,rfl,by grind,Za,fun r hr=> ?_⟩;obtain ⟨c,hcm,rfl⟩:=Xj.1 hr;rw [<- hzs,hp.mem_iff,GP] at hcm;obtain ⟨i,_,i1,i2,_,rfl⟩:=hcm;exact ⟨_,Z0 (by have:=hg.rng i Za;omega),rfl⟩
theorem D4 {α:Type} [DecidableEq α] {p q:α->Bool} {a:α} : ∀ {l:List α},l.Nodup->a∈l->p a=false->q a=true->(∀b∈l,b≠a->p b=q b)->(l.filter q).length=(l.filter p).length+1
 | [],_,h,_,_,_=>by simp at h
 | b::l,hn,h,hp,hq,he=>by
  rw [List.nodup_cons] at hn
  by_cases e:b=a
  ·grind [A8]
  ·have ih:=D4 hn.2 (by
    grind) hp hq fun c hc=>he c (Yp _ hc)
   grind
theorem E5 {ok:List Vis->Bool} {col:List Vis->Col} {better:Col->Col->Bool} (hb: ∀a b,(better a b=true->a.price<=b.price)/\(better a b=false->b.price<=a.price)): ∀(L:List (List Vis)) (b:Col×Bool),(b.2=true->(L.foldl (Wm ok col better) b).2=true/\(L.foldl (Wm ok col better) b).1.price<=b.1.price) /\
  ∀m∈L,ok m=true->(L.foldl (Wm ok col better) b).2=true/\(L.foldl (Wm ok col better) b).1.price<=(col m).price
 | [],b=>⟨fun h=>⟨h,Yr _⟩,fun m hm=>by simp at hm⟩
 | l::L,b=>by
  rw [Yh];obtain ⟨g1,g2⟩:=E5 hb L (Wm ok col better b l)
  have hu:(b.2=true->(Wm ok col better b l).2=true/\(Wm ok col better b l).1.price<=b.1.price)/\(ok l=true->(Wm ok col better b l).2=true/\(Wm ok col better b l).1.price<=(col l).price):=by
   unfold Wm
   split
   ·rename_i hc;refine ⟨fun h=>⟨rfl,?_⟩,fun _=>⟨rfl,Yr _⟩⟩;rcases hc.2 with h2 | h2
    ·rw [h2] at h;cases h
    ·exact (hb _ _).1 h2
   ·rename_i hc;refine ⟨fun h=>⟨h,Yr _⟩,fun h=> ?_⟩
    have h2:b.2=true:=by
     cases h3:b.2 with
     | true=>rfl
     | false=>exact absurd ⟨h,.inl h3⟩ hc
    have h4:better (col l) b.1=false:=by
     cases h3:better (col l) b.1 with
     | false=>rfl
     | true=>exact absurd ⟨h,.inr h3⟩ hc
    exact ⟨h2,(hb _ _).2 h4⟩
  refine ⟨fun h=> ?_,fun m hm hk=> ?_⟩
  ·obtain ⟨h1,h2⟩:=hu.1 h;obtain ⟨h3,h4⟩:=g1 h1;exact ⟨h3,Int.le_trans h4 h2⟩
  grind
theorem aY {x:Inst} {S:Nat} {m:List Vis} (h:Gr x S m): ∀(f k:Nat),m.length=k+f->m∈Mq (fun l=>nextU x S l x.orders.length) f (m.take k)
 | 0,k,hl=>by
  grind [Mq]
 | f+1,k,hl=>by
  have hk:k<m.length:=Za
  have ha:=h.at k hk;rw [Mq,if_neg (fun e=>by grind),XS];refine ⟨nth m k,ha,?_⟩
  have e:m.take k++ [nth m k]=m.take (k+1):=by rw [Yu hk,Zg hk]
  rw [e];exact aY h f (k+1) Za
theorem LD {x:Inst} {l:List Vis} (h:RightV x l):Ye l≠0:=fun e=>by
 obtain ⟨v,hv⟩: ∃v,v∈l:=by
  cases l with
  | nil=>exact absurd rfl h.ne
  | cons v l=>simp
 have hi:=h.inr v hv;have hb:=(h.bit v.order.toNat).2 ⟨v,hv,Za⟩
 grind
theorem jJ (a b:Col):(Qo a b=true->a.price<=b.price)/\(Qo a b=false->b.price<=a.price):=by
 unfold Qo
 grind
theorem Rc {x:Inst} (hx:InstOk x) {k:Int} {m:List Vis} (ht:0<=(nth x.types k.toNat).opn) (hok:Fw x k m=true) (z:Col×Bool) :
  Y6 x.orders x.apart x.before ((Ye m:Nat):Int)=0/\(CY x k (Ye m) z).2=true/\(CY x k (Ye m) z).1.price<=(YS x (Ax k m)).1:=by
 have hf:=YB hx
 have hn:x.orders.length<=60:=by have:=hf.len;omega
 have hr:RightV x m:=WL (Ux hok);have ha:=hr.alw hf;have hS:=(hr.lt hf).2;refine ⟨(Jx hn hS hf.val).2 ha,?_⟩;rw [TD hx (LD hr) hS ha ht z,jL];have hg:=hr.gr hf m.length (Zw _);rw [X5] at hg;have hin:m∈Mq (lP x (Ye m)) (VD x (Ye m)) []:=aY hg (VD x (Ye m)) 0 (by rw [hr.len hf,VD];omega)
 have hR:okR x k (Ye m) m=true:=by
  unfold okR;rw [hok,Ux hok,hr.ord hf];simp
 exact (E5 jJ _ z).2 m hin hR
theorem fY {g:FuncId} {args:List V} {R:Pln->Int->Int->Prop} {H:List AM.Obj} {K:V->List AM.Obj->Prop} (h:ACalls Tryz.prog g args [] fun y H'=> ∃p c e,R p c e/\y= .tup [.p (C1 p),.p (.int .i64 c),.p (.int .i64 e)]/\H'= []) (k: ∀p c e,R p c e->K (.tup [.p (C1 p),.p (.int .i64 c),.p (.int .i64 e)]) H) (ha:Xk 0 args=true:=by rfl):ACalls Tryz.prog g args H K :=
 (h.behind ha H).mono fun x H' hq=>by
  obtain ⟨y,H1,⟨p,c,e,hr,rfl,rfl⟩,rfl,rfl⟩:=hq
  grind [shV,shVs]
theorem CF {ok:List Vis->Bool} {col:List Vis->Col} {better:Col->Col->Bool} : ∀(L:List (List Vis)) (b:Col×Bool),(L.foldl (Wm ok col better) b).2=true->(b.2=true/\(L.foldl (Wm ok col better) b).1=b.1)\/ ∃m∈L,ok m=true/\(L.foldl (Wm ok col better) b).1=col m
 | [],b,h=> .inl ⟨h,rfl⟩
 | l::L,b,h=>by
  rw [Yh] at h ⊢;rcases CF L _ h with ⟨h1,h2⟩ | ⟨m,h1,h2,h3⟩
  ·rw [h2];unfold Wm at h1 ⊢
   grind
  grind
theorem BY {x:Inst} {k:Int} {S:Nat} (h:(Qp x k S).2=0): ∃m,m∈OT x k S (VD x S) [] (st0 (nth x.types k.toNat))/\Fw x k m=true/\(Qp x k S).1=Uk x k S m:=by
 unfold Qp at h ⊢
 split at h
 ·rename_i hc;rw [if_pos hc];rcases CF _ _ hc.2 with ⟨h1,_⟩ | ⟨m,h1,h2,h3⟩
  ·cases h1
  ·exact ⟨m,h1,h2,h3⟩
 ·cases h
theorem LM {one:Nat->List Col} {c:Col} : ∀q,c∈EP one q↔ ∃S,1<=S/\S<=q/\c∈one S
 | 0=>by simp [EP];omega
 | q+1=>by
  rw [EP,Z5,LM q]
  grind
theorem Is {one:Nat->Nat->List Col} {N:Nat} {c:Col} : ∀K,c∈Jw one N K↔ ∃k S,k<K/\1<=S/\S<=N/\c∈one k S
 | 0=>by simp [Jw]
 | K+1=>by
  rw [Jw,Z5,Is K,LM]
  grind
noncomputable def XO (x:Inst):List Col:=Jw (JT x) (2^x.orders.length-1) x.types.length
theorem Az {x:Inst} {c:Col} :c∈XO x↔ ∃k S,k<x.types.length/\0<S/\S<2^x.orders.length/\(Qp x (k:Int) S).2=0/\c=(Qp x (k:Int) S).1:=by
 have hp1:1<=2^x.orders.length:=Nat.one_le_two_pow;rw [XO,Is]
 constructor
 ·grind [JT]
 ·rintro ⟨k,S,h1,h2,h3,h4,h5⟩;exact ⟨k,S,h1,Za,Za,by simp_all [JT]⟩
theorem Th {x:Inst} {c:Col} (h:c∈XO x): ∃(k S:Nat) (m:List Vis),k<x.types.length/\0<S/\S<2^x.orders.length/\m.length=VD x S/\Fw x k m=true/\c=Uk x k S m:=by
 obtain ⟨k,S,h1,h2,h3,h4,rfl⟩:=Az.1 h;obtain ⟨m,m1,m2,m3⟩:=BY h4;exact ⟨k,S,m,h1,h2,h3,by have:=HD _ _ _ m m1;grind,m2,m3⟩
theorem GX {x:Inst} (hn:x.orders.length<=4) (h6:x.types.length<=6):(XO x).length<=96/\ ∀c∈XO x,c.set<9223372036854775808/\ZfK c.route:=by
 have hp2:2^x.orders.length<=2^4:=YD Za hn;refine ⟨?_,fun c hc=> ?_⟩
 ·have h1:=DH (N:=2^x.orders.length-1) (EB (x:=x)) x.types.length;have h2:x.types.length*(2^x.orders.length-1)<=6*16:=Nat.mul_le_mul Za Za;unfold XO;omega
 ·obtain ⟨k,S,m,_,_,h3,h4,_,rfl⟩:=Th hc;have:=If x S x.orders.length;unfold VD at h4;exact ⟨by grind [Uk],by grind [Uk,Ax],by simp [Uk,Ax]⟩
theorem nH (x:Inst) (hx:InstOk x) (hn:x.orders.length<=4) (h6:x.types.length<=6) (hbl:x.before.length<=1048576) (hal:x.apart.length<=1048576) :
  ACalls Tryz.prog 43 [.p (ZW x)] [] fun y H'=> ∃p c e,hK x (XO x) p c e/\y= .tup [.p (C1 p),.p (.int .i64 c),.p (.int .i64 e)]/\H'= []:=by
 obtain ⟨hl,hc⟩:=GX hn h6;have ca:=LG x hx hn h6 hbl hal;have cc:=Sc x (XO x) false hx hn Za (fun c h=>(hc c h).1) Za;rw [show Jw (JT x) (2^x.orders.length-1) x.types.length=XO x from rfl] at ca;generalize XO x=L at ca cc ⊢;refine Zj [] Tryz.func43 rfl ZeB ?_;simp (disch:=omega) only [Tryz.f43,go_sem,seval];refine J2 ca (Zd ?_);refine fY cc fun p c e hR=>Zd ?_;exact ⟨.tup [.p (C1 p),.p (.int .i64 c),.p (.int .i64 e)],[],wk,p,c,e,hR,rfl,rfl⟩
theorem Pc {x:Inst} {r:Rte} (h0:r.start=0) (hz:r.rests= []):YS x r=YS x (Ax r.typ r.visits):=by
 cases r
 simp only at h0 hz;subst h0;subst hz;rfl
theorem TX {x:Inst} (hx:InstOk x) {r:Rte} (he:(YS x r).2=0) (hty:0<=r.typ/\r.typ<(x.types.length:Int)) (h0:r.start=0) (hz:r.rests= []) :
  ∃j,j<(XO x).length/\(nth (XO x) j).typ=r.typ/\(nth (XO x) j).set=((Ye r.visits:Nat):Int)/\(nth (XO x) j).price<=(YS x r).1:=by
 obtain ⟨k,hk⟩: ∃k:Nat,r.typ=(k:Int):=⟨r.typ.toNat,Za⟩
 have hkl:k<x.types.length:=Za
 have hok:Fw x (k:Int) r.visits=true:=by
  grind [Fw,Pc]
 have hr:RightV x r.visits:=WL (r:=Ax (k:Int) r.visits) (Ux hok)
 have hopn:0<=(nth x.types (k:Int).toNat).opn:=by
  simp_all [W6]
 obtain ⟨g1,g2,g3⟩:=Rc hx (k:=(k:Int)) (m:=r.visits) hopn hok (VP,false)
 have hv:Qp x (k:Int) (Ye r.visits)=((CY x (k:Int) (Ye r.visits) (VP,false)).1,0):=by
  simp_all [Qp]
 have hS:Ye r.visits<2^x.orders.length:=by
  rcases Nat.div_eq_zero_iff.1 (hr.lt (YB hx)).2 with h | h
  ·grind [pw]
  ·exact h
 have hmem:(Qp x (k:Int) (Ye r.visits)).1∈XO x:=Az.2 ⟨k,Ye r.visits,hkl,Nat.pos_of_ne_zero (LD hr),hS,by rw [hv],rfl⟩;obtain ⟨m,_,_,m3⟩:=BY (x:=x) (k:=(k:Int)) (S:=Ye r.visits) (by rw [hv]);obtain ⟨j,hj,e⟩:=List.getElem_of_mem hmem;refine ⟨j,hj,?_⟩;rw [Zg hj,e];refine ⟨by rw [m3,hk];rfl,by rw [m3];rfl,?_⟩
 grind [Pc]
end Go.Proofs.YtjkkdmeebhjaiaaGreatDoor.K
