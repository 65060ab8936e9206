/- Declarations that the closing texts need, part 7: joined by tools/slim.py. -/
import Derived.Test.YtkhgmjdijnmhbaaDoorZ6
import Derived.Lib.LazyBuf
set_option linter.unusedVariables false
set_option linter.unusedSimpArgs false
namespace Go.AM
open Go.RowKit
@[go_sem ↓] theorem Zjk {P ds o l m fr H K} : XP P ds (List.append (o :: l) m) fr H K = XP P ds (o :: List.append l m) fr H K := rfl
@[go_sem ↓] theorem ZgY {P ds m fr H K} : XP P ds (List.append [] m) fr H K = XP P ds m fr H K := rfl
@[go_sem] theorem Zi0 {α : Type} {x : α} {l m} : List.append (x :: l) m = x :: List.append l m := rfl
@[go_sem] theorem ZkN {α : Type} {m : List α} : List.append [] m = m := rfl
theorem Z7 {P : Program} {ops : Array Oper} {Q : Exit -> Act -> World -> Prop} {r : List Oper} : ∀ (l : List Oper) (fr : List V) (H : List Obj) (K : List V -> List Obj -> Prop), XP P (ops.toList.map (·.dst)) l fr H K ->
  ∀ F ι a w, Rel F H ι w -> Fr F H ι w fr a ->
   (∀ fr' H' ι' a' w', K fr' H' -> Good F H ι w H' ι' w' -> Fr F H' ι' w' fr' a' -> wpList P ops Q r a' w') -> wpList P ops Q (l ++ r) a w
 | [], fr, H, K, h, F, ι, a, w, hr, hf, hq => hq fr H ι a w h (Good.refl hr) hf
 | o :: l, fr, H, K, h, F, ι, a, w, hr, hf, hq => by
  have step : ∀ {fr : List V} {a : Act}, Fr F H ι w fr a -> Zl P o fr H (fun x H' => XP P (ops.toList.map (·.dst)) l (ptO fr o.dst x) H' K) -> o.wp P a w (wpList P ops Q (l ++ r)) Q := fun hf h =>
   Ys h hr hf fun x H' ι' v w' hk g q => Z7 l _ H' K hk F ι' _ w' g.rel ((g.fr hf).put o.dst q)
    fun fr' H2 ι2 a' w2 k2 g2 f2 => hq fr' H2 ι2 a' w2 k2 (g.trans g2) f2
  simp only [XP] at h;simp only [List.cons_append, wpList]
  split at h
  ·rename_i hg
   have hw : Region.wanted o (yielded ops a.tmps) = true := by simp [Region.wanted, hg]
   rw [if_pos hw];exact .inl (step hf h)
  ·rename_i j b hg;unfold ZN at h
   split at h
   rotate_left
   ·rename_i hc;have hy := Z9 hf hc
    have hw : ¬ (Region.wanted o (yielded ops a.tmps) = true) := by simp [Region.wanted, hg, hy]
    rw [if_neg hw];exact Z7 l _ H K h F ι _ w hr (hf.put o.dst Xq) hq
   ·exact h.elim
   rename_i c hc;have hy := Xx hf hc
   by_cases hcb : c = b
   ·have hw : Region.wanted o (yielded ops a.tmps) = true := by simp [Region.wanted, hg, hy, hcb]
    rw [if_pos hw];exact .inl (step hf (h.1 hcb))
   ·have hw : ¬ (Region.wanted o (yielded ops a.tmps) = true) := by simp [Region.wanted, hg, hy, hcb]
    rw [if_neg hw];exact Z7 l _ H K (h.2 hcb) F ι _ w hr (hf.put o.dst Xq) hq
theorem RV.refB {F H ι w x v} (h : RV F H ι w x v) : refB H.length x = true := by
 have lt : ∀ {o : Nat} {ob : Obj}, H[o]? = some ob -> o < H.length := fun h => (List.getElem?_eq_some_iff.1 h).1
 have all : ∀ (l : List V), (∀ (j : Nat) (c : V), l[j]? = some c -> AM.refB H.length c = true) -> ZQ H.length l = true := fun l => by
  induction l with
  | nil => intro _; rfl
  | cons x l ih => intro h; simp only [ZQ, Bool.and_eq_true]; exact ⟨h 0 x rfl, ih fun j c hj => h (j + 1) c (by simpa using hj)⟩
 induction h with
 | p => rfl
 | agg cs a hs _ ih => exact all cs ih
 | fn f cs ds a e hs ht _ _ ih1 ih2 => simp only [AM.refB, Bool.and_eq_true]; exact ⟨all cs ih1, all ds ih2⟩
 | tup cs a hs _ ih => exact all cs ih
 | ptr o off b cs h hH => simp [AM.refB, lt hH]
 | ep o i j tot b S xs h hH ht => simp [AM.refB, lt hH]
 | slNil o S a h hH => simp [AM.refB, lt hH]
 | sl o off len tot b S cap t xs c h hH => simp [AM.refB, lt hH]
 | lp => rfl
 | mp o b es h hH => simp [AM.refB, lt hH]
 | mpD o v h => simp [AM.refB, lt h]
 | bp o b T E r bs h hH => simp [AM.refB, lt hH]
 | bpD o v h => simp [AM.refB, lt h]
 | junk => rfl
 | ptrD o off v h => simp [AM.refB, lt h]
 | epD o i j tot v h => simp [AM.refB, lt h]
 | slD o off len tot v h => simp [AM.refB, lt h]
 | epS o i j tot v S xs h hne => simp [AM.refB, lt h]
 | slS o off len tot v S xs h hne => simp [AM.refB, lt h]
 | slC o tot b cap cs h hH hl hm => simp [AM.refB, lt hH]
theorem Rel.refH {F H ι w} (h : Rel F H ι w) : refH H.length H = true := by
 rw [AM.refH, List.all_eq_true];intro ob hm;obtain ⟨o, ho⟩ := List.mem_iff_getElem?.1 hm
 cases ob with
 | cells cs =>
  obtain ⟨b, c, t, _, _, _, h4⟩ := h.cel o cs ho
  have : ∀ (l : List V), (∀ x ∈ l, refB H.length x = true) -> ZQ H.length l = true := fun l => by
   induction l with
   | nil => intro _; rfl
   | cons x l ih => intro h; simp only [ZQ, Bool.and_eq_true]; exact ⟨h x (by simp), ih fun y hy => h y (by simp [hy])⟩
  exact this cs fun x hx => by
   obtain ⟨j, hj⟩ := List.mem_iff_getElem?.1 hx;exact (h4 j x hj).refB
 | elems => rfl
 | map => rfl
 | bld T E r bs => simpa using (List.getElem?_eq_some_iff.1 (h.bldr o T E r bs ho).2.1).1
 | dead => rfl
def Yx (o : Oper) : Oper := { o with op := .move (.tmp 1000000) }
def VK : Nat -> List Oper -> List Oper
 | _, [] => []
 | 0, o :: l => Yx o :: l
 | m + 1, o :: l => o :: VK m l
theorem Y6 : ∀ (m : Nat) (l : List Oper) (i : Nat), (VK m l)[i]? = if i = m then (l[i]?).map Yx else l[i]?
 | m, [], i => by cases m <;> simp [VK]
 | 0, o :: l, 0 => by simp [VK]
 | 0, o :: l, i + 1 => by simp [VK]
 | m + 1, o :: l, 0 => by simp [VK]
 | m + 1, o :: l, i + 1 => by simp [VK, Y6 m l i]
theorem JY : ∀ (m : Nat) (l : List Oper), (VK m l).map (·.dst) = l.map (·.dst)
 | m, [] => by cases m <;> simp [VK]
 | 0, o :: l => by simp [VK, Yx]
 | m + 1, o :: l => by simp [VK, JY m l]
theorem J8 : ∀ (m : Nat) (l : List Oper), (VK m l).length = l.length
 | m, [] => by cases m <;> simp [VK]
 | 0, o :: l => by simp [VK]
 | m + 1, o :: l => by simp [VK, J8 m l]
theorem JR : ∀ {fr : List V} {t : Nat}, fr.length <= t -> gt fr t = .junk
 | [], _, _ => rfl
 | _ :: _, 0, h => by simp at h
 | _ :: l, t + 1, h => by simp only [gt]; exact JR (by simpa using h)
@[go_sem] theorem Ziq {o : Oper} {l} : VK 0 (o :: l) = Yx o :: l := rfl
@[go_sem] theorem Zi5 {o : Oper} {l m} : VK (m + 1) (o :: l) = o :: VK m l := rfl
@[go_sem] theorem Zjp {d op t ps af g} : Yx ⟨d, op, t, ps, af, g⟩ = ⟨d, .move (.tmp 1000000), t, ps, af, g⟩ := rfl
def pts (om : Nat -> Oper) (y : Nat -> V) : Nat -> List V -> List V
 | 0, fr => fr
 | s + 1, fr => ptO (pts om y s fr) (om s).dst (y s)
theorem Zby {fr : List V} {d : Option Nat} {x : V} : (ptO fr d x).length = fr.length := by cases d <;> simp [ptO, Yj]
theorem Vj (om y) : ∀ (s : Nat) (fr : List V), (pts om y s fr).length = fr.length
 | 0, _ => rfl
 | s + 1, fr => by rw [pts, Zby, Vj om y s fr]
theorem ZbA {fr : List V} {d : Option Nat} {v x : V} {t : Nat} (h : (ptO fr d v)[t]? = some x) : (d = some t /\ x = v /\ t < fr.length) \/ (d ≠ some t /\ fr[t]? = some x) := by
 cases d with
 | none => exact .inr ⟨by simp, h⟩
 | some d =>
  simp only [ptO, Yj] at h;rw [List.getElem?_set] at h
  split at h
  ·rename_i e;subst e
   split at h
   ·rename_i hl; simp at h; exact .inl ⟨rfl, h.symm, hl⟩
   ·cases h
  ·rename_i e;exact .inr ⟨by simpa using e, h⟩
theorem Zbd (om y) {x : V} {t : Nat} : ∀ (s : Nat) (fr : List V), (pts om y s fr)[t]? = some x -> (∃ k, k < s /\ (om k).dst = some t /\ x = y k /\ t < fr.length) \/ fr[t]? = some x
 | 0, _, h => .inr h
 | s + 1, fr, h => by
  rcases ZbA h with ⟨h1, h2, h3⟩ | ⟨_, h2⟩
  ·exact .inl ⟨s, by omega, h1, h2, by rw [Vj] at h3; exact h3⟩
  ·rcases Zbd om y s fr h2 with ⟨k, h3, h4⟩ | h3
   ·exact .inl ⟨k, by omega, h4⟩
   ·exact .inr h3
theorem Qc (om y) {R : List Nat} {f1 f2 : List V} (hl : f1.length = f2.length) (h : YJ R f1 f2) : ∀ s, YJ R (pts om y s f1) (pts om y s f2)
 | 0 => h
 | s + 1 => fun t ht => by
  have ih := Qc om y hl h s t ht
  have hl2 : (pts om y s f1).length = (pts om y s f2).length := by rw [Vj, Vj, hl]
  simp only [pts]
  cases (om s).dst with
  | none => exact ih
  | some d =>
   simp only [ptO, Yj, Ks] at ih ⊢;rw [List.getElem?_set, List.getElem?_set]
   split
   ·rw [hl2]
   ·exact ih
def ZoT (F : Nat -> Prop) (H : List Obj) (Ls : Nat -> List Obj) (y : Nat -> V) (om : Nat -> Oper) (m : Nat -> Nat) (q : Nat) (ds : List (Option Nat)) (fr vals : List V) (n : Nat) (ι0 : List (Option Nat)) (w0 : World) (listed : Array Bool) (a : Act) (w : World) : Prop :=
 ∃ s, s <= q /\ (∀ t, t < q -> listed.getD (m t) false = decide (t < s)) /\ ∃ ι ιL, ι.length = H.length /\ Mid (Own F ιL) H ds fr vals n listed ι a w /\ Good F H ι0 w0 (H ++ Ls s) (ι ++ ιL) w /\
  ∀ t, t < s -> ∀ d, (om t).dst = some d -> d < fr.length -> RV F (H ++ Ls s) (ι ++ ιL) w (y t) (a.tmps.getD d undef)
theorem Yo {ds : List (Option Nat)} {vals : List V} {n : Nat} (hap : Y3 ds n = true) (hn : n <= ds.length) (hv : vals.length = n) {R : List Nat} {ls : List Nat} (hls : ∀ j ∈ ls, j < n) {fr : List V} (hR : ∀ t ∈ R, ∀ j, j < n -> ds[j]? = some (some t) -> j ∈ ls) :
  YJ R (ZA ds vals ls (Zw (ds.take n) fr)) (ZA ds vals (List.range n) (Zw (ds.take n) fr)) := fun t ht => by
 apply Qb
 by_cases hex : ∃ j, j < n /\ ds[j]? = some (some t)
 ·obtain ⟨j, hj, hdj⟩ := hex;obtain ⟨x, hx⟩ : ∃ x, vals[j]? = some x := ⟨vals[j]'(by omega), by simp [hv, hj]⟩
  by_cases hlt : t < fr.length
  ·rw [Yk hap hdj hx hj ls _ hls (hR t ht j hj hdj) (by rw [Zz]; exact hlt), Yk hap hdj hx hj _ _ (fun k hk => by simpa using hk) (by simpa using hj) (by rw [Zz]; exact hlt)]
  ·rw [List.getElem?_eq_none (by rw [Zy, Zz]; omega), List.getElem?_eq_none (by rw [Zy, Zz]; omega)]
 ·have hno : ∀ j, j < n -> ds[j]? ≠ some (some t) := fun j hj e => hex ⟨j, hj, e⟩;rw [XH ls _ (fun j hj => hno j (hls j hj)), XH _ _ (fun j hj => hno j (by simpa using hj))]
theorem Js {P : Program} {ops : Array Oper} {Q : Exit -> Act -> World -> Prop} {F H fr vals} {n q : Nat} {Ls : Nat -> List Obj} {y : Nat -> V} {om : Nat -> Oper} {m : Nat -> Nat} (hB : X6 ops n = true) (hvl : vals.length = n)
  (hms : ∀ s, s < q -> m s < n /\ ops[m s]? = some (om s) /\ (om s).guard = none /\ vals[m s]? = some .junk) (hinj : ∀ s t, s < q -> t < q -> m s = m t -> s = t) (hch : ∀ s, s + 1 < q -> m s ∈ Zk (m (s + 1)) (om (s + 1)))
  (hrd : ∀ s, s < q -> ∀ t ∈ opR (om s).op, ∀ j, j < n -> (ops.toList.map (·.dst))[j]? = some (some t) -> j ∈ Zk (m s) (om s))
  (hlate : ∀ s, s < q -> Zl P (om s) (pts om y s (ZA (ops.toList.map (·.dst)) vals (List.range n) (Zw ((ops.toList.map (·.dst)).take n) fr))) (H ++ Ls s) (fun x H' => x = y s /\ H' = H ++ Ls (s + 1)))
  (hok : ∀ (i : Nat) (o : Oper), i < n -> (∀ s, s < q -> i ≠ m s) -> ops[i]? = some o -> ZbF P (ops.toList.map (·.dst)) (Zw ((ops.toList.map (·.dst)).take n) fr) H vals i o) {ι0 w0}
  (ht : ∀ ι a w, Good F H ι0 w0 (H ++ Ls q) ι w -> Fr F (H ++ Ls q) ι w (pts om y q (ZA (ops.toList.map (·.dst)) vals (List.range n) (Zw ((ops.toList.map (·.dst)).take n) fr))) a -> wpList P ops Q (ops.toList.drop n) a w) :
  ∀ (u : Nat) (listed : Array Bool) (a : Act) (w : World), HeadInv .any ops n listed -> ((List.range n).filter fun i => !listed.getD i false).length = u ->
   ZoT F H Ls y om m q (ops.toList.map (·.dst)) fr vals n ι0 w0 listed a w -> wpAny P .any ops Q (u + (ops.size - n)) listed a w := by
 simp only [X6, Bool.and_eq_true, decide_eq_true_eq, Bool.or_eq_true] at hB;obtain ⟨⟨⟨⟨hn, hsc⟩, hea⟩, hap⟩, hseq⟩ := hB
 have hdl : n <= (ops.toList.map (·.dst)).length := by simpa using hn
 -- the frame at s late operations done, azs far azs is listed
 have frAt : ∀ {s : Nat} {listed : Array Bool} {ι ιL : List (Option Nat)} {a : Act} {w : World} (ls : List Nat), (∀ j ∈ ls, j < n /\ listed.getD j false = true) -> Mid (Own F ιL) H (ops.toList.map (·.dst)) fr vals n listed ι a w ->
   (∀ t, t < s -> ∀ d, (om t).dst = some d -> d < fr.length -> RV F (H ++ Ls s) (ι ++ ιL) w (y t) (a.tmps.getD d undef)) ->
   Fr F (H ++ Ls s) (ι ++ ιL) w (pts om y s (ZA (ops.toList.map (·.dst)) vals ls (Zw ((ops.toList.map (·.dst)).take n) fr))) a := fun {s listed ι ιL a w} ls hls mid slot => by
  obtain ⟨f1, f2, f3⟩ := mid.fr ls hls;refine ⟨by rw [Vj]; exact f1, f2, fun t x hx => ?_⟩;rcases Zbd om y s _ hx with ⟨k, h1, h2, rfl, h4⟩ | h1
  ·exact slot k h1 t h2 (by rw [Zy, Zz] at h4; exact h4)
  ·exact (f3 t x h1).widen
 intro u
 induction u with
 | zero =>
  intro listed a w inv hm mid
  have Yg : ∀ i, i < n -> listed.getD i false = true := fun i hi => by
   have h0 := List.eq_nil_of_length_eq_zero hm
   have : i ∉ (List.range n).filter fun i => !listed.getD i false := by rw [h0]; simp
   simp only [List.mem_filter, List.mem_range, not_and, Bool.not_eq_true', Bool.not_eq_false] at this;exact this hi
  have hl : listed = Array.replicate n true ++ Array.replicate (ops.size - n) false := by
   refine Array.ext (by simp [inv.size]; omega) fun i h1 h2 => ?_
   by_cases hi : i < n
   ·have := Yg i hi;rw [Array.getElem_append_left (by simpa using hi)];simp [h1] at this;simp [this]
   ·have := inv.tail i (by omega) (by rw [<- inv.size]; exact h1);rw [Array.getElem_append_right (by simp; omega)];simp [h1] at this;simp [this]
  obtain ⟨s, hsq, hst, ι, ιL, hιl, mid, gd, slot⟩ := mid
  have hs : s = q := by
   rcases Nat.lt_or_ge s q with h | h
   ·have h1 := hst s h;rw [Yg _ (hms s h).1] at h1;simp at h1
   ·omega
  subst hs;have hw := ht (ι ++ ιL) a w gd (frAt (List.range n) (fun j hj => ⟨List.mem_range.1 hj, Yg j (List.mem_range.1 hj)⟩) mid slot);have := wpAny_of_seq (md := .any) (Q' := Q) (ops.toList.drop n) n listed a w (fun j => by simp [List.getElem?_drop]) (by rw [hl]; simpa using hseq) hw;simpa using this
 | succ u ih =>
  intro listed a w inv hm mid
  have hun : ∃ i, i < n /\ listed.getD i false = false := by
   cases hf : (List.range n).filter fun i => !listed.getD i false with
   | nil => rw [hf] at hm; simp at hm
   | cons i l =>
    have : i ∈ (List.range n).filter fun i => !listed.getD i false := by rw [hf]; simp
    simp only [List.mem_filter, List.mem_range, Bool.not_eq_true'] at this;exact ⟨i, this⟩
  have hsz : ∀ {i}, i < n -> i < listed.size := fun h => by rw [inv.size]; omega
  have hready : Region.ready .any ops listed ≠ [] := by
   obtain ⟨i, hi, hu⟩ := hun
   have : ∃ i, i < n /\ listed.getD i false = false /\ ∀ j, j < i -> listed.getD j false = true := by
    induction i using Nat.strongRecOn with
    | _ i ihh =>
     by_cases hex : ∃ j, j < i /\ listed.getD j false = false
     ·obtain ⟨j, hj, hju⟩ := hex;exact ihh j hj (by omega) hju
     ·exact ⟨i, hi, hu, fun j hj => by
       cases hb : listed.getD j false with
       | true => rfl
       | false => exact absurd ⟨j, hj, hb⟩ hex⟩
   obtain ⟨i, hi, hu, hmin⟩ := this;intro h0
   have : i ∈ Region.ready .any ops listed := by
    have hlt : i < ops.size := by omega
    refine mem_ready.2 ⟨getD_in (hsz hi) hu, ops[i], by simp [hlt], fun e he hb => ?_⟩;have h1 := List.all_eq_true.1 hea i (List.mem_range.2 hi);simp only [hlt, Array.getElem?_eq_getElem, Array.all_eq_true_iff_forall_mem] at h1;have := h1 e he;simp [hb] at this;exact hmin _ this
   rw [h0] at this
   cases this
  rw [show u + 1 + (ops.size - n) = (u + (ops.size - n)) + 1 by omega];refine ⟨fun h0 => absurd h0 hready, fun i hi => ?_⟩
  have hin : i < n := by
   rcases hsc with h | ⟨hs, hc⟩
   ·obtain ⟨_, o, ho, _⟩ := mem_ready.1 hi;have := (Array.getElem?_eq_some_iff.1 ho).1;omega
   ·rcases Nat.lt_or_ge i n with h | h
    ·exact h
    ·obtain ⟨k, hk, hu⟩ := hun
     by_cases hne : n < ops.size
     ·exact absurd hi (tail_waits hs hc hne inv _ k rfl hk (getD_in (hsz hk) hu) i h)
     ·obtain ⟨_, o, ho, _⟩ := mem_ready.1 hi;have := (Array.getElem?_eq_some_iff.1 ho).1;omega
  obtain ⟨hiu, o, ho, Yg⟩ := mem_ready.1 hi
  have hds : (ops.toList.map (·.dst))[i]? = some o.dst := by simp [ho]
  have hdeps : ∀ j ∈ Zk i o, j < n /\ listed.getD j false = true := fun j hj => by
   refine ⟨by have := Z4 j hj; omega, ?_⟩;simp [Zk] at hj;obtain ⟨e, ⟨he, hb, _⟩, rfl⟩ := hj;exact Yg e he hb
  have hcount : ((List.range n).filter fun k => !(listed.setIfInBounds i true).getD k false).length = u := by
   have e : ((List.range n).filter fun k => !(listed.setIfInBounds i true).getD k false) = ((List.range n).filter fun k => !listed.getD k false).filter (fun k => k ≠ i) := by
    rw [List.filter_filter];refine List.filter_congr fun k hk => ?_
    by_cases hki : k = i
    ·subst hki;simp [hsz hin]
    ·rw [getD_set_ne false (fun h => hki h.symm)];simp [hki]
   rw [e]
   have hmem : i ∈ (List.range n).filter fun k => !listed.getD k false := by
    simp only [List.mem_filter, List.mem_range, Bool.not_eq_true'];exact ⟨hin, getD_both hiu⟩
   have hnd : ((List.range n).filter fun k => !listed.getD k false).Nodup := List.nodup_range.filter _;have := List.Nodup.erase_eq_filter hnd i
   have e2 : (((List.range n).filter fun k => !listed.getD k false).filter (fun k => k ≠ i)) = ((List.range n).filter fun k => !listed.getD k false).erase i := by
    rw [this];refine List.filter_congr fun k _ => ?_
    by_cases h : k = i <;> simp [h, bne]
   rw [e2, List.length_erase_of_mem hmem, hm]
   rfl
  have next : ∀ v w', ZoT F H Ls y om m q (ops.toList.map (·.dst)) fr vals n ι0 w0 (listed.setIfInBounds i true) (a.put o.dst v) w' -> wpAny P .any ops Q (u + (ops.size - n)) (listed.setIfInBounds i true) (a.put o.dst v) w' := fun v w' h =>
   ih _ _ w' (inv.set hi hin) hcount h
  have hiu2 : listed.getD i false = false := getD_both hiu;obtain ⟨s, hsq, hst, ι, ιL, hιl, mid, gd, slot⟩ := mid
  -- a slot that this operation does not write
  have hoth : ∀ {e : Nat} {v : Value}, o.dst ≠ some e -> ((a.put o.dst v).tmps).getD e undef = a.tmps.getD e undef := fun {e v} hne => by
   cases hdst : o.dst with
   | none => rfl
   | some d =>
    have hne2 : d ≠ e := fun h => hne (by rw [hdst, h]);simp [Act.put, Array.getD_eq_getD_getElem?, Array.getElem?_setIfInBounds_ne hne2]
  have hapart : ∀ {j e : Nat}, j < n -> j ≠ i -> (ops.toList.map (·.dst))[j]? = some (some e) -> o.dst ≠ some e := fun {j e} hj hji hd h => by
   have := List.all_eq_true.1 (List.all_eq_true.1 hap i (List.mem_range.2 hin)) j (List.mem_range.2 hj);simp [hds, h, hd, Ne.symm hji] at this
  have hdm : ∀ t, t < q -> (ops.toList.map (·.dst))[m t]? = some (om t).dst := fun t ht => by
   have := (hms t ht).2.1;simp [this]
  unfold wpOp;simp only [ho]
  by_cases him : ∃ s', s' < q /\ i = m s'
  ·-- a late one
   obtain ⟨s', hs'q, rfl⟩ := him
   have hss : s' = s := by
    have h1 := hst s' hs'q;rw [hiu2] at h1
    have h2 : ¬ s' < s := by simpa using h1.symm
    rcases Nat.lt_or_ge s s' with h | h
    ·obtain ⟨k, rfl⟩ : ∃ k, s' = k + 1 := ⟨s' - 1, by omega⟩;have h3 := hch k hs'q
     have e : om (k + 1) = o := by have := (hms (k + 1) hs'q).2.1; rw [ho] at this; simpa using this.symm
     rw [e] at h3;have h4 := (hdeps _ h3).2;rw [hst k (by omega)] at h4
     have : k < s := by simpa using h4
     omega
    ·omega
   subst hss;obtain ⟨_, hom, hgm, hvm⟩ := hms s' hs'q;rw [hom] at ho; simp at ho; subst ho
   let ls := (List.range n).filter fun j => listed.getD j false
   have hls : ∀ j ∈ ls, j < n /\ listed.getD j false = true := fun j hj => by simpa [ls] using hj
   have hfr := frAt (s := s') ls hls mid slot
   have hag : YJ (opR (om s').op) (ZA (ops.toList.map (·.dst)) vals ls (Zw ((ops.toList.map (·.dst)).take n) fr)) (ZA (ops.toList.map (·.dst)) vals (List.range n) (Zw ((ops.toList.map (·.dst)).take n) fr)) :=
    Yo hap hdl hvl (fun j hj => (hls j hj).1) fun t ht j hj hd => by
     have := hdeps j (hrd s' hs'q t ht j hj hd);simpa [ls] using this
   have hl := (Ya (Qc om y (by rw [Zy, Zy]) hag s')).2 (hlate s' hs'q)
   have hw : Region.wanted (om s') (yielded ops a.tmps) = true := by simp [Region.wanted, hgm]
   rw [if_pos hw];refine .inl (Ys hl gd.rel hfr fun x H' ι' v w' hk g r => ?_);obtain ⟨rfl, rfl⟩ := hk
   obtain ⟨ι1, ιL', rfl, hl1⟩ : ∃ ι1 ιL', ι' = ι1 ++ ιL' /\ ι1.length = H.length := ⟨ι'.take H.length, ι'.drop H.length, (List.take_append_drop _ _).symm, by
    have := g.rel.len;rw [List.length_append] at this
    simp; omega⟩
   have trans : ∀ {x : V} {v : Value}, RV (Own F ιL) H ι w x v -> RV (Own F ιL') H ι1 w' x v := fun {x v} h => (g.rv h.widen).narrow hl1 h.refB
   have ZA : ∀ t, t < q -> (listed.setIfInBounds (m s') true).getD (m t) false = decide (t < s' + 1) := fun t ht => by
    by_cases e : t = s'
    ·subst e; simp [hsz hin]
    ·rw [getD_set_ne false (fun h => e (hinj _ _ ht hs'q h.symm)), hst t ht];exact decide_eq_decide.2 (by omega)
   refine next v w' ⟨s' + 1, by omega, ZA, ι1, ιL', hl1, ⟨g.rel.front hl1 mid.rel.refH, ?_, ?_, fun t z ht' hnt => ?_, fun j e z hj hlj hd hz hlt => ?_⟩, gd.trans g, fun t ht' d hd hlt => ?_⟩
   ·cases (om s').dst <;> simp [Act.put, mid.size]
   ·cases (om s').dst <;> exact mid.defers
   ·rw [hoth (fun e => hnt (by
     rw [List.mem_iff_getElem?]
     exact ⟨m s', by rw [List.getElem?_take_of_lt hin, hds, e]⟩))]
    exact trans (mid.old t z ht' hnt)
   ·by_cases hij : j = m s'
    ·subst hij;rw [hvm] at hz; simp at hz; subst hz;exact .junk _
    ·have hl' : listed.getD j false = true := by rwa [getD_set_ne false (fun h => hij h.symm)] at hlj
     rw [hoth (hapart hj hij hd)];exact trans (mid.new j e z hj hl' hd hz hlt)
   ·by_cases e : t = s'
    ·subst e;rw [hd]
     have : d < a.tmps.size := by rw [mid.size]; exact hlt
     have e2 : ((a.put (some d) v).tmps).getD d undef = v := by simp [Act.put, Array.getD, this]
     rw [e2]; exact r
    ·have ht2 : t < s' := by omega
     have hne : m t ≠ m s' := fun h => e (hinj _ _ (by omega) hs'q h);rw [hoth (hapart (hms t (by omega)).1 hne (by rw [hdm t (by omega), hd]))];exact g.rv (slot t ht2 d hd hlt)
  ·-- another
   have him2 : ∀ s', s' < q -> i ≠ m s' := fun s' h e => him ⟨s', h, e⟩;obtain ⟨z, hz, hok'⟩ := hok i o hin him2 ho;have hfr := mid.fr _ hdeps
   have next' : ∀ ι' v w', Good (Own F ιL) H ι w H ι' w' -> RV (Own F ιL) H ι' w' z v -> wpAny P .any ops Q (u + (ops.size - n)) (listed.setIfInBounds i true) (a.put o.dst v) w' := fun ι' v w' g r => by
    have g2 := Good.front hιl gd.rel g rfl;refine next v w' ⟨s, hsq, fun t ht => ?_, ι', ιL, g.rel.len, mid.put hap g hin hds hz r, gd.trans g2, fun t ht d hd hlt => ?_⟩
    ·rw [getD_set_ne false (him2 t ht)]; exact hst t ht
    ·rw [hoth (hapart (hms t (by omega)).1 (fun h => him2 t (by omega) h.symm) (by rw [hdm t (by omega), hd]))];exact g2.rv (slot t ht d hd hlt)
   have run : Zj P o (ZA (ops.toList.map (·.dst)) vals (Zk i o) (Zw ((ops.toList.map (·.dst)).take n) fr)) H (fun x H' => x = z /\ H' = H) -> o.wp P a w (wpAny P .any ops Q (u + (ops.size - n)) (listed.setIfInBounds i true)) Q := fun h =>
    Y9 h mid.rel hfr fun x H' ι' v w' hk g r => by
     obtain ⟨rfl, rfl⟩ := hk;exact next' ι' v w' g r
   split at hok'
   ·rename_i hg
    have hw : Region.wanted o (yielded ops a.tmps) = true := by simp [Region.wanted, hg]
    rw [if_pos hw];exact .inl (run hok')
   ·rename_i j b hg;rcases hok' with ⟨c, hc, h1, h2⟩ | ⟨hc, hyt⟩
    rotate_left
    ·have hyl := Z9 hfr hc
     have hw : ¬ (Region.wanted o (yielded ops a.tmps) = true) := by simp [Region.wanted, hg, hyl]
     rw [if_neg hw];exact next' ι undef w (Good.refl mid.rel) (by rw [hyt]; exact Xq)
    have hyl := Xx hfr hc
    by_cases hcb : c = b
    ·have hw : Region.wanted o (yielded ops a.tmps) = true := by simp [Region.wanted, hg, hyl, hcb]
     rw [if_pos hw];exact .inl (run (h1 hcb))
    ·have hw : ¬ (Region.wanted o (yielded ops a.tmps) = true) := by simp [Region.wanted, hg, hyl, hcb]
     rw [if_neg hw];exact next' ι undef w (Good.refl mid.rel) (by rw [h2 hcb]; exact Xq)
def QO (P : Program) (H : List Obj) : List Oper -> List V -> List Obj -> (List V -> List Obj -> Prop) -> Prop
 | [], fr, L, K => K fr L
 | o :: r, fr, L, K => ∃ y L', Zl P o fr (H ++ L) (fun x H' => x = y /\ H' = H ++ L') /\ QO P H r (ptO fr o.dst y) L' K
def YS : List Nat -> List Oper -> List Oper
 | [], l => l
 | m :: ms, l => YS ms (VK m l)
theorem WM : ∀ (ms : List Nat) (l : List Oper), (YS ms l).map (·.dst) = l.map (·.dst)
 | [], _ => rfl
 | m :: ms, l => by rw [YS, WM ms, JY]
theorem WZ : ∀ (ms : List Nat) (l : List Oper), (YS ms l).length = l.length
 | [], _ => rfl
 | m :: ms, l => by rw [YS, WZ ms, J8]
theorem Y7 : ∀ (ms : List Nat) (l : List Oper) (i : Nat), i ∉ ms -> (YS ms l)[i]? = l[i]?
 | [], _, _, _ => rfl
 | m :: ms, l, i, h => by
  simp at h;rw [YS, Y7 ms _ i h.2, Y6, if_neg h.1]
theorem Vq : ∀ (ms : List Nat) (l : List Oper) (i : Nat) (o : Oper), i ∈ ms -> l[i]? = some o -> (YS ms l)[i]? = some (Yx o)
 | [], _, _, _, h, _ => by cases h
 | m :: ms, l, i, o, h, ho => by
  rw [YS]
  by_cases hi : i ∈ ms
  ·by_cases e : i = m
   ·subst e;have := Vq ms (VK i l) i (Yx o) hi (by rw [Y6, if_pos rfl, ho]; rfl);rw [this]; rfl
   ·exact Vq ms (VK m l) i o hi (by rw [Y6, if_neg e]; exact ho)
  ·have e : i = m := by
    rcases List.mem_cons.1 h with e | e
    ·exact e
    ·exact absurd e hi
   subst e;rw [Y7 ms _ _ hi, Y6, if_pos rfl, ho]; rfl
def Zib (l : List Oper) (n : Nat) (ms : List Nat) : Bool :=
 (ms.all fun m => decide (m < n) && match l[m]? with
  | some o => o.guard.isNone && (opR o.op).all fun t => (List.range n).all fun j => match (l.map (·.dst))[j]? with
    | some (some d) => decide (d ≠ t) || (Zk m o).contains j
    | _ => true
  | none => false) && ((List.range (ms.length - 1)).all fun s => match ms[s]?, ms[s + 1]? with
   | some a, some b => match l[b]? with | some o => (Zk b o).contains a | none => false
   | _, _ => false) && (List.range ms.length).all fun s => (List.range ms.length).all fun t => decide (s = t) || decide (ms[s]? ≠ ms[t]?)
theorem VA {P H} : ∀ (os : List Oper) (fr : List V) (L : List Obj) (K : List V -> List Obj -> Prop), QO P H os fr L K ->
  ∃ (y : Nat -> V) (Ls : Nat -> List Obj), Ls 0 = L /\ (∀ s, s < os.length -> Zl P (os.getD s default) (pts (fun s => os.getD s default) y s fr) (H ++ Ls s) (fun x H' => x = y s /\ H' = H ++ Ls (s + 1))) /\ K (pts (fun s => os.getD s default) y os.length fr) (Ls os.length)
 | [], fr, L, K, h => ⟨fun _ => .junk, fun _ => L, rfl, fun s hs => by simp at hs, h⟩
 | o :: r, fr, L, K, ⟨y0, L', h1, h2⟩ => by
  obtain ⟨y, Ls, e0, e1, e2⟩ := VA r _ L' K h2
  have hp : ∀ s (f : List V), pts (fun s => (o :: r).getD s default) (fun s => match s with | 0 => y0 | s + 1 => y s) (s + 1) f = pts (fun s => r.getD s default) y s (ptO f o.dst y0) := fun s => by
   induction s with
   | zero => intro f; rfl
   | succ s ih => intro f; rw [pts, ih f, pts]; rfl
  refine ⟨fun s => match s with | 0 => y0 | s + 1 => y s, fun s => match s with | 0 => L | s + 1 => Ls s, rfl, fun s hs => ?_, ?_⟩
  ·cases s with
   | zero => simp only [e0]; exact h1
   | succ s =>
    rw [hp];exact e1 s (by simpa using hs)
  ·simp only [List.length_cons];rw [hp];exact e2
def ZO : List Oper -> Nat -> Oper
 | [], _ => default
 | o :: _, 0 => o
 | _ :: l, n + 1 => ZO l n
theorem Wu : ∀ (l : List Oper) (n : Nat), ZO l n = l.getD n default
 | [], n => by simp [ZO]
 | o :: l, 0 => rfl
 | o :: l, n + 1 => by simp [ZO, Wu l n]
theorem VY (ms : List Nat) {P : Program} {id : Nat} {l : List Oper} {fr : List V} {H : List Obj} {Q : Exit -> List V -> List Obj -> Prop} {t} (n : Nat) (hm : P.follows .mixedOrders = true) (hB : X6 (List.toArray l) n = true) (hR : Vf (List.toArray (YS ms l)) n = true) (hL : Zib l n ms = true) (hfl : fr.length <= 1000000)
  (h : hs P (l.map (·.dst)) H (Zs (fun fr' => QO P H (ms.map fun m => ZO l m) (idF fr') [] (Zs (fun fr2 L => XP P (l.map (·.dst)) (l.drop n) fr2 (H ++ L) (Zs (Q .normal) ⟨⟩)) ⟨⟩)) ⟨⟩) ((YS ms l).take n) (idF fr)) :
  AWP P (.region id (Zs (List.toArray l) t) true) fr H Q := fun F ι a w hr hf => by
 refine wp_region_any hm ?_;have hmap : (ms.map fun m => ZO l m) = ms.map fun m => l.getD m default := List.map_congr_left fun m _ => Wu l m;rw [hmap] at h;have hB' := hB;simp only [X6, Bool.and_eq_true, decide_eq_true_eq] at hB';obtain ⟨⟨⟨⟨hn, _⟩, _⟩, hap⟩, _⟩ := hB'
 have hn2 : n <= l.length := by simpa using hn
 simp only [Zib, Bool.and_eq_true, List.all_eq_true, decide_eq_true_eq, List.mem_range, Bool.or_eq_true] at hL;obtain ⟨⟨hL1, hL2⟩, hL3⟩ := hL;have hds : (YS ms l).map (·.dst) = l.map (·.dst) := WM ms l;have hh := Zat (P := P) (H := H) (ops := List.toArray (YS ms l)) (n := n) (fr := fr) (K := fun fr' => QO P H (ms.map fun m => l.getD m default) fr' [] (fun fr2 L => XP P (l.map (·.dst)) (l.drop n) fr2 (H ++ L) (Q .normal))) (by simpa [WZ] using hn2) (by simpa [hds] using hap) hR _ 0 [] (Nat.zero_le _) rfl (by simp; rfl) (by simpa [hds, ZA, Zs, idF] using h);obtain ⟨ys, h1, ⟨h2a, h2b⟩, h3⟩ := YU _ 0 [] rfl hh
 simp only [List.nil_append, hds] at h2a h2b h3;have hlen : ys.length = n := h2a;have g0 := Good.drew hr;have hf0 := g0.fr hf;have hget : ∀ k, k < n -> ((YS ms l).take n)[k]? = (YS ms l)[k]? := fun k hk => List.getElem?_take_of_lt hk;have hjl : (Zw ((l.map (·.dst)).take n) fr).length = fr.length := Zz _ _;obtain ⟨y, Ls, e0, e1, e2⟩ := VA _ _ _ _ h2b;rw [List.length_map] at e1 e2
 let om : Nat -> Oper := fun s => (ms.map fun m => l.getD m default).getD s default
 let m : Nat -> Nat := fun s => ms.getD s 0
 have hmm : ∀ s, s < ms.length -> m s ∈ ms /\ ms[s]? = some (m s) := fun s hs => by
  have : m s = ms[s] := by simp [m, hs]
  rw [this]; exact ⟨List.getElem_mem _, List.getElem?_eq_getElem hs⟩
 have homl : ∀ s, s < ms.length -> om s = l.getD (m s) default := fun s hs => by simp [om, m, hs]
 have hlat : ∀ s, s < ms.length -> m s < n /\ l[m s]? = some (om s) /\ (om s).guard = none := fun s hs => by
  obtain ⟨h4, h5⟩ := hL1 _ (hmm s hs).1
  have hlt : m s < l.length := by omega
  have e : l[m s]? = some (om s) := by rw [homl s hs, List.getD_eq_getElem?_getD, List.getElem?_eq_getElem hlt]; rfl
  rw [e] at h5;simp only [Bool.and_eq_true, Option.isNone_iff_eq_none] at h5;exact ⟨h4, e, h5.1⟩
 have hvm : ∀ s, s < ms.length -> ys[m s]? = some .junk := fun s hs => by
  obtain ⟨q1, q2, q3⟩ := hlat s hs;obtain ⟨z, hy, hk⟩ := h3 (m s) (Yx (om s)) (by rw [hget _ q1]; exact Vq ms l _ _ (hmm s hs).1 q2);rw [Nat.zero_add] at hy;have e1 : (Yx (om s)).guard = none := q3;rw [e1] at hk;simp only [Yx, Zj, Zl, ZX, Z8, aop, Zv] at hk
  have hk2 : gt (ZA (l.map (·.dst)) ys (Zk (0 + m s) { om s with op := .move (.tmp 1000000) }) (Zw ((l.map (·.dst)).take n) fr)) 1000000 = z := by simpa [ev] using hk
  rw [JR (by rw [Zy, hjl]; exact hfl)] at hk2;rw [hy, hk2]
 have hfin : ZA (l.map (·.dst)) ys (List.range n) (Zw ((l.map (·.dst)).take n) fr) = ZA (l.map (·.dst)) ys (List.range n) fr := WY hap (by simpa using hn2) hlen
 have := Js (Q := fun e a' w' => ∃ fr' H' ι', Q e fr' H' /\ Good F H ι w H' ι' w' /\ Fr F H' ι' w' fr' a') (F := F) (fr := fr) (vals := ys) (P := P) (H := H) (Ls := Ls) (y := y) (om := om) (m := m) (q := ms.length) (ops := List.toArray l) (ι0 := ι) (w0 := { w with drawn := w.drawn + 1 }) hB hlen
  (fun s hs => ⟨(hlat s hs).1, by simpa using (hlat s hs).2.1, (hlat s hs).2.2, hvm s hs⟩)
  (fun s t hs ht e => by
   rcases hL3 s hs t ht with h4 | h4
   ·exact h4
   ·exact absurd (by rw [(hmm s hs).2, (hmm t ht).2, e]) h4)
  (fun s hs => by
   have h4 := hL2 s (by omega);rw [(hmm s (by omega)).2, (hmm (s + 1) hs).2] at h4;simp only at h4;rw [(hlat (s + 1) hs).2.1] at h4
   simpa using h4)
  (fun s hs t ht j hj hd => by
   obtain ⟨_, h5⟩ := hL1 _ (hmm s hs).1;rw [(hlat s hs).2.1] at h5;simp only [Bool.and_eq_true, List.all_eq_true, List.mem_range] at h5;have h6 := h5.2 t ht j hj;simp only at hd;rw [hd] at h6
   simpa using h6)
  (fun s hs => by
   simp only;rw [hfin]
   exact e1 s hs)
  (fun i o hi him ho => by
   have := h3 i o (by
    rw [hget i hi, Y7]
    ·simpa using ho
    ·intro hm';obtain ⟨s, hs, e⟩ := List.mem_iff_getElem.1 hm'
     exact him s hs (by simp [m, hs, e]))
   rwa [Nat.zero_add] at this)
  (fun ι1 a1 w1 g1 f1 => ZH (P := P) (ops := List.toArray l) _ _ (H ++ Ls ms.length) _ (by
   simp only;rw [hfin]
   exact e2) F ι1 a1 w1 g1.rel f1 fun fr' H' ι' a' w' k g f => ⟨fr', H', ι', k, g0.trans (g1.trans g), f⟩)
  n (Array.replicate l.length false) a { w with drawn := w.drawn + 1 }
  ⟨by simp, fun j oj _ hl => (by rw [getD_replicate_false] at hl; cases hl), fun t _ ht => getD_in (by simpa using ht) (getD_replicate_false _ _)⟩
  (by
   rw [List.filter_eq_self.2 (fun i _ => by rw [getD_replicate_false]; rfl)]
   simp)
  ⟨0, Nat.zero_le _, fun t _ => by rw [getD_replicate_false]; simp, ι, [], hr.len, by
   have g1 : Rel F (H ++ []) (ι ++ []) { w with drawn := w.drawn + 1 } := by simpa using g0.rel
   have r1 := g1.front hr.len hr.refH
   exact ⟨r1, hf0.1, hf0.2.1, fun t x ht _ => RV.narrow (L := []) hr.len (by simpa using hf0.2.2 t x ht) (hf0.2.2 t x ht).refB, fun j d x _ hl => by rw [getD_replicate_false] at hl; cases hl⟩,
   by rw [e0]; simpa using Good.refl g0.rel, fun t ht => by omega⟩
 simp only [List.size_toArray] at this;simp only [Zs, List.size_toArray];rwa [show n + (l.length - n) = l.length by omega] at this
@[go_sem] theorem ZgJ {o : Oper} {l} : ZO (o :: l) 0 = o := rfl
@[go_sem] theorem ZhK {o : Oper} {l n} : ZO (o :: l) (n + 1) = ZO l n := rfl
@[go_sem] theorem ZkG {l : List Oper} : YS [] l = l := rfl
@[go_sem] theorem ZhQ {m ms} {l : List Oper} : YS (m :: ms) l = YS ms (VK m l) := rfl
@[go_sem] theorem ZiN {P H fr L K} : QO P H [] fr L K = K fr L := rfl
theorem VW {P H o r fr L K} (y : V) (L' : List Obj) (h : Zl P o fr (H ++ L) (fun x H' => x = y /\ H' = H ++ L')) (k : QO P H r (ptO fr o.dst y) L' K) : QO P H (o :: r) fr L K := ⟨y, L', h, k⟩
theorem ZaT {P : Program} {H : List Obj} {f azs} {a b : PV} {B : V -> Prop} {t} (h : ACalls P f azs [] fun x H' => x = .tup [.p a, .p b] /\ H' = []) (k : B (.tup [.p a, .p b])) (ha : ZQ 0 azs = true := by rfl) :
  exq (fun y => ACalls P f azs H (Zs (Zs (fun x H' => x = y /\ H' = H) ⟨⟩) ⟨⟩)) (Zs B t) :=
 ⟨.tup [.p a, .p b], (h.behind ha H).mono fun x H' hq => by
  obtain ⟨y, H1, ⟨rfl, rfl⟩, rfl, rfl⟩ := hq
  simp [shV, Yd, Zs], k⟩
def ptl (l : List Oper) : List (Nat × V) -> List V -> List V
 | [], fr => fr
 | (m, y) :: dn, fr => ptO (ptl l dn fr) (ZO l m).dst y
theorem Wk (l : List Oper) : ∀ (dn : List (Nat × V)) (fr : List V), (ptl l dn fr).length = fr.length
 | [], _ => rfl
 | (m, y) :: dn, fr => by rw [ptl, Zby, Wk l dn fr]
theorem QS (l : List Oper) {x : V} {t : Nat} : ∀ (dn : List (Nat × V)) (fr : List V), (ptl l dn fr)[t]? = some x -> (∃ p, p ∈ dn /\ (ZO l p.1).dst = some t /\ x = p.2 /\ t < fr.length) \/ fr[t]? = some x
 | [], _, h => .inr h
 | (m, y) :: dn, fr, h => by
  rcases ZbA h with ⟨h1, h2, h3⟩ | ⟨_, h2⟩
  ·exact .inl ⟨(m, y), by simp, h1, h2, by rw [Wk] at h3; exact h3⟩
  ·rcases QS l dn fr h2 with ⟨p, h3, h4⟩ | h3
   ·exact .inl ⟨p, by simp [h3], h4⟩
   ·exact .inr h3
theorem Ve (l : List Oper) {R : List Nat} {f1 f2 : List V} (hl : f1.length = f2.length) (h : YJ R f1 f2) : ∀ dn, YJ R (ptl l dn f1) (ptl l dn f2)
 | [] => h
 | (m, y) :: dn => fun t ht => by
  have ih := Ve l hl h dn t ht
  have hl2 : (ptl l dn f1).length = (ptl l dn f2).length := by rw [Wk, Wk, hl]
  simp only [ptl]
  cases (ZO l m).dst with
  | none => exact ih
  | some d =>
   simp only [ptO, Yj, Ks] at ih ⊢;rw [List.getElem?_set, List.getElem?_set]
   split
   ·rw [hl2]
   ·exact ih
def YC (l : List Oper) (rem : List Nat) : List Nat := rem.filter fun m => rem.all fun m' => !(Zk m (ZO l m)).contains m'
def Ur (P : Program) (H : List Obj) (l : List Oper) : Nat -> List Nat -> List V -> List Obj -> (List V -> List Obj -> Prop) -> Prop
 | 0, _, fr, L, K => K fr L
 | n + 1, rem, fr, L, K => ∀ m ∈ YC l rem, ∃ y L', Zl P (ZO l m) fr (H ++ L) (fun x H' => x = y /\ H' = H ++ L') /\ Ur P H l n (rem.erase m) (ptO fr (ZO l m).dst y) L' K
def Zp1 (P : Program) (F : Nat -> Prop) (H : List Obj) (l : List Oper) (ms : List Nat) (bs : List V) (K : List V -> List Obj -> Prop) (ds : List (Option Nat)) (fr vals : List V) (n : Nat) (ι0 : List (Option Nat)) (w0 : World) (listed : Array Bool) (a : Act) (w : World) : Prop :=
 ∃ (rem : List Nat) (dn : List (Nat × V)) (L : List Obj), rem.Nodup /\ (∀ m ∈ rem, m ∈ ms) /\ (∀ m ∈ ms, listed.getD m false = decide (m ∉ rem)) /\ (∀ p ∈ dn, p.1 ∈ ms /\ p.1 ∉ rem) /\ Ur P H l rem.length rem (ptl l dn bs) L K /\
  ∃ ι ιL, ι.length = H.length /\ Mid (Own F ιL) H ds fr vals n listed ι a w /\ Good F H ι0 w0 (H ++ L) (ι ++ ιL) w /\
   ∀ p ∈ dn, ∀ d, (ZO l p.1).dst = some d -> d < fr.length -> RV F (H ++ L) (ι ++ ιL) w p.2 (a.tmps.getD d undef)
theorem Jm {P : Program} {ops : Array Oper} {Q : Exit -> Act -> World -> Prop} {F H fr vals} {n : Nat} {l : List Oper} {ms : List Nat} {K : List V -> List Obj -> Prop} (hol : ops.toList = l) (hB : X6 ops n = true) (hvl : vals.length = n)
  (hms : ∀ m ∈ ms, m < n /\ ops[m]? = some (ZO l m) /\ (ZO l m).guard = none /\ vals[m]? = some .junk)
  (hrd : ∀ m ∈ ms, ∀ t ∈ opR (ZO l m).op, ∀ j, j < n -> (ops.toList.map (·.dst))[j]? = some (some t) -> j ∈ Zk m (ZO l m))
  (hok : ∀ (i : Nat) (o : Oper), i < n -> i ∉ ms -> ops[i]? = some o -> ZbF P (ops.toList.map (·.dst)) (Zw ((ops.toList.map (·.dst)).take n) fr) H vals i o) {ι0 w0}
  (ht : ∀ fr' L ι a w, K fr' L -> Good F H ι0 w0 (H ++ L) ι w -> Fr F (H ++ L) ι w fr' a -> wpList P ops Q (ops.toList.drop n) a w) :
  ∀ (u : Nat) (listed : Array Bool) (a : Act) (w : World), HeadInv .any ops n listed -> ((List.range n).filter fun i => !listed.getD i false).length = u ->
   Zp1 P F H l ms (ZA (ops.toList.map (·.dst)) vals (List.range n) (Zw ((ops.toList.map (·.dst)).take n) fr)) K (ops.toList.map (·.dst)) fr vals n ι0 w0 listed a w -> wpAny P .any ops Q (u + (ops.size - n)) listed a w := by
 simp only [X6, Bool.and_eq_true, decide_eq_true_eq, Bool.or_eq_true] at hB;obtain ⟨⟨⟨⟨hn, hsc⟩, hea⟩, hap⟩, hseq⟩ := hB
 have hdl : n <= (ops.toList.map (·.dst)).length := by simpa using hn
 -- the frame at late operations done, azs far azs is listed
 have frAt : ∀ {dn : List (Nat × V)} {L : List Obj} {listed : Array Bool} {ι ιL : List (Option Nat)} {a : Act} {w : World} (ls : List Nat), (∀ j ∈ ls, j < n /\ listed.getD j false = true) -> Mid (Own F ιL) H (ops.toList.map (·.dst)) fr vals n listed ι a w ->
   (∀ p ∈ dn, ∀ d, (ZO l p.1).dst = some d -> d < fr.length -> RV F (H ++ L) (ι ++ ιL) w p.2 (a.tmps.getD d undef)) ->
   Fr F (H ++ L) (ι ++ ιL) w (ptl l dn (ZA (ops.toList.map (·.dst)) vals ls (Zw ((ops.toList.map (·.dst)).take n) fr))) a := fun {dn L listed ι ιL a w} ls hls mid slot => by
  obtain ⟨f1, f2, f3⟩ := mid.fr ls hls;refine ⟨by rw [Wk]; exact f1, f2, fun t x hx => ?_⟩;rcases QS l dn _ hx with ⟨p, h1, h2, rfl, h4⟩ | h1
  ·exact slot p h1 t h2 (by rw [Zy, Zz] at h4; exact h4)
  ·exact (f3 t x h1).widen
 intro u
 induction u with
 | zero =>
  intro listed a w inv hm mid
  have Yg : ∀ i, i < n -> listed.getD i false = true := fun i hi => by
   have h0 := List.eq_nil_of_length_eq_zero hm
   have : i ∉ (List.range n).filter fun i => !listed.getD i false := by rw [h0]; simp
   simp only [List.mem_filter, List.mem_range, not_and, Bool.not_eq_true', Bool.not_eq_false] at this;exact this hi
  have hl : listed = Array.replicate n true ++ Array.replicate (ops.size - n) false := by
   refine Array.ext (by simp [inv.size]; omega) fun i h1 h2 => ?_
   by_cases hi : i < n
   ·have := Yg i hi;rw [Array.getElem_append_left (by simpa using hi)];simp [h1] at this;simp [this]
   ·have := inv.tail i (by omega) (by rw [<- inv.size]; exact h1);rw [Array.getElem_append_right (by simp; omega)];simp [h1] at this;simp [this]
  obtain ⟨rem, dn, L, hnd, hrm, hst, hdn, hlt, ι, ιL, hιl, mid, gd, slot⟩ := mid
  have hs : rem = [] := by
   cases rem with
   | nil => rfl
   | cons m r =>
    have h1 := hst m (hrm m (by simp));rw [Yg _ (hms m (hrm m (by simp))).1] at h1;simp at h1
  subst hs;have hw := ht _ L (ι ++ ιL) a w hlt gd (frAt (List.range n) (fun j hj => ⟨List.mem_range.1 hj, Yg j (List.mem_range.1 hj)⟩) mid slot);have := wpAny_of_seq (md := .any) (Q' := Q) (ops.toList.drop n) n listed a w (fun j => by simp [List.getElem?_drop]) (by rw [hl]; simpa using hseq) hw;simpa using this
 | succ u ih =>
  intro listed a w inv hm mid
  have hun : ∃ i, i < n /\ listed.getD i false = false := by
   cases hf : (List.range n).filter fun i => !listed.getD i false with
   | nil => rw [hf] at hm; simp at hm
   | cons i l =>
    have : i ∈ (List.range n).filter fun i => !listed.getD i false := by rw [hf]; simp
    simp only [List.mem_filter, List.mem_range, Bool.not_eq_true'] at this;exact ⟨i, this⟩
  have hsz : ∀ {i}, i < n -> i < listed.size := fun h => by rw [inv.size]; omega
  have hready : Region.ready .any ops listed ≠ [] := by
   obtain ⟨i, hi, hu⟩ := hun
   have : ∃ i, i < n /\ listed.getD i false = false /\ ∀ j, j < i -> listed.getD j false = true := by
    induction i using Nat.strongRecOn with
    | _ i ihh =>
     by_cases hex : ∃ j, j < i /\ listed.getD j false = false
     ·obtain ⟨j, hj, hju⟩ := hex;exact ihh j hj (by omega) hju
     ·exact ⟨i, hi, hu, fun j hj => by
       cases hb : listed.getD j false with
       | true => rfl
       | false => exact absurd ⟨j, hj, hb⟩ hex⟩
   obtain ⟨i, hi, hu, hmin⟩ := this;intro h0
   have : i ∈ Region.ready .any ops listed := by
    have hlt : i < ops.size := by omega
    refine mem_ready.2 ⟨getD_in (hsz hi) hu, ops[i], by simp [hlt], fun e he hb => ?_⟩;have h1 := List.all_eq_true.1 hea i (List.mem_range.2 hi);simp only [hlt, Array.getElem?_eq_getElem, Array.all_eq_true_iff_forall_mem] at h1;have := h1 e he;simp [hb] at this;exact hmin _ this
   rw [h0] at this
   cases this
  rw [show u + 1 + (ops.size - n) = (u + (ops.size - n)) + 1 by omega];refine ⟨fun h0 => absurd h0 hready, fun i hi => ?_⟩
  have hin : i < n := by
   rcases hsc with h | ⟨hs, hc⟩
   ·obtain ⟨_, o, ho, _⟩ := mem_ready.1 hi;have := (Array.getElem?_eq_some_iff.1 ho).1;omega
   ·rcases Nat.lt_or_ge i n with h | h
    ·exact h
    ·obtain ⟨k, hk, hu⟩ := hun
     by_cases hne : n < ops.size
     ·exact absurd hi (tail_waits hs hc hne inv _ k rfl hk (getD_in (hsz hk) hu) i h)
     ·obtain ⟨_, o, ho, _⟩ := mem_ready.1 hi;have := (Array.getElem?_eq_some_iff.1 ho).1;omega
  obtain ⟨hiu, o, ho, Yg⟩ := mem_ready.1 hi
  have hds : (ops.toList.map (·.dst))[i]? = some o.dst := by simp [ho]
  have hdeps : ∀ j ∈ Zk i o, j < n /\ listed.getD j false = true := fun j hj => by
   refine ⟨by have := Z4 j hj; omega, ?_⟩;simp [Zk] at hj;obtain ⟨e, ⟨he, hb, _⟩, rfl⟩ := hj;exact Yg e he hb
  have hcount : ((List.range n).filter fun k => !(listed.setIfInBounds i true).getD k false).length = u := by
   have e : ((List.range n).filter fun k => !(listed.setIfInBounds i true).getD k false) = ((List.range n).filter fun k => !listed.getD k false).filter (fun k => k ≠ i) := by
    rw [List.filter_filter];refine List.filter_congr fun k hk => ?_
    by_cases hki : k = i
    ·subst hki;simp [hsz hin]
    ·rw [getD_set_ne false (fun h => hki h.symm)];simp [hki]
   rw [e]
   have hmem : i ∈ (List.range n).filter fun k => !listed.getD k false := by
    simp only [List.mem_filter, List.mem_range, Bool.not_eq_true'];exact ⟨hin, getD_both hiu⟩
   have hnd : ((List.range n).filter fun k => !listed.getD k false).Nodup := List.nodup_range.filter _;have := List.Nodup.erase_eq_filter hnd i
   have e2 : (((List.range n).filter fun k => !listed.getD k false).filter (fun k => k ≠ i)) = ((List.range n).filter fun k => !listed.getD k false).erase i := by
    rw [this];refine List.filter_congr fun k _ => ?_
    by_cases h : k = i <;> simp [h, bne]
   rw [e2, List.length_erase_of_mem hmem, hm]
   rfl
  have next : ∀ v w', Zp1 P F H l ms (ZA (ops.toList.map (·.dst)) vals (List.range n) (Zw ((ops.toList.map (·.dst)).take n) fr)) K (ops.toList.map (·.dst)) fr vals n ι0 w0 (listed.setIfInBounds i true) (a.put o.dst v) w' -> wpAny P .any ops Q (u + (ops.size - n)) (listed.setIfInBounds i true) (a.put o.dst v) w' := fun v w' h =>
   ih _ _ w' (inv.set hi hin) hcount h
  have hiu2 : listed.getD i false = false := getD_both hiu;obtain ⟨rem, dn, L, hnd, hrm, hst, hdn, hlt, ι, ιL, hιl, mid, gd, slot⟩ := mid
  -- a slot that this operation does not write
  have hoth : ∀ {e : Nat} {v : Value}, o.dst ≠ some e -> ((a.put o.dst v).tmps).getD e undef = a.tmps.getD e undef := fun {e v} hne => by
   cases hdst : o.dst with
   | none => rfl
   | some d =>
    have hne2 : d ≠ e := fun h => hne (by rw [hdst, h]);simp [Act.put, Array.getD_eq_getD_getElem?, Array.getElem?_setIfInBounds_ne hne2]
  have hapart : ∀ {j e : Nat}, j < n -> j ≠ i -> (ops.toList.map (·.dst))[j]? = some (some e) -> o.dst ≠ some e := fun {j e} hj hji hd h => by
   have := List.all_eq_true.1 (List.all_eq_true.1 hap i (List.mem_range.2 hin)) j (List.mem_range.2 hj);simp [hds, h, hd, Ne.symm hji] at this
  have hdm : ∀ m ∈ ms, (ops.toList.map (·.dst))[m]? = some (ZO l m).dst := fun m hm => by
   have := (hms m hm).2.1;simp [this]
  unfold wpOp;simp only [ho]
  by_cases him : i ∈ ms
  ·-- a late one
   obtain ⟨_, hom, hgm, hvm⟩ := hms i him;rw [hom] at ho; simp at ho; subst ho
   have hir : i ∈ rem := by
    have h1 := hst i him;rw [hiu2] at h1;simpa using h1.symm
   have hrl : i ∈ YC l rem := by
    rw [YC, List.mem_filter];refine ⟨hir, List.all_eq_true.2 fun m' hm' => ?_⟩
    cases hc : (Zk i (ZO l i)).contains m' with
    | false => rfl
    | true =>
     have h3 := (hdeps m' (by simpa using hc)).2;rw [hst m' (hrm m' hm')] at h3;simp at h3;exact absurd hm' h3
   obtain ⟨k, hk⟩ : ∃ k, rem.length = k + 1 := ⟨rem.length - 1, by have := List.length_pos_of_mem hir; omega⟩;rw [hk] at hlt;obtain ⟨y, L', hstep, hlt'⟩ := hlt i hrl
   let ls := (List.range n).filter fun j => listed.getD j false
   have hls : ∀ j ∈ ls, j < n /\ listed.getD j false = true := fun j hj => by simpa [ls] using hj
   have hfr := frAt (dn := dn) (L := L) ls hls mid slot
   have hag : YJ (opR (ZO l i).op) (ZA (ops.toList.map (·.dst)) vals ls (Zw ((ops.toList.map (·.dst)).take n) fr)) (ZA (ops.toList.map (·.dst)) vals (List.range n) (Zw ((ops.toList.map (·.dst)).take n) fr)) :=
    Yo hap hdl hvl (fun j hj => (hls j hj).1) fun t ht j hj hd => by
     have := hdeps j (hrd i him t ht j hj hd);simpa [ls] using this
   have hl := (Ya (Ve l (by rw [Zy, Zy]) hag dn)).2 hstep
   have hw : Region.wanted (ZO l i) (yielded ops a.tmps) = true := by simp [Region.wanted, hgm]
   rw [if_pos hw];refine .inl (Ys hl gd.rel hfr fun x H' ι' v w' hk g r => ?_);obtain ⟨hx, rfl⟩ := hk;subst hx
   obtain ⟨ι1, ιL', rfl, hl1⟩ : ∃ ι1 ιL', ι' = ι1 ++ ιL' /\ ι1.length = H.length := ⟨ι'.take H.length, ι'.drop H.length, (List.take_append_drop _ _).symm, by
    have := g.rel.len;rw [List.length_append] at this
    simp; omega⟩
   have trans : ∀ {x : V} {v : Value}, RV (Own F ιL) H ι w x v -> RV (Own F ιL') H ι1 w' x v := fun {x v} h => (g.rv h.widen).narrow hl1 h.refB
   have ZA : ∀ m ∈ ms, (listed.setIfInBounds i true).getD m false = decide (m ∉ rem.erase i) := fun m hm => by
    by_cases e : m = i
    ·subst e; simp [hsz hin, hnd.not_mem_erase]
    ·rw [getD_set_ne false (fun h => e h.symm), hst m hm];refine decide_eq_decide.2 (not_congr ?_);rw [List.mem_erase_of_ne e]
   have hpi : ∀ p ∈ dn, p.1 ≠ i := fun p hp e => (hdn p hp).2 (e ▸ hir);refine next v w' ⟨rem.erase i, (i, x) :: dn, L', hnd.erase i, fun m hm => hrm m (List.mem_of_mem_erase hm), ZA, fun p hp => ?_, ?_, ι1, ιL', hl1, ⟨g.rel.front hl1 mid.rel.refH, ?_, ?_, fun t z ht' hnt => ?_, fun j e z hj hlj hd hz hlt => ?_⟩, gd.trans g, fun p hp d hd hlt => ?_⟩
   ·rcases List.mem_cons.1 hp with rfl | hp
    ·exact ⟨him, hnd.not_mem_erase⟩
    ·exact ⟨(hdn p hp).1, fun h => (hdn p hp).2 (List.mem_of_mem_erase h)⟩
   ·have : (rem.erase i).length = k := by rw [List.length_erase_of_mem hir]; omega
    rw [this];exact hlt'
   ·cases (ZO l i).dst <;> simp [Act.put, mid.size]
   ·cases (ZO l i).dst <;> exact mid.defers
   ·rw [hoth (fun e => hnt (by
     rw [List.mem_iff_getElem?]
     exact ⟨i, by rw [List.getElem?_take_of_lt hin, hds, e]⟩))]
    exact trans (mid.old t z ht' hnt)
   ·by_cases hij : j = i
    ·subst hij;rw [hvm] at hz; simp at hz; subst hz;exact .junk _
    ·have hl' : listed.getD j false = true := by rwa [getD_set_ne false (fun h => hij h.symm)] at hlj
     rw [hoth (hapart hj hij hd)];exact trans (mid.new j e z hj hl' hd hz hlt)
   ·rcases List.mem_cons.1 hp with rfl | hp
    ·simp only at hd;rw [hd]
     have : d < a.tmps.size := by rw [mid.size]; exact hlt
     have e2 : ((a.put (some d) v).tmps).getD d undef = v := by simp [Act.put, Array.getD, this]
     rw [e2]; exact r
    ·have hpm := (hdn p hp).1;rw [hoth (hapart (hms _ hpm).1 (hpi p hp) (by rw [hdm _ hpm, hd]))];exact g.rv (slot p hp d hd hlt)
  ·-- another
   obtain ⟨z, hz, hok'⟩ := hok i o hin him ho;have hfr := mid.fr _ hdeps
   have next' : ∀ ι' v w', Good (Own F ιL) H ι w H ι' w' -> RV (Own F ιL) H ι' w' z v -> wpAny P .any ops Q (u + (ops.size - n)) (listed.setIfInBounds i true) (a.put o.dst v) w' := fun ι' v w' g r => by
    have g2 := Good.front hιl gd.rel g rfl;refine next v w' ⟨rem, dn, L, hnd, hrm, fun m hm => ?_, hdn, hlt, ι', ιL, g.rel.len, mid.put hap g hin hds hz r, gd.trans g2, fun p hp d hd hlt => ?_⟩
    ·rw [getD_set_ne false (fun (e : i = m) => him (e ▸ hm))]; exact hst m hm
    ·have hpm := (hdn p hp).1;rw [hoth (hapart (hms _ hpm).1 (fun h => him (h ▸ hpm)) (by rw [hdm _ hpm, hd]))];exact g2.rv (slot p hp d hd hlt)
   have run : Zj P o (ZA (ops.toList.map (·.dst)) vals (Zk i o) (Zw ((ops.toList.map (·.dst)).take n) fr)) H (fun x H' => x = z /\ H' = H) -> o.wp P a w (wpAny P .any ops Q (u + (ops.size - n)) (listed.setIfInBounds i true)) Q := fun h =>
    Y9 h mid.rel hfr fun x H' ι' v w' hk g r => by
     obtain ⟨rfl, rfl⟩ := hk;exact next' ι' v w' g r
   split at hok'
   ·rename_i hg
    have hw : Region.wanted o (yielded ops a.tmps) = true := by simp [Region.wanted, hg]
    rw [if_pos hw];exact .inl (run hok')
   ·rename_i j b hg;rcases hok' with ⟨c, hc, h1, h2⟩ | ⟨hc, hyt⟩
    rotate_left
    ·have hyl := Z9 hfr hc
     have hw : ¬ (Region.wanted o (yielded ops a.tmps) = true) := by simp [Region.wanted, hg, hyl]
     rw [if_neg hw];exact next' ι undef w (Good.refl mid.rel) (by rw [hyt]; exact Xq)
    have hyl := Xx hfr hc
    by_cases hcb : c = b
    ·have hw : Region.wanted o (yielded ops a.tmps) = true := by simp [Region.wanted, hg, hyl, hcb]
     rw [if_pos hw];exact .inl (run (h1 hcb))
    ·have hw : ¬ (Region.wanted o (yielded ops a.tmps) = true) := by simp [Region.wanted, hg, hyl, hcb]
     rw [if_neg hw];exact next' ι undef w (Good.refl mid.rel) (by rw [h2 hcb]; exact Xq)
def Ka (l : List Oper) (n : Nat) (ms : List Nat) : Bool :=
  (ms.all fun m => decide (m < n) && decide (m < l.length) && ((ZO l m).guard.isNone && (opR (ZO l m).op).all fun t => (List.range n).all fun j => match (l.map (·.dst))[j]? with
        | some (some d) => decide (d ≠ t) || (Zk m (ZO l m)).contains j
        | _ => true)) && decide ms.Nodup
theorem Ku (ms : List Nat) {P : Program} {id : Nat} {l : List Oper} {fr : List V} {H : List Obj} {Q : Exit -> List V -> List Obj -> Prop} {t} (n : Nat) (hm : P.follows .mixedOrders = true) (hB : X6 (List.toArray l) n = true) (hR : Vf (List.toArray (YS ms l)) n = true) (hL : Ka l n ms = true) (hfl : fr.length <= 1000000)
  (h : hs P (l.map (·.dst)) H (Zs (fun fr' => Ur P H l ms.length ms (idF fr') [] (Zs (fun fr2 L => XP P (l.map (·.dst)) (l.drop n) fr2 (H ++ L) (Zs (Q .normal) ⟨⟩)) ⟨⟩)) ⟨⟩) ((YS ms l).take n) (idF fr)) :
  AWP P (.region id (Zs (List.toArray l) t) true) fr H Q := fun F ι a w hr hf => by
 refine wp_region_any hm ?_;have hB' := hB;simp only [X6, Bool.and_eq_true, decide_eq_true_eq] at hB';obtain ⟨⟨⟨⟨hn, _⟩, _⟩, hap⟩, _⟩ := hB'
 have hn2 : n <= l.length := by simpa using hn
 simp only [Ka, Bool.and_eq_true, List.all_eq_true, decide_eq_true_eq] at hL;obtain ⟨hL1, hL3⟩ := hL;have hds : (YS ms l).map (·.dst) = l.map (·.dst) := WM ms l;have hh := Zat (P := P) (H := H) (ops := List.toArray (YS ms l)) (n := n) (fr := fr) (K := fun fr' => Ur P H l ms.length ms fr' [] (fun fr2 L => XP P (l.map (·.dst)) (l.drop n) fr2 (H ++ L) (Q .normal))) (by simpa [WZ] using hn2) (by simpa [hds] using hap) hR _ 0 [] (Nat.zero_le _) rfl (by simp; rfl) (by simpa [hds, ZA, Zs, idF] using h);obtain ⟨ys, h1, ⟨h2a, h2b⟩, h3⟩ := YU _ 0 [] rfl hh;simp only [List.nil_append, hds] at h2a h2b h3
 have hlen : ys.length = n := h2a;have g0 := Good.drew hr;have hf0 := g0.fr hf;have hget : ∀ k, k < n -> ((YS ms l).take n)[k]? = (YS ms l)[k]? := fun k hk => List.getElem?_take_of_lt hk;have hjl : (Zw ((l.map (·.dst)).take n) fr).length = fr.length := Zz _ _
 have hlat : ∀ m ∈ ms, m < n /\ l[m]? = some (ZO l m) /\ (ZO l m).guard = none := fun m hm => by
  obtain ⟨⟨h4, h5⟩, h6, _⟩ := hL1 m hm;exact ⟨h4, by rw [Wu, List.getD_eq_getElem?_getD, List.getElem?_eq_getElem h5]; rfl, by simpa using h6⟩
 have hvm : ∀ m ∈ ms, ys[m]? = some .junk := fun m hm => by
  obtain ⟨q1, q2, q3⟩ := hlat m hm;obtain ⟨z, hy, hk⟩ := h3 m (Yx (ZO l m)) (by rw [hget _ q1]; exact Vq ms l _ _ hm q2);rw [Nat.zero_add] at hy;have e1 : (Yx (ZO l m)).guard = none := q3;rw [e1] at hk;simp only [Yx, Zj, Zl, ZX, Z8, aop, Zv] at hk
  have hk2 : gt (ZA (l.map (·.dst)) ys (Zk (0 + m) { ZO l m with op := .move (.tmp 1000000) }) (Zw ((l.map (·.dst)).take n) fr)) 1000000 = z := by simpa [ev] using hk
  rw [JR (by rw [Zy, hjl]; exact hfl)] at hk2;rw [hy, hk2]
 have hfin : ZA (l.map (·.dst)) ys (List.range n) (Zw ((l.map (·.dst)).take n) fr) = ZA (l.map (·.dst)) ys (List.range n) fr := WY hap (by simpa using hn2) hlen
 have := Jm (Q := fun e a' w' => ∃ fr' H' ι', Q e fr' H' /\ Good F H ι w H' ι' w' /\ Fr F H' ι' w' fr' a') (F := F) (fr := fr) (vals := ys) (P := P) (H := H) (l := l) (ms := ms) (K := fun fr2 L => XP P (l.map (·.dst)) (l.drop n) fr2 (H ++ L) (Q .normal)) (ops := List.toArray l) (ι0 := ι) (w0 := { w with drawn := w.drawn + 1 }) rfl hB hlen
  (fun m hm => ⟨(hlat m hm).1, by simpa using (hlat m hm).2.1, (hlat m hm).2.2, hvm m hm⟩)
  (fun m hm t ht j hj hd => by
   obtain ⟨_, _, h5⟩ := hL1 m hm;have h6 := h5 t ht j (List.mem_range.2 hj);simp only at hd;rw [hd] at h6
   simpa using h6)
  (fun i o hi him ho => by
   have := h3 i o (by
    rw [hget i hi, Y7]
    ·simpa using ho
    ·exact him)
   rwa [Nat.zero_add] at this)
  (fun fr2 L ι1 a1 w1 k1 g1 f1 => ZH (P := P) (ops := List.toArray l) _ _ (H ++ L) _ k1 F ι1 a1 w1 g1.rel f1 fun fr' H' ι' a' w' k g f => ⟨fr', H', ι', k, g0.trans (g1.trans g), f⟩)
  n (Array.replicate l.length false) a { w with drawn := w.drawn + 1 }
  ⟨by simp, fun j oj _ hl => (by rw [getD_replicate_false] at hl; cases hl), fun t _ ht => getD_in (by simpa using ht) (getD_replicate_false _ _)⟩
  (by
   rw [List.filter_eq_self.2 (fun i _ => by rw [getD_replicate_false]; rfl)]
   simp)
  ⟨ms, [], [], hL3, fun m hm => hm, fun m hm => by rw [getD_replicate_false]; simp [hm], fun p hp => (by cases hp), by
    simp only [ptl];rw [hfin]
    exact h2b, ι, [], hr.len, by
   have g1 : Rel F (H ++ []) (ι ++ []) { w with drawn := w.drawn + 1 } := by simpa using g0.rel
   have r1 := g1.front hr.len hr.refH
   exact ⟨r1, hf0.1, hf0.2.1, fun t x ht _ => RV.narrow (L := []) hr.len (by simpa using hf0.2.2 t x ht) (hf0.2.2 t x ht).refB, fun j d x _ hl => by rw [getD_replicate_false] at hl; cases hl⟩,
   by simpa using Good.refl g0.rel, fun p hp => (by cases hp)⟩
 simp only [List.size_toArray] at this;simp only [Zs, List.size_toArray];rwa [show n + (l.length - n) = l.length by omega] at this
theorem ZeN {P H l rem fr L K} (h : K fr L) : Ur P H l 0 rem fr L K := h
theorem Ze2 {P H l n rem fr L K} (rs : List Nat) (hr : YC l rem = rs) (h : ∀ m ∈ rs, ∃ y L', Zl P (ZO l m) fr (H ++ L) (fun x H' => x = y /\ H' = H ++ L') /\ Ur P H l n (rem.erase m) (ptO fr (ZO l m).dst y) L' K) : Ur P H l (n + 1) rem fr L K := fun m hm => h m (hr ▸ hm)
theorem ZaO {P H l n rem fr L K} (m : Nat) (y : V) (L' : List Obj) (hr : YC l rem = [m]) (h : Zl P (ZO l m) fr (H ++ L) (fun x H' => x = y /\ H' = H ++ L')) (k : Ur P H l n (rem.erase m) (ptO fr (ZO l m).dst y) L' K) : Ur P H l (n + 1) rem fr L K :=
 Ze2 [m] hr fun m' hm' => by
  rw [List.mem_singleton] at hm';subst hm';exact ⟨y, L', h, k⟩
def WO : Op -> Bool
 | .move _ => true
 | .assign _ => true
 | .binOp _ _ _ _ _ => true
 | .unOp _ _ _ => true
 | .pick _ _ _ => true
 | _ => false
theorem Y8 {P : Program} {o : Oper} (h : WO o.op = true) {fr : List V} {H H2 : List Obj} {y : V} (k : Zj P o fr H (fun x H' => x = y /\ H' = H)) : Zj P o fr H2 (fun x H' => x = y /\ H' = H2) := by
 have key : ∀ (f : List Obj -> Option V), (∀ A B, f A = f B) -> (match (match f H with | some x => some (x, H) | none => (none : Option (V × List Obj))) with | some (x, H') => x = y /\ H' = H | none => False) -> (match (match f H2 with | some x => some (x, H2) | none => (none : Option (V × List Obj))) with | some (x, H') => x = y /\ H' = H2 | none => False) := fun f hf hk => by
  rw [hf H2 H]
  cases hfh : f H with
  | none => rw [hfh] at hk; exact hk
  | some x => rw [hfh] at hk; exact ⟨hk.1, rfl⟩
 unfold Zj Zl at k ⊢
 cases hop : o.op with
 | move x => rw [hop] at k; simp only [Z8, aop, Zv, ZX] at k ⊢; first | exact ⟨k.1, rfl⟩ | exact ⟨k.1, trivial⟩
 | assign x => rw [hop] at k; simp only [Z8, aop, Zv, ZX] at k ⊢; first | exact ⟨k.1, rfl⟩ | exact ⟨k.1, trivial⟩
 | binOp a b c d e =>
  rw [hop] at k; simp only [Z8, aop, Zv, ZX, Wg] at k ⊢
  cases hb : XM P a b (ev fr c) (ev fr d) with
  | none => rw [hb] at k; simp at k
  | some z => rw [hb] at k; simp at k ⊢; exact k
 | unOp a b c =>
  rw [hop] at k; simp only [Z8, aop, Zv, ZX, Wg] at k ⊢
  cases hb : aun a (ev fr c) with
  | none => rw [hb] at k; simp at k
  | some z => rw [hb] at k; simp at k ⊢; exact k
 | pick c x z =>
  rw [hop] at k; simp only [Z8, aop, Zv, ZX, Wg] at k ⊢
  cases hb : asB (ev fr c) with
  | none => rw [hb] at k; simp at k
  | some z => rw [hb] at k; simp at k ⊢; exact k
 | _ => rw [hop] at h; cases h
theorem QR {P : Program} {ds : List (Option Nat)} {fr vals : List V} {H H2 : List Obj} {i : Nat} {o : Oper} (h : WO o.op = true) (k : ZbF P ds fr H vals i o) : ZbF P ds fr H2 vals i o := by
 obtain ⟨y, h1, h2⟩ := k;refine ⟨y, h1, ?_⟩
 split at h2
 ·exact Y8 h h2
 ·rcases h2 with ⟨c, q1, q2, q3⟩ | q
  ·exact .inl ⟨c, q1, fun e => Y8 h (q2 e), q3⟩
  ·exact .inr q
def QF (l : List Oper) : Nat -> Nat -> Nat -> Bool
 | 0, _, _ => false
 | f + 1, i, m => (Zk m (ZO l m)).any fun j => decide (j = i) || QF l f i j
theorem Wc {l : List Oper} {ops : Array Oper} (hol : ops.toList = l) {n : Nat} {listed : Array Bool} (inv : HeadInv .any ops n listed) : ∀ (f i m : Nat), m < l.length -> QF l f i m = true -> (∀ j ∈ Zk m (ZO l m), listed.getD j false = true) -> listed.getD i false = true
 | 0, _, _, _, h, _ => by cases h
 | f + 1, i, m, hm, h, hd => by
  rw [QF, List.any_eq_true] at h;obtain ⟨j, hj, h⟩ := h;rw [Bool.or_eq_true] at h;rcases h with h | h
  ·rw [<- of_decide_eq_true h]; exact hd j hj
  ·have hjm : j < m := Z4 j hj
   have hjl : j < l.length := by omega
   refine Wc hol inv f i j hjl h fun k hk => ?_
   have ho : ops[j]? = some (ZO l j) := by
    rw [<- Array.getElem?_toList, hol, Wu, List.getD_eq_getElem?_getD, List.getElem?_eq_getElem hjl]; rfl
   simp [Zk] at hk;obtain ⟨e, ⟨he, hb, _⟩, rfl⟩ := hk;exact inv.closed j _ ho (hd j hj) e he hb
@[go_sem] theorem Zkb {H : List Obj} {n cs cs'} : wkV H n (.tup cs) (.tup cs') = (cs' = cs /\ ZQ n cs = true) := by simp [wkV, frz, refB]
section
variable {P : Program} {H : List Obj} {t : TypeId} {o : Nat} {l : List (Int × Int)} {k : Int} {K : V -> List Obj -> Prop}
end
end Go.AM
