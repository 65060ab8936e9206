/- Declarations that the closing texts need, part 15: joined by tools/slim.py. -/
import Derived.Test.YtcdoglogglbemaaGreatDoorZb14
set_option linter.unusedVariables false
set_option linter.unusedSimpArgs false
namespace Go.Proofs.YtcdoglogglbemaaGreatDoor.K
open Go Go.AM Go.Proofs
set_option maxRecDepth 8000
set_option maxHeartbeats 8000000
def ZvD : PV := .agg [.list true [], .list true [], .list true [], .list true [], .list true [], .list true [], .str [], .int .i64 0, .int .i64 0, .int .i64 0, .list true [], .int .i64 0, .int .i64 0, .int .i64 0, .int .i64 0, .int .i64 0, .int .i64 0, .int .i64 0, .int .i64 0, .int .i64 0, .int .i64 0, .int .i64 0, .list true [], .list true [], .list true []]
theorem Zms (x : Inst) (r : Rte) (hty : 0 <= r.typ /\ r.typ < (x.types.length : Int)) (htl : x.types.length <= 1048576) (hvl : r.visits.length <= 20) (hs : ¬ (0 <= r.start /\ r.start <= 4096)) :
  PT 272 [.p (ZG x), .p (YZ r)] [.p ZvD, .p (.bool false)] := by
 have e1 : ¬ r.typ < 0 := by omega
 have e2 : ¬ (x.types.length : Int) <= r.typ := by omega
 refine Zc [] Tryz.func272 rfl ZjE ?_;simp (disch := omega) only [Tryz.f272, e1, e2, go_sem, seval];refine gF ?_ ?_ <;> intro h1 <;> simp (disch := omega) only [Sh.out h1, go_sem, seval]
 ·exact we (by simp (disch := omega) only [ZvD, go_sem, seval])
 ·refine gF ?_ ?_ <;> intro h2 <;> simp (disch := omega) only [Sh.out h2, go_sem, seval]
  ·exact we (by simp (disch := omega) only [ZvD, go_sem, seval])
  ·omega
theorem ZbL {x t sp} : ∀ (bs : List Bool) (k : Nat) (L : Lab), ¬ (X3 x t sp k L bs).2 = 0 -> (X3 x t sp k L bs).1 = WC
 | [], k, L, h => by simp [X3] at h
 | b :: bs, k, L, h => by
  rw [X3] at h ⊢
  split
  ·rename_i c;rw [if_pos c] at h;exact ZbL bs (k + 1) _ h
  ·rfl
theorem Zei (n : Nat) : List.replicate n false ∈ X8 (List.replicate n false) := by
 rw [fromB_next]; simp
theorem Zhj {l : List Lab} (h : fmL WJ none l = none) : l = [] := by
 cases l with
 | nil => rfl
 | cons a l =>
  obtain ⟨z, hz, _⟩ := Vc (fin := WJ) l a;have : fmL WJ none (a :: l) = fmL WJ (some a) l := rfl;rw [this, hz] at h; cases h
theorem Ze0 {x t sp} {st : Int} {r : List Bool} (h : fmL WJ none ((YN r (sp.length + 1)).filterMap (Us (X1 x t sp) 0 (XZ t st))) = none) : ¬ (X3 x t sp 0 (XZ t st) (WW r (sp.length + 1))).2 = 0 := fun h0 => by
 have h1 := Zhj h;have h2 : WW r (sp.length + 1) ∈ YN r (sp.length + 1) := List.mem_map.2 ⟨_, Zei _, rfl⟩;have h3 := List.filterMap_eq_nil_iff.1 h1 _ h2;rw [Wy, if_pos h0] at h3
 cases h3
theorem Zds {x t sp} {st : Int} {r : List Bool} (hr : r.length <= sp.length + 1) (h : fmL WJ none (Ux ZI (X1 x t sp) (chF r) (sp.length + 1) 0 [XZ t st]) = none) : ¬ (X3 x t sp 0 (XZ t st) (WW r (sp.length + 1))).2 = 0 :=
 Ze0 (by rw [Kp, Yq, KG r _ hr] at h; exact h)
def V1 (x : Inst) (r : Rte) : She × Int := if 0 <= r.start /\ r.start <= 4096 /\ r.rests.length <= r.visits.length + 1 then Xk x r else (zShe, 2)
theorem Zid {x t sp} {ch : Nat -> List Bool} {k : Nat} {l : List Lab} (hok : TrpOk x t sp) (hs : 0 < sp.length) (hk : k <= sp.length) (h : ∀ L ∈ l, LabO sp.length k L) : ∀ L ∈ Z9 ZI [] (YM (X1 x t sp) ch k l), LabO sp.length (k + 1) L := fun L hL => by
 have h1 := Vi ZI _ _ L hL;rw [List.nil_append] at h1;obtain ⟨a, ha, hb⟩ := List.mem_flatMap.1 h1;obtain ⟨b, _, hn⟩ := List.mem_filterMap.1 hb;rw [X1] at hn
 split at hn
 ·rename_i c;simp at hn; subst hn;exact KY hok hs hk (h a ha) c
 ·cases hn
theorem U0 : ∀ (c out : List Lab), (Z9 ZI out c).length <= out.length + c.length
 | [], out => by simp [Z9]
 | x :: c, out => by
  rw [Z9]
  split
  ·have := U0 c out; simp; omega
  ·have := U0 c (out ++ [x]); simp at this ⊢; omega
theorem Zaq {x t sp} {r : List Bool} {k : Nat} : ∀ l : List Lab, (YM (X1 x t sp) (chF r) k l).length <= 2 * l.length
 | [] => by simp [YM]
 | a :: l => by
  have ih := Zaq (x := x) (t := t) (sp := sp) (r := r) (k := k) l;have h1 : (YM (X1 x t sp) (chF r) k (a :: l)) = (chF r k).filterMap (X1 x t sp k a) ++ YM (X1 x t sp) (chF r) k l := rfl;have h2 := List.length_filterMap_le (X1 x t sp k a) (chF r k)
  have h3 : (chF r k).length <= 2 := by unfold chF; split <;> simp
  rw [h1, List.length_append, List.length_cons]; omega
theorem ZlG (x : Inst) (r : Rte) (hx : InstOk x) (hl : r.visits.length <= 1048576) (hrl : r.rests.length <= 1048576) (hty : 0 <= r.typ /\ r.typ < (x.types.length : Int)) (h0 : ZQ x r.visits = 0) :
  PT 197 [.p (ZG x), .p (YZ r)] [.p (ZgD (V1 x r).1), .p (.int .i64 (V1 x r).2)] := by
 have hd := Wh hx;have hsq := Y7 h0;have hol := hd.ord;have htl := hd.typ;have hvl := hsq.len hol;have hok := UL hx hty hsq;have hsl : (ZV x r.visits).length = r.visits.length := Xh
 have hs1 : 0 < (ZV x r.visits).length := by
  rw [hsl];have := hsq.ne
  cases hv : r.visits with
  | nil => exact absurd hv this
  | cons a b => simp
 refine Zc [6, 13, 14] Tryz.func197 rfl Zo7 ?_;simp (disch := omega) only [Tryz.f197, go_sem, seval]
 by_cases hs : 0 <= r.start /\ r.start <= 4096
 ·refine Xs (Zo4 x r hx hty h0 hs) ?_;simp (disch := omega) only [go_sem, seval];refine cD ?_ ?_ <;> intro h1 <;> simp (disch := omega) only [Sh.out h1, go_sem, seval]
  ·have e : V1 x r = (zShe, 2) := by rw [V1, if_neg (by omega)]
   rw [e];exact we (by simp (disch := omega) only [zShe, List.map_nil, go_sem, seval])
  ·have hrs : r.rests.length <= r.visits.length + 1 := by omega
   have e : V1 x r = Xk x r := by rw [V1, if_pos ⟨hs.1, hs.2, hrs⟩]
   have hbn := @Zds x (Z0 x r) (ZV x r.visits) r.start r.rests (by rw [hsl]; exact hrs);rw [e, Xk, Zar (by rw [hsl]; exact hrs)];refine (Kl x (Z0 x r) r false (ZV x r.visits)).use ?_;simp (disch := omega) only [go_sem, seval]
   generalize hT : Z0 x r = t at *
   generalize hS : ZV x r.visits = sp at *
   refine Zn (Weak.fz (o := 4) (by rfl)) ?_;refine Zd [13, 14] _ _ _ _ ?_;simp (disch := omega) only [List.map_cons, List.map_nil, List.set_cons_succ, List.set_cons_zero, go_sem, seval]
   refine ZY [13, 14] [3, 4, 6, 8, 38] (fun q : Nat × List Lab => [(9, .p (.list false (q.2.map Ju))), (39, .p (.int .i64 q.1))]) (fun _ => [Zb x, Zw r, .cells [.p (.bool false), .p (.int .i64 0), .p (.list true []), .p (.int .i64 0), .p (.int .i64 0)], X4 x t r false sp, .dead])
    (fun q => q.1 <= sp.length + 1 /\ Ux ZI (X1 x t sp) (chF r.rests) (sp.length + 1) 0 [XZ t r.start] = Ux ZI (X1 x t sp) (chF r.rests) (sp.length + 1 - q.1) q.1 q.2 /\ (∀ L ∈ q.2, LabO sp.length q.1 L) /\ q.2.length <= 2 ^ q.1) (fun q => sp.length + 1 - q.1) (0, [XZ t r.start]) ⟨by simp, by simp, fun L hL => by simp at hL; subst hL; exact Zaw hok hs, by simp⟩ (Weak.mk ?_) ?_
   ·simp (disch := omega) only [Zb, Zw, X4, List.map_cons, List.map_nil, List.set_cons_succ, List.set_cons_zero, List.cons_append, List.nil_append, go_sem, seval]
   ·rintro ⟨k, l⟩ ⟨hk, hit, hlo, hll⟩;simp only at hk hit hlo hll;simp (disch := omega) only [Zb, Zw, X4, go_sem, seval];refine cD ?_ ?_ <;> intro h2 <;> simp (disch := omega) only [Sh.out h2, go_sem, seval]
    ·have hk2 : k <= sp.length := by omega
     have hp20 : 2 ^ k <= 2 ^ 20 := Nat.pow_le_pow_right (by omega) (by omega);refine (Zqj x t r false sp hok hs1 k hk2 hrl l false (by omega) hlo).use ?_;simp (disch := omega) only [go_sem, seval]
     have hn : Ux ZI (X1 x t sp) (chF r.rests) (sp.length + 1 - k) k l = Ux ZI (X1 x t sp) (chF r.rests) (sp.length + 1 - (k + 1)) (k + 1) (Z9 ZI [] (YM (X1 x t sp) (chF r.rests) k l)) := by
      have e : sp.length + 1 - k = (sp.length + 1 - (k + 1)) + 1 := by omega
      rw [e, Ux]
     have hln := U0 (YM (X1 x t sp) (chF r.rests) k l) [];have hln2 := Zaq (x := x) (t := t) (sp := sp) (r := r.rests) (k := k) l;exact ⟨(k + 1, Z9 ZI [] (YM (X1 x t sp) (chF r.rests) k l)), ⟨by simp only; omega, hit.trans hn, Zid hok hs1 hk2 hlo, by simp at hln; simp only [Nat.pow_succ]; omega⟩, by simp only; omega, Weak.mk (by simp (disch := omega) only [Zb, Zw, X4, List.set_cons_succ, List.set_cons_zero, go_sem, seval])⟩
    ·have hkn : k = sp.length + 1 := by omega
     subst hkn;rw [Nat.sub_self, Ux] at hit;rw [hit] at hbn ⊢;clear hit;refine cD ?_ ?_ <;> intro h3 <;> simp (disch := omega) only [Sh.out h3, go_sem, seval]
     ·have hl0 : l = [] := List.eq_nil_of_length_eq_zero (by omega);subst hl0;have hbn := hbn rfl;refine XQ (Zgj 3 rfl rfl ?_);simp (disch := omega) only [go_sem, seval];refine ⟨_, _, ZbN (e := 4) rfl Tryz.underlying41 (by kernel_rfl) rfl rfl rfl ?_ ?_ ?_, ?_⟩
      ·simp
      ·simp; omega
      ·intro q hq;obtain ⟨b, _, rfl⟩ := List.mem_map.1 hq
       rfl
      ·have hpl : (WW r.rests (sp.length + 1)).length = sp.length + 1 := by simp [WW]; omega
       have hpad : r.rests.map eB ++ (PV.bool false :: List.replicate r.visits.length (PV.bool false)).drop (r.rests.map eB).length = (WW r.rests (sp.length + 1)).map eB := by
        rw [WW, List.map_append, <- List.replicate_succ, List.drop_replicate, List.map_replicate, hsl, List.length_map]; rfl
       have hcr := ZxV x t r false sp hok hs1 hs (WW r.rests (sp.length + 1)) false hpl;have hbad := ZbL _ _ _ hbn;rw [hbad] at hcr;simp only [List.set_cons_succ, List.set_cons_zero];rw [hpad]
       generalize hRP : WW r.rests (sp.length + 1) = rp at *
       refine Zn (Weak.fz (o := 5) (by rfl)) ?_;refine Zd [] _ _ _ _ ?_;simp (disch := omega) only [List.map_cons, List.map_nil, List.set_cons_succ, List.set_cons_zero, go_sem, seval];rw [if_pos (by omega)];refine Xs hcr ?_;simp (disch := omega) only [go_sem, seval];have hfm0 : fmL WJ none ([] : List Lab) = none := rfl;rw [hfm0];exact we (by simp (disch := omega) only [WC, zShe, List.map_nil, go_sem, seval])
     ·cases l with
      | nil => simp at h3
      | cons l0 l =>
       have e0 : elt ((l0 :: l).map Ju) 0 = Ju l0 := rfl;have hn0 : nth (l0 :: l) 0 = l0 := rfl;simp (disch := first | omega | (simp only [List.length_cons, List.length_nil, List.length_append, List.length_map, List.length_take, List.length_drop] <;> omega)) only [e0, hn0, List.take_length, go_sem, seval];have hfm : fmL WJ none (l0 :: l) = fmL WJ (some l0) l := rfl;rw [hfm]
       have hlen : l.length <= 2097152 := by
        have hp20 : 2 ^ (sp.length + 1) <= 2 ^ 21 := Nat.pow_le_pow_right (by omega) (by omega);simp at hll; omega
       refine Zf [4, 12, 65, 66] (fun q : Nat × Lab => [(67, .p (.int .i64 q.1))]) (fun q => [Zb x, Zw r, .cells [.p (.bool false), .p (.int .i64 0), .p (.list true []), .p (.int .i64 0), .p (.int .i64 0)], X4 x t r false sp, .dead, Yx q.2])
        (fun q => q.1 <= l.length /\ fmL WJ (some l0) l = fmL WJ (some q.2) (l.drop q.1)) (fun q => l.length - q.1) (0, l0) (by simp) (Weak.mk ?_) ?_
       ·simp (disch := omega) only [Zb, Zw, X4, Yx, List.set_cons_succ, List.set_cons_zero, hn0, go_sem, seval]
       ·rintro ⟨i, m⟩ ⟨hi, hm⟩;simp only at hi hm;simp (disch := omega) only [Zb, Zw, X4, Yx, List.take_length, go_sem, seval];refine cD ?_ ?_ <;> intro h4 <;> simp (disch := omega) only [Sh.out h4, go_sem, seval]
        ·have hi2 : i < l.length := by omega
         have hdrop : l.drop i = nth l i :: l.drop (i + 1) := by rw [List.drop_eq_getElem_cons hi2, Ze hi2]
         rw [hdrop, fmL] at hm;refine cD ?_ ?_ <;> intro h5 <;> simp (disch := omega) only [Sh.out h5, go_sem, seval]
         ·rw [if_pos (show WJ (nth l i) < WJ m from h5)] at hm;exact ⟨(i + 1, nth l i), ⟨by simp only; omega, hm⟩, by simp only; omega, Weak.mk (by simp (disch := omega) only [Zb, Zw, X4, Yx, go_sem, seval])⟩
         ·rw [if_neg (show ¬ WJ (nth l i) < WJ m from h5)] at hm;exact ⟨(i + 1, m), ⟨by simp only; omega, hm⟩, by simp only; omega, Weak.mk (by simp (disch := omega) only [Zb, Zw, X4, Yx, go_sem, seval])⟩
        ·have hil : i = l.length := by omega
         subst hil;rw [List.drop_length, fmL] at hm;rw [hm];exact we
 ·have e : V1 x r = (zShe, 2) := by rw [V1, if_neg (fun h => hs ⟨h.1, h.2.1⟩)]
  rw [e];refine Xs (Zms x r hty htl hvl hs) ?_;simp (disch := omega) only [ZvD, go_sem, seval];exact we (by simp (disch := omega) only [zShe, List.map_nil, go_sem, seval])
end Go.Proofs.YtcdoglogglbemaaGreatDoor.K
set_option linter.unusedVariables false
set_option linter.unusedSimpArgs false
namespace Go.AM
open Go.RowKit
theorem ZhM (k v : Int) (l : List (Int × Int)) : ∃ l', ZuL (.int .i64 k) (.int .i64 v) (l.map eII) = l'.map eII /\ (∀ q, QA l' q = if q = k then v else QA l q) /\ l'.length <= l.length + 1 := by
 unfold ZuL;rw [U8]
 cases hm : mix l k with
 | none =>
  refine ⟨l ++ [(k, v)], by simp [eII], fun q => ?_, by simp⟩
  have e1 : mix (l ++ [(k, v)]) k = some l.length := by
   unfold mix at hm ⊢;rw [List.findIdx?_append, hm]; simp
  by_cases hq : q = k
  ·subst hq; simp [QA, e1]
  ·rw [if_neg hq];unfold QA
   have e3 : mix (l ++ [(k, v)]) q = mix l q := by
    unfold mix;rw [List.findIdx?_append]
    cases hc : l.findIdx? (fun p => decide (q = p.1)) <;> simp [hq]
   rw [e3]
   cases hc : mix l q with
   | none => rfl
   | some i =>
    unfold mix at hc;rw [List.findIdx?_eq_some_iff_getElem] at hc;obtain ⟨hi, _⟩ := hc;simp only;rw [List.getElem?_append_left hi]
 | some i =>
  refine ⟨l.set i (k, v), by rw [List.map_set]; simp [eII], ?_, by simp⟩;have hH : oat [.map (l.map eII)] 0 = .map (l.map eII) := rfl;have := ZdW (H := [.map (l.map eII)]) (o := 0) (l := l) (k := k) (i := i) (v := v) (K := fun _ _ => ∀ q, QA (l.set i (k, v)) q = if q = k then v else QA l q) hH hm fun h => h;unfold VW at this;obtain ⟨u, q1, _⟩ := JK hm
  have e1 : (l.map eII)[i]? = some (eII (k, u)) := by rw [List.getElem?_map, q1]; rfl
  simp only [hH, Int.natCast_nonneg, if_true, Int.toNat_natCast, e1, mst] at this;exact this
theorem ZbP {P : Program} {H : List Obj} {t : TypeId} {o : Nat} {l : List (Int × Int)} {k v : Int} {K : V -> List Obj -> Prop} (hT : Zns P t = some (.int .i64, some (.int .i64 0))) (hH : oat H o = .map (l.map eII))
  (h : ∀ l' : List (Int × Int), (∀ q, QA l' q = if q = k then v else QA l q) -> K .junk (H.set o (.map (l'.map eII)))) : mst (Zdg P H t (.mp o) (.p (.int .i64 k)) (.p (.int .i64 v))) K := by
 obtain ⟨kt, et, h1, h2, h3⟩ := ZbV hT;obtain ⟨l', e, hg, _⟩ := ZhM k v l;simp only [Zdg, h1, Zal h2 hH, Option.map_some, mst, e];exact h l' hg
end Go.AM
namespace Go.Proofs.YtcdoglogglbemaaGreatDoor.K
open Go Go.AM Go.Proofs
set_option maxRecDepth 8000
set_option maxHeartbeats 8000000
def Zfn (l : List Vis) (k : Nat) (q : Int) : Int := ((l.take k).countP fun v => decide (v.order = q) : Nat)
theorem ZeR {l : List Vis} {k : Nat} (h : k < l.length) (q : Int) : Zfn l (k + 1) q = if q = (nth l k).order then Zfn l k q + 1 else Zfn l k q := by
 unfold Zfn;rw [List.take_succ_eq_append_getElem h, List.countP_append, Ze h]
 by_cases c : l[k].order = q
 ·rw [if_pos c.symm]; simp [c]
 ·rw [if_neg (fun e => c e.symm)]; simp [c]
theorem Zhg {l : List Vis} {k : Nat} (h : k <= l.length) (q : Int) : 0 <= Zfn l k q /\ Zfn l k q <= k := by
 unfold Zfn;have := List.countP_le_length (p := fun v : Vis => decide (v.order = q)) (l := l.take k);rw [List.length_take] at this;omega
theorem Zdv {l : List Vis} {k : Nat} : Y4 l k = decide (Zfn l k (nth l k).order = 0) := by
 unfold Y4 Zfn;rw [Bool.eq_iff_iff];simp only [Bool.not_eq_true', decide_eq_true_eq];rw [List.any_eq_false]
 have : ((List.countP (fun v => decide (v.order = (nth l k).order)) (l.take k) : Nat) : Int) = 0 ↔ List.countP (fun v => decide (v.order = (nth l k).order)) (l.take k) = 0 := by omega
 rw [this, List.countP_eq_zero]
theorem VV (a b : Int) : PC 276 [.p (.int .i64 a), .p (.int .i64 b)] (.bool (ZH a b)) := by
 refine Za Tryz.func276 rfl Zrw ?_;simp (disch := omega) only [Tryz.f276, go_sem, seval];refine gT ?_ ?_ <;> intro h <;> simp (disch := omega) only [Sh.out h, go_sem, seval]
 ·simp [ZH, h]
 ·simp only [Classical.not_not] at h;simp [ZH, h]
theorem Zhv (x : Inst) (r : Rte) (s : She) (hty : 0 <= r.typ /\ r.typ < (x.types.length : Int)) (ho : x.orders.length <= 1048576) (ht : x.types.length <= 1048576) (hl : r.visits.length <= 1048576) (hv : Inr x r.visits)
  (hc : 0 <= (Z0 x r).fixed /\ (Z0 x r).fixed <= 100000 /\ 0 <= (Z0 x r).perMile /\ (Z0 x r).perMile <= 100 /\ 0 <= (Z0 x r).perTick /\ (Z0 x r).perTick <= 100) (ho2 : 0 <= (Z0 x r).opn /\ (Z0 x r).opn <= 4096)
  (hf : -4096 <= s.fin /\ s.fin <= 8192) (hm : 0 <= s.miles /\ s.miles <= 1000000) :
  PC 198 [.p (ZG x), .p (YZ r), .p (ZgD s)] (ZeT (ZjX x r s)) := by
 have hti : r.typ.toNat < x.types.length := by omega
 have hT : Zns Tryz.prog 143 = some (.int .i64, some (.int .i64 0)) := by kernel_rfl
 unfold ZjX;have htd : nth x.types r.typ.toNat = Z0 x r := rfl
 generalize Z0 x r = t at *
 have e1 : ¬ r.typ < 0 := by omega
 have e2 : ¬ (x.types.length : Int) <= r.typ := by omega
 have p1 : 0 <= t.perMile * s.miles /\ t.perMile * s.miles <= 100 * 1000000 := ⟨Int.mul_nonneg (by omega) (by omega), Int.mul_le_mul (by omega) (by omega) (by omega) (by omega)⟩
 have hW : -8192 <= s.fin - t.opn /\ s.fin - t.opn <= 8192 := by omega
 have p2 : -819200 <= t.perTick * (s.fin - t.opn) /\ t.perTick * (s.fin - t.opn) <= 819200 := by
  generalize s.fin - t.opn = w at hW;have a1 := Int.mul_le_mul_of_nonneg_left hW.2 (show 0 <= t.perTick by omega);have a2 := Int.mul_le_mul_of_nonneg_left hW.1 (show 0 <= t.perTick by omega);omega
 have p3 : -128 <= (s.fin - t.opn).tdiv 64 /\ (s.fin - t.opn).tdiv 64 <= 128 := by
  generalize s.fin - t.opn = w at hW;rcases Int.le_total 0 w with h | h
  ·rw [Int.tdiv_eq_ediv_of_nonneg h]; omega
  ·have : w.tdiv 64 = -((-w) / 64) := by rw [<- Int.tdiv_eq_ediv_of_nonneg (by omega), Int.neg_tdiv, Int.neg_neg]
   rw [this]; omega
 have p4 : 0 <= (s.fin - t.opn).tdiv 64 * (s.fin - t.opn).tdiv 64 /\ (s.fin - t.opn).tdiv 64 * (s.fin - t.opn).tdiv 64 <= 16384 := by
  generalize (s.fin - t.opn).tdiv 64 = q at p3;refine ⟨?_, ?_⟩
  ·rcases Int.le_total 0 q with h | h
   ·exact Int.mul_nonneg h h
   ·exact Int.mul_nonneg_of_nonpos_of_nonpos h h
  ·rcases Int.le_total 0 q with h | h
   ·have := Int.mul_le_mul p3.2 p3.2 h (by omega); omega
   ·have h2 : 0 <= -q := by omega
    have := Int.mul_le_mul (show -q <= 128 by omega) (show -q <= 128 by omega) h2 (by omega);rw [Int.neg_mul_neg] at this; omega
 refine Za Tryz.func198 rfl Zry ?_;simp (disch := omega) only [Tryz.f198, e1, e2, htd, go_sem, seval]
 refine Zf [3, 4, 6, 10, 11, 59, 60] (fun q : Nat × List (Int × Int) => [(61, .p (.int .i64 q.1))]) (fun q => [Zb x, Zw r, .cells [.p (.bool s.rest), .p (.int .i64 s.dep), .p (.list s.times_c (s.times.map eTim)), .p (.int .i64 s.fin), .p (.int .i64 s.miles)], WH 0 0 0 0, Xm t, WH (t.fixed + t.perMile * s.miles + t.perTick * (s.fin - t.opn)) (chgF x r.visits r.typ q.1).1 (chgF x r.visits r.typ q.1).2 ((s.fin - t.opn).tdiv 64 * (s.fin - t.opn).tdiv 64), .map (q.2.map eII)])
  (fun q => q.1 <= r.visits.length /\ ∀ n, QA q.2 n = Zfn r.visits q.1 n) (fun q => r.visits.length - q.1) (0, []) ⟨by simp, fun n => rfl⟩ (Weak.mk ?_) ?_
 ·simp (disch := omega) only [Zb, Zw, Xm, WH, chgF, go_sem, seval]
 ·rintro ⟨k, m⟩ ⟨hk, hmg⟩;simp only at hk hmg;have hch := UJ (x := x) (l := r.visits) (t := r.typ) k;simp (disch := omega) only [Zb, Zw, Xm, WH, go_sem, seval];refine cD ?_ ?_ <;> intro h1 <;> simp (disch := omega) only [Sh.out h1, go_sem, seval]
  ·have hk2 : k < r.visits.length := by omega
   obtain ⟨v1, v2⟩ := hv _ (Zl hk2)
   have e3 : ¬ (nth r.visits k).order < 0 := by omega
   have e4 : ¬ (x.orders.length : Int) <= (nth r.visits k).order := by omega
   have v3 : (nth r.visits k).order.toNat < x.orders.length := by omega
   have hcs := ZeR hk2;have hcr := Zhg hk (nth r.visits k).order;have hfi := Zdv (l := r.visits) (k := k);have hch2 : chgF x r.visits r.typ (k + 1) = _ := chgF.eq_2 x r.visits r.typ k;refine Jr hT rfl ?_;rw [hmg];simp (disch := omega) only [go_sem, seval];refine ZbP hT rfl fun m' hm' => ?_
   have hmg' : ∀ n, QA m' n = Zfn r.visits (k + 1) n := fun n => by rw [hm', hcs, hmg]; split <;> simp_all
   simp (disch := omega) only [e3, e4, List.set_cons_succ, List.set_cons_zero, go_sem, seval];refine Jr hT rfl ?_;rw [hm', if_pos rfl];simp (disch := omega) only [go_sem, seval];refine cD ?_ ?_ <;> intro h2 <;> simp (disch := omega) only [Sh.out h2, go_sem, seval]
   ·have h3 : ¬ Y4 r.visits k = true := by rw [hfi]; simp; omega
    rw [if_neg h3] at hch2;exact ⟨(k + 1, m'), ⟨by simp only; omega, hmg'⟩, by simp only; omega, Weak.mk (by simp (disch := omega) only [Zb, Zw, Xm, WH, hch2, go_sem, seval])⟩
   ·have h3 : Y4 r.visits k = true := by rw [hfi]; simp; omega
    rw [if_pos h3] at hch2;refine (VV (nth x.orders (nth r.visits k).order.toNat).now r.typ).use ?_;simp (disch := omega) only [go_sem, seval];refine cD ?_ ?_ <;> intro h4 <;> simp (disch := omega) only [Sh.out h4, go_sem, seval]
    ·rw [if_pos h4] at hch2;refine (VV (nth x.orders (nth r.visits k).order.toNat).last r.typ).use ?_;simp (disch := omega) only [go_sem, seval];refine cD ?_ ?_ <;> intro h5 <;> simp (disch := omega) only [Sh.out h5, go_sem, seval]
     ·rw [if_pos h5] at hch2;exact ⟨(k + 1, m'), ⟨by simp only; omega, hmg'⟩, by simp only; omega, Weak.mk (by simp (disch := omega) only [Zb, Zw, Xm, WH, hch2, go_sem, seval])⟩
     ·rw [if_neg (by rw [h5]; simp)] at hch2;exact ⟨(k + 1, m'), ⟨by simp only; omega, hmg'⟩, by simp only; omega, Weak.mk (by simp (disch := omega) only [Zb, Zw, Xm, WH, hch2, Int.add_zero, go_sem, seval])⟩
    ·rw [if_neg (by rw [h4]; simp)] at hch2;refine (VV (nth x.orders (nth r.visits k).order.toNat).last r.typ).use ?_;simp (disch := omega) only [go_sem, seval];refine cD ?_ ?_ <;> intro h5 <;> simp (disch := omega) only [Sh.out h5, go_sem, seval]
     ·rw [if_pos h5] at hch2;exact ⟨(k + 1, m'), ⟨by simp only; omega, hmg'⟩, by simp only; omega, Weak.mk (by simp (disch := omega) only [Zb, Zw, Xm, WH, hch2, Int.add_zero, go_sem, seval])⟩
     ·rw [if_neg (by rw [h5]; simp)] at hch2;exact ⟨(k + 1, m'), ⟨by simp only; omega, hmg'⟩, by simp only; omega, Weak.mk (by simp (disch := omega) only [Zb, Zw, Xm, WH, hch2, Int.add_zero, go_sem, seval])⟩
  ·have hkl : k = r.visits.length := by omega
   subst hkl
   rfl
end Go.Proofs.YtcdoglogglbemaaGreatDoor.K
set_option linter.unusedVariables false
set_option linter.unusedSimpArgs false
namespace Go.Proofs.YtcdoglogglbemaaGreatDoor.K
open Go Go.AM Go.Proofs
set_option maxRecDepth 8000
set_option maxHeartbeats 8000000
@[go_sem] theorem ZqL {f : FuncId} : (PV.fn f).cells = [.fn f] := Eq.trans rfl rfl
def ZnA : AM.Obj := .cells [.p (.bool false), .p (.int .i64 0), .p (.list true []), .p (.int .i64 0), .p (.int .i64 0)]
theorem Zdk (x : Inst) (r : Rte) (hx : InstOk x) (hl : r.visits.length <= 1048576) (hrl : r.rests.length <= 1048576) : ACalls Tryz.prog 133 [.p (ZG x), .p (YZ r)] [] fun y H' => y = K6 x r /\ H' = [] := by
 have hld := Wh hx;have htl := hld.typ;have hol := hld.ord;have chk := Zj5 x r hx hl
 have htb : x.types.length <= 6 := by have := hx.types.1; simp only [rng, decide_eq_true_eq] at this; omega
 refine Zc [] Tryz.func133 rfl Zpe ?_;simp (disch := omega) only [Tryz.f133, go_sem, seval];refine gF ?_ ?_ <;> intro h1 <;> simp (disch := omega) only [Sh.out h1, go_sem, seval]
 ·have e : XP x r = 2 := by rw [XP, if_pos (by omega)]
  rw [Xg (e := 2) (by rw [Z2, e]; rfl) (by omega)];exact we (by simp (disch := omega) only [zShe, zSco, List.map_nil, go_sem, seval])
 ·refine cD ?_ ?_ <;> intro h2 <;> simp (disch := omega) only [Sh.out h2, go_sem, seval]
  ·have e : XP x r = 2 := by rw [XP, if_pos (by omega)]
   rw [Xg (e := 2) (by rw [Z2, e]; rfl) (by omega)];exact we (by simp (disch := omega) only [zShe, zSco, List.map_nil, go_sem, seval])
  ·have hty : 0 <= r.typ /\ r.typ < (x.types.length : Int) := by omega
   have hti : r.typ.toNat < x.types.length := by omega
   have hnum := UG hx hti;have htyp : nth x.types r.typ.toNat = Z0 x r := rfl;rw [htyp] at hnum
   have hsk : ∀ o ∈ x.orders, o.skills < 9223372036854775808 := fun o hm => by
    obtain ⟨i, hi, rfl⟩ := List.mem_iff_getElem.1 hm;have := (hx.orders.2 i hi).skills;rw [Ze hi] at this;omega
   refine Zf [2, 3, 4, 5, 25, 26] (fun k : Nat => [(27, .p (.int .i64 k))]) (fun _ => [Zb x, Zw r, ZnA, WH 0 0 0 0, .elems 1 [.fn 194, .fn 195, .fn 196]])
    (fun k => k <= 3 /\ (0 < k -> ZQ x r.visits = 0) /\ (1 < k -> ¬ (r.visits.any fun v => !Ye (Z0 x r) (nth x.orders v.order.toNat).skills) = true) /\ (2 < k -> VF x (Z0 x r).cap r.visits = true)) (fun k => 3 - k) 0 ⟨by omega, by omega, by omega, by omega⟩ (Weak.mk ?_) ?_
   ·simp (disch := omega) only [Zb, Zw, WH, ZnA, go_sem, seval]
   ·rintro k ⟨hk, k1, k2, k3⟩;simp (disch := omega) only [Zb, Zw, WH, ZnA, go_sem, seval];refine cD ?_ ?_ <;> intro h3 <;> simp (disch := omega) only [Sh.out h3, go_sem, seval]
    ·by_cases hk0 : k = 0
     ·subst hk0;have he : elt [PV.fn 194, PV.fn 195, PV.fn 196] 0 = PV.fn 194 := rfl;simp (disch := first | omega | (simp only [List.length_cons, List.length_nil, List.length_append, List.length_map, List.length_take, List.length_drop] <;> omega)) only [he, go_sem, seval];refine (chk).use ?_;simp (disch := omega) only [go_sem, seval];refine cD ?_ ?_ <;> intro h4 <;> simp (disch := omega) only [Sh.out h4, go_sem, seval]
      ·have e : XP x r = ZQ x r.visits := by rw [XP, if_neg (fun h => h hty), if_pos h4]
       rw [Xg (e := ZQ x r.visits) (by rw [Z2, e, if_neg h4]) h4];exact we (by simp (disch := omega) only [zShe, zSco, List.map_nil, go_sem, seval])
      ·exact ⟨1, ⟨by omega, fun _ => by omega, by omega, by omega⟩, by omega, Weak.mk (by simp (disch := omega) only [Zb, Zw, WH, ZnA, go_sem, seval])⟩
     ·have h0 := k1 (by omega);have hsq := Y7 h0
      have hr0 : XP x r = if (r.visits.any fun v => !Ye (Z0 x r) (nth x.orders v.order.toNat).skills) = true then 18 else if VF x (Z0 x r).cap r.visits = false then 17 else if ¬ (0 <= r.start /\ r.start <= 4096 /\ r.rests.length <= r.visits.length + 1) then 2 else 0 := by
       rw [XP, if_neg (fun h => h hty), if_neg (by omega)]
      by_cases hk1 : k = 1
      ·subst hk1;have he : elt [PV.fn 194, PV.fn 195, PV.fn 196] 1 = PV.fn 195 := rfl;simp (disch := first | omega | (simp only [List.length_cons, List.length_nil, List.length_append, List.length_map, List.length_take, List.length_drop] <;> omega)) only [he, go_sem, seval];refine (ZhU x r hty (fun v hv => by have := hsq.inr v hv; simp [inB, this.1, this.2]) hl htl (by omega) (by omega) hsk).use ?_;simp (disch := omega) only [go_sem, seval]
       by_cases h5 : (r.visits.any fun v => !Ye (Z0 x r) (nth x.orders v.order.toNat).skills) = true
       ·rw [if_pos h5] at hr0 ⊢;rw [Xg (e := 18) (by rw [Z2, hr0]; rfl) (by omega)];simp (disch := omega) only [go_sem, seval];exact we (by simp (disch := omega) only [zShe, zSco, List.map_nil, go_sem, seval])
       ·rw [if_neg h5];simp (disch := omega) only [go_sem, seval];exact ⟨2, ⟨by omega, fun _ => h0, fun _ => h5, by omega⟩, by omega, Weak.mk (by simp (disch := omega) only [Zb, Zw, WH, ZnA, go_sem, seval])⟩
      ·have hk2 : k = 2 := by omega
       subst hk2;have he : elt [PV.fn 194, PV.fn 195, PV.fn 196] 2 = PV.fn 196 := rfl;simp (disch := first | omega | (simp only [List.length_cons, List.length_nil, List.length_append, List.length_map, List.length_take, List.length_drop] <;> omega)) only [he, go_sem, seval];refine (Zi5 x r hx hl hty h0).use ?_;simp (disch := omega) only [go_sem, seval];rw [if_neg (k2 (by omega))] at hr0
       cases h5 : VF x (Z0 x r).cap r.visits with
       | false =>
        rw [if_pos h5] at hr0;rw [Xg (e := 17) (by rw [Z2, hr0]; rfl) (by omega)];simp only [Bool.false_eq_true, if_false];simp (disch := omega) only [go_sem, seval];exact we (by simp (disch := omega) only [zShe, zSco, List.map_nil, go_sem, seval])
       | true =>
        simp only [if_true];simp (disch := omega) only [go_sem, seval];exact ⟨3, ⟨by omega, fun _ => h0, fun _ => k2 (by omega), fun _ => by first | exact h5 | trivial⟩, by omega, Weak.mk (by simp (disch := omega) only [Zb, Zw, WH, ZnA, go_sem, seval])⟩
    ·have hk3 : k = 3 := by omega
     subst hk3;have h0 := k1 (by omega);have hsq := Y7 h0
     have hr0 : XP x r = if ¬ (0 <= r.start /\ r.start <= 4096 /\ r.rests.length <= r.visits.length + 1) then 2 else 0 := by
      rw [XP, if_neg (fun h => h hty), if_neg (by omega), if_neg (k2 (by omega)), if_neg (by rw [k3 (by omega)]; simp)]
     have cb := ZlG x r hx hl hrl hty h0;have hok := UL hx hty hsq
     have hbr : V1 x r = Xk x r -> (Xk x r).2 = 0 -> (0 <= r.start /\ r.start <= 4096 /\ r.rests.length <= r.visits.length + 1) -> (0 <= (Xk x r).1.fin /\ (Xk x r).1.fin <= 8192) /\ (0 <= (Xk x r).1.miles /\ (Xk x r).1.miles <= 210000) := fun _ hz hs =>
      Jo hok ⟨hs.1, hs.2.1⟩ (by rw [Xh]; exact hs.2.2) hz
     by_cases h6 : 0 <= r.start /\ r.start <= 4096 /\ r.rests.length <= r.visits.length + 1
     ·have e : XP x r = 0 := by rw [hr0, if_neg (fun h => h h6)]
      have ee : Z2 x r = (Xk x r).2 := by rw [Z2, if_pos e]
      have eb : V1 x r = Xk x r := by rw [V1, if_pos h6]
      have hbr := fun hz => hbr eb hz h6;rw [eb] at cb
      have es : W1 x r = if (Xk x r).2 = 0 then (Xk x r).1 else zShe := by rw [W1, ee]
      have ep : QD x r = if (Xk x r).2 = 0 then ZjX x r (Xk x r).1 else zSco := by rw [QD, ee]
      unfold K6;rw [ee, es, ep];clear ee es ep eb
      generalize Xk x r = q at *
      obtain ⟨sh, eb⟩ := q;simp only at cb hbr ⊢;refine Xs cb ?_;simp (disch := omega) only [go_sem, seval];refine cD ?_ ?_ <;> intro h7 <;> simp (disch := omega) only [Sh.out h7, go_sem, seval]
      ·exact we (by simp (disch := omega) only [zShe, zSco, List.map_nil, go_sem, seval])
      ·have h7' : eb = 0 := by omega
       try rw [if_pos h7', if_pos h7']
       subst h7';obtain ⟨g1, g2⟩ := hbr rfl;refine ZA 5 mixed (by kernel_rfl) (by kernel_rfl) ?_;simp (disch := omega) only [go_sem, seval];refine Zm (Zhv x r sh hty (by omega) htl hl hsq.inr hnum.2.2.2.1 (by omega) (by omega) (by omega)) ?_;simp (disch := omega) only [go_sem, seval];exact we
     ·have e : XP x r = 2 := by rw [hr0, if_pos h6]
      have eb : V1 x r = (zShe, 2) := by rw [V1, if_neg h6]
      rw [Xg (e := 2) (by rw [Z2, e]; rfl) (by omega)];rw [eb] at cb;refine Xs cb ?_;simp (disch := omega) only [go_sem, seval];exact we (by simp (disch := omega) only [zShe, zSco, List.map_nil, go_sem, seval])
theorem UO {x : Inst} {r : Rte} (h : Z2 x r = 0) : XP x r = 0 := by
 unfold Z2 at h
 split at h
 ·assumption
 ·rename_i c; exact absurd h c
theorem Qi {x : Inst} {r : Rte} (h : XP x r = 0) : (0 <= r.typ /\ r.typ < (x.types.length : Int)) /\ ZQ x r.visits = 0 /\ (0 <= r.start /\ r.start <= 4096 /\ r.rests.length <= r.visits.length + 1) := by
 unfold XP at h
 split at h
 ·simp at h
 ·rename_i c1
  split at h
  ·rename_i c2; exact absurd h c2
  ·rename_i c2
   split at h
   ·simp at h
   ·split at h
    ·simp at h
    ·split at h
     ·simp at h
     ·rename_i c5;exact ⟨by omega, by omega, Classical.not_not.1 c5⟩
theorem ZhC {x : Inst} {r : Rte} (hx : InstOk x) (h : Z2 x r = 0) : (0 <= (W1 x r).fin /\ (W1 x r).fin <= 8192) /\ (0 <= (W1 x r).miles /\ (W1 x r).miles <= 210000) := by
 obtain ⟨hty, h0, hs⟩ := Qi (UO h)
 have e : W1 x r = (Xk x r).1 := by rw [W1, if_pos h]
 have ee : (Xk x r).2 = 0 := by rw [Z2, if_pos (UO h)] at h; exact h
 rw [e];exact Jo (UL hx hty (Y7 h0)) ⟨hs.1, hs.2.1⟩ (by rw [Xh]; exact hs.2.2) ee
theorem Vh {P : Program} {e : TypeId} {k : Nat} {cs : List PV} {kk : IntKind} {n : Int} {x : PV} (h0 : 0 <= n) (h1 : n < k) (hx : apart P e cs n.toNat = some x) (ht : tsz P e = some 1) : ZgF P (some (.array k e)) (.p (.agg cs)) (.p (.int kk n)) = some (.p x) := by
 simp only [ZgF, if_pos (show 0 <= n /\ n < (k : Int) from ⟨h0, h1⟩), ht, Nat.mul_one, hx]; rfl
def Zym (s : Sco) : PV := .agg [.int .i64 s.cost, .int .i64 s.moved, .int .i64 s.other, .int .i64 s.work]
@[go_sem] theorem ZyG (s : Sco) : Zym s = .agg [.int .i64 s.cost, .int .i64 s.moved, .int .i64 s.other, .int .i64 s.work] := Eq.trans rfl rfl
theorem Jy (s : Sco) : PC 136 [.p (ZeT s)] (Zym s) := by
 refine Zc [] Tryz.func136 rfl Ztt ?_;simp (disch := omega) only [Tryz.f136, go_sem, seval];exact we
theorem Zer (s : Sco) : PC 199 [.p (Zym s)] (ZeT s) := by
 refine Zc [] Tryz.func199 rfl Zs8 ?_;simp (disch := omega) only [Tryz.f199, go_sem, seval];exact we
def Ze7 (a b : Sco) : Sco := ⟨a.cost + b.cost, a.moved + b.moved, a.other + b.other, a.work + b.work⟩
def ZjS (B : Int) (s : Sco) : Prop := (-B <= s.cost /\ s.cost <= B) /\ (-B <= s.moved /\ s.moved <= B) /\ (-B <= s.other /\ s.other <= B) /\ (-B <= s.work /\ s.work <= B)
def ZcH (a b : Sco) (k : Nat) : AM.Obj := .cells [.p (.int .i64 (if 0 < k then a.cost + b.cost else a.cost)), .p (.int .i64 (if 1 < k then a.moved + b.moved else a.moved)), .p (.int .i64 (if 2 < k then a.other + b.other else a.other)), .p (.int .i64 (if 3 < k then a.work + b.work else a.work))]
def Y5 (s : Sco) : AM.Obj := .cells [.p (.int .i64 s.cost), .p (.int .i64 s.moved), .p (.int .i64 s.other), .p (.int .i64 s.work)]
theorem ZxJ (a b : Sco) (ha : ZjS 1152921504606846976 a) (hb : ZjS 1152921504606846976 b) : PC 134 [.p (ZeT a), .p (ZeT b)] (ZeT (Ze7 a b)) := by
 obtain ⟨a1, a2, a3, a4⟩ := ha;obtain ⟨b1, b2, b3, b4⟩ := hb;refine Zc [1] Tryz.func134 rfl Zsp ?_;simp (disch := omega) only [Tryz.f134, go_sem, seval];refine Zq [4] (fun c : Bool => [(5, .ptr (if c = true then 3 else 4) 0), (6, .ptr (if c = true then 4 else 3) 0)]) (fun c => [Y5 a, Y5 b, Y5 zSco, if c = true then Y5 a else Y5 b, if c = true then Y5 b else Y5 a]) (fun _ => True) ?_ ?_
 ·simp (disch := omega) only [go_sem, seval];refine QZ [4, 5] 6 mixed (by kernel_rfl) (by kernel_rfl) (by kernel_rfl) (by simp) ?_;simp (disch := omega) only [go_sem, seval];refine Zm (Jy a) ?_;simp (disch := omega) only [go_sem, seval];refine Zm (Jy b) ?_;simp (disch := omega) only [go_sem, seval];refine KS 4 5 _ _ _ _ (by kernel_rfl) (by simp (disch := omega) only [go_sem, seval]; exact ⟨rfl, rfl⟩) (by simp (disch := omega) only [go_sem, seval]; exact ⟨rfl, rfl⟩) ?_ ?_
  ·refine YH 5 _ _ (by kernel_rfl) (by simp (disch := omega) only [go_sem, seval]; exact ⟨rfl, rfl⟩) (Jx ?_);simp (disch := omega) only [go_sem, seval];exact ⟨true, Weak.mk (by simp (disch := omega) only [Y5, zSco, go_sem, seval])⟩
  ·refine YH 4 _ _ (by kernel_rfl) (by simp (disch := omega) only [go_sem, seval]; exact ⟨rfl, rfl⟩) (Jx ?_);simp (disch := omega) only [go_sem, seval];exact ⟨false, Weak.mk (by simp (disch := omega) only [Y5, zSco, Bool.false_eq_true, go_sem, seval])⟩
 ·intro c _
  cases c <;>
  (simp only [Bool.false_eq_true, if_true, if_false]
   refine Zd [] _ _ _ _ ?_
   simp (disch := omega) only [Y5, zSco, go_sem, seval])
  ·refine Zf [4, 5, 6] (fun k : Nat => [(12, .p (.int .i64 k))]) (fun k => [Y5 a, Y5 b, Y5 zSco, Y5 b, ZcH a b k]) (fun k => k <= 4) (fun k => 4 - k) 0 (by omega) (Weak.mk ?_) ?_
   ·simp (disch := omega) only [Y5, ZcH, zSco, go_sem, seval]
   ·intro k hk;simp (disch := omega) only [Y5, ZcH, zSco, go_sem, seval];refine cD ?_ ?_ <;> intro h1 <;> simp (disch := omega) only [Sh.out h1, go_sem, seval]
    ·have : k = 0 \/ k = 1 \/ k = 2 \/ k = 3 := by omega
     rcases this with rfl | rfl | rfl | rfl
     ·refine ZA 7 mixed (by kernel_rfl) (by kernel_rfl) ?_;simp (disch := omega) only [go_sem, seval];exact ⟨1, by omega, by omega, Weak.mk (by simp (disch := omega) only [Y5, ZcH, zSco, go_sem, seval])⟩
     ·refine ZA 7 mixed (by kernel_rfl) (by kernel_rfl) ?_;simp (disch := omega) only [go_sem, seval];exact ⟨2, by omega, by omega, Weak.mk (by simp (disch := omega) only [Y5, ZcH, zSco, go_sem, seval])⟩
     ·refine ZA 7 mixed (by kernel_rfl) (by kernel_rfl) ?_;simp (disch := omega) only [go_sem, seval];exact ⟨3, by omega, by omega, Weak.mk (by simp (disch := omega) only [Y5, ZcH, zSco, go_sem, seval])⟩
     ·refine ZA 7 mixed (by kernel_rfl) (by kernel_rfl) ?_;simp (disch := omega) only [go_sem, seval];exact ⟨4, by omega, by omega, Weak.mk (by simp (disch := omega) only [Y5, ZcH, zSco, go_sem, seval])⟩
    ·have hk4 : k = 4 := by omega
     subst hk4;refine (Zer (Ze7 a b)).use ?_;simp (disch := omega) only [go_sem, seval];exact we
  ·refine Zf [4, 5, 6] (fun k : Nat => [(12, .p (.int .i64 k))]) (fun k => [Y5 a, Y5 b, Y5 zSco, ZcH a b k, Y5 b]) (fun k => k <= 4) (fun k => 4 - k) 0 (by omega) (Weak.mk ?_) ?_
   ·simp (disch := omega) only [Y5, ZcH, zSco, go_sem, seval]
   ·intro k hk;simp (disch := omega) only [Y5, ZcH, zSco, go_sem, seval];refine cD ?_ ?_ <;> intro h1 <;> simp (disch := omega) only [Sh.out h1, go_sem, seval]
    ·have : k = 0 \/ k = 1 \/ k = 2 \/ k = 3 := by omega
     rcases this with rfl | rfl | rfl | rfl
     ·refine ZA 7 mixed (by kernel_rfl) (by kernel_rfl) ?_;simp (disch := omega) only [go_sem, seval];exact ⟨1, by omega, by omega, Weak.mk (by simp (disch := omega) only [Y5, ZcH, zSco, go_sem, seval])⟩
     ·refine ZA 7 mixed (by kernel_rfl) (by kernel_rfl) ?_;simp (disch := omega) only [go_sem, seval];exact ⟨2, by omega, by omega, Weak.mk (by simp (disch := omega) only [Y5, ZcH, zSco, go_sem, seval])⟩
     ·refine ZA 7 mixed (by kernel_rfl) (by kernel_rfl) ?_;simp (disch := omega) only [go_sem, seval];exact ⟨3, by omega, by omega, Weak.mk (by simp (disch := omega) only [Y5, ZcH, zSco, go_sem, seval])⟩
     ·refine ZA 7 mixed (by kernel_rfl) (by kernel_rfl) ?_;simp (disch := omega) only [go_sem, seval];exact ⟨4, by omega, by omega, Weak.mk (by simp (disch := omega) only [Y5, ZcH, zSco, go_sem, seval])⟩
    ·have hk4 : k = 4 := by omega
     subst hk4;refine (Zer (Ze7 a b)).use ?_;simp (disch := omega) only [go_sem, seval];exact we
def J8 (s : Sco) : Int × Int := if s.cost < 0 \/ s.moved < 0 \/ s.other < 0 \/ s.work < 0 then (0, 2) else if 1073741824 < s.cost \/ 16 <= s.moved \/ 16 <= s.other \/ 65536 <= s.work then (0, 4) else (((s.cost * 16 + s.moved) * 16 + s.other) * 65536 + s.work, 0)
theorem Zgw (s : Sco) (hs : ZjS 1152921504606846976 s) : PT 85 [.p (ZeT s)] [.p (.int .i64 (J8 s).1), .p (.int .i64 (J8 s).2)] := by
 obtain ⟨a1, a2, a3, a4⟩ := hs;refine Zc [] Tryz.func85 rfl Zyb ?_;simp (disch := omega) only [Tryz.f85, go_sem, seval];refine (Jy s).use ?_;simp (disch := omega) only [go_sem, seval];refine Zf [1, 9] (fun k : Nat => [(10, .p (.int .i64 k))]) (fun _ => [Y5 s, Y5 s]) (fun k => k <= 4 /\ (0 < k -> 0 <= s.cost) /\ (1 < k -> 0 <= s.moved) /\ (2 < k -> 0 <= s.other) /\ (3 < k -> 0 <= s.work)) (fun k => 4 - k) 0 ⟨by omega, by omega, by omega, by omega, by omega⟩ (Weak.mk ?_) ?_
 ·simp (disch := omega) only [Y5, go_sem, seval]
 ·rintro k ⟨hk, k1, k2, k3, k4⟩;simp (disch := omega) only [Y5, go_sem, seval];refine cD ?_ ?_ <;> intro h1 <;> simp (disch := omega) only [Sh.out h1, go_sem, seval]
  ·have : k = 0 \/ k = 1 \/ k = 2 \/ k = 3 := by omega
   rcases this with rfl | rfl | rfl | rfl
   ·rw [Vh (x := .int .i64 s.cost) (by omega) (by omega) (by rfl) (by kernel_rfl)];simp (disch := omega) only [go_sem, seval];refine cD ?_ ?_ <;> intro h2 <;> simp (disch := omega) only [Sh.out h2, go_sem, seval]
    ·have e : J8 s = (0, 2) := by rw [J8, if_pos (by omega)]
     rw [e];exact we
    ·exact ⟨1, ⟨by omega, fun _ => by omega, by omega, by omega, by omega⟩, by omega, Weak.mk (by simp (disch := omega) only [Y5, go_sem, seval])⟩
   ·rw [Vh (x := .int .i64 s.moved) (by omega) (by omega) (by rfl) (by kernel_rfl)];simp (disch := omega) only [go_sem, seval];refine cD ?_ ?_ <;> intro h2 <;> simp (disch := omega) only [Sh.out h2, go_sem, seval]
    ·have e : J8 s = (0, 2) := by rw [J8, if_pos (by omega)]
     rw [e];exact we
    ·exact ⟨2, ⟨by omega, fun _ => k1 (by omega), fun _ => by omega, by omega, by omega⟩, by omega, Weak.mk (by simp (disch := omega) only [Y5, go_sem, seval])⟩
   ·rw [Vh (x := .int .i64 s.other) (by omega) (by omega) (by rfl) (by kernel_rfl)];simp (disch := omega) only [go_sem, seval];refine cD ?_ ?_ <;> intro h2 <;> simp (disch := omega) only [Sh.out h2, go_sem, seval]
    ·have e : J8 s = (0, 2) := by rw [J8, if_pos (by omega)]
     rw [e];exact we
    ·exact ⟨3, ⟨by omega, fun _ => k1 (by omega), fun _ => k2 (by omega), fun _ => by omega, by omega⟩, by omega, Weak.mk (by simp (disch := omega) only [Y5, go_sem, seval])⟩
   ·rw [Vh (x := .int .i64 s.work) (by omega) (by omega) (by rfl) (by kernel_rfl)];simp (disch := omega) only [go_sem, seval];refine cD ?_ ?_ <;> intro h2 <;> simp (disch := omega) only [Sh.out h2, go_sem, seval]
    ·have e : J8 s = (0, 2) := by rw [J8, if_pos (by omega)]
     rw [e];exact we
    ·exact ⟨4, ⟨by omega, fun _ => k1 (by omega), fun _ => k2 (by omega), fun _ => k3 (by omega), fun _ => by omega⟩, by omega, Weak.mk (by simp (disch := omega) only [Y5, go_sem, seval])⟩
  ·have hk4 : k = 4 := by omega
   subst hk4;have g1 := k1 (by omega);have g2 := k2 (by omega);have g3 := k3 (by omega);have g4 := k4 (by omega)
   have n1 : ¬ (s.cost < 0 \/ s.moved < 0 \/ s.other < 0 \/ s.work < 0) := by omega
   have bad : (1073741824 < s.cost \/ 16 <= s.moved \/ 16 <= s.other \/ 65536 <= s.work) -> J8 s = (0, 4) := fun h => by rw [J8, if_neg n1, if_pos h]
   refine gF ?_ ?_ <;> intro h2 <;> simp (disch := omega) only [Sh.out h2, go_sem, seval]
   ·rw [bad (by omega)];exact we
   ·refine gF ?_ ?_ <;> intro h3 <;> simp (disch := omega) only [Sh.out h3, go_sem, seval]
    ·rw [bad (by omega)];exact we
    ·refine gF ?_ ?_ <;> intro h4 <;> simp (disch := omega) only [Sh.out h4, go_sem, seval]
     ·rw [bad (by omega)];exact we
     ·refine cD ?_ ?_ <;> intro h5 <;> simp (disch := omega) only [Sh.out h5, go_sem, seval]
      ·rw [bad (by omega)];exact we
      ·have e : J8 s = (((s.cost * 16 + s.moved) * 16 + s.other) * 65536 + s.work, 0) := by rw [J8, if_neg n1, if_neg (by omega)]
       rw [e];exact we
def ZAi (x : Inst) (i : Int) : Sco × Int :=
 if i < 0 \/ (x.orders.length : Int) <= i then (zSco, 2)
 else if (nth x.orders i.toNat).off = true then (zSco, 9)
 else if (nth x.orders i.toNat).penalty = -1 then (zSco, 23)
 else (⟨(nth x.orders i.toNat).penalty, if (nth x.orders i.toNat).now = -1 then 0 else 1, 0, 0⟩, 0)
def Zi2 (l : List Int) (j : Nat) : List Int := (l.set j (nth l (j - 1))).set (j - 1) (nth l j)
theorem ZbH {l : List Int} {j : Nat} : (Zi2 l j).length = l.length := by simp [Zi2]
theorem Zfb {l : List Int} {j : Nat} (h : j < l.length) : (Zi2 l j).Perm l := by
 have h1 : j - 1 < l.length := by omega
 rw [Zi2, Ze h, Ze h1];exact List.set_set_perm h h1
theorem Zh7 {l : List Int} {j q : Nat} (hj : 0 < j) (h : j < l.length) (hq : q < l.length) : nth (Zi2 l j) q = if q = j then nth l (j - 1) else if q = j - 1 then nth l j else nth l q := by
 rw [Ze (by rw [ZbH]; exact hq)];simp only [Zi2, List.getElem_set]
 by_cases c1 : q = j
 ·subst c1;rw [if_neg (by omega), if_pos rfl, if_pos rfl]
 ·rw [if_neg c1]
  by_cases c2 : q = j - 1
  ·subst c2; rw [if_pos rfl, if_pos rfl]
  ·rw [if_neg (fun e => c2 e.symm), if_neg c2, if_neg (fun e => c1 e.symm), Ze hq]
def Qx (rs : List Rte) (i : Nat) : Int := (rs.countP fun r => hasO r.visits (i : Int) : Nat)
def Wp (us : List Int) (i : Nat) : Int := (us.countP fun u => decide (u = (i : Int)) : Nat)
def ZgA (rs : List Rte) (i : Nat) : Int := (rs.countP fun r => decide (r.typ = (i : Int)) : Nat)
theorem Zew {rs : List Rte} {k : Nat} (h : k < rs.length) (i : Nat) : Qx (rs.take (k + 1)) i = if hasO (nth rs k).visits (i : Int) = true then Qx (rs.take k) i + 1 else Qx (rs.take k) i := by
 unfold Qx;rw [List.take_succ_eq_append_getElem h, List.countP_append, Ze h]
 by_cases c : hasO rs[k].visits (i : Int) = true <;> simp [c]
theorem ZeQ {us : List Int} {k : Nat} (h : k < us.length) (i : Nat) : Wp (us.take (k + 1)) i = if nth us k = (i : Int) then Wp (us.take k) i + 1 else Wp (us.take k) i := by
 unfold Wp;rw [List.take_succ_eq_append_getElem h, List.countP_append, Ze h]
 by_cases c : us[k] = (i : Int) <;> simp [c]
theorem ZfT {rs : List Rte} {k : Nat} (h : k < rs.length) (i : Nat) : ZgA (rs.take (k + 1)) i = if (nth rs k).typ = (i : Int) then ZgA (rs.take k) i + 1 else ZgA (rs.take k) i := by
 unfold ZgA;rw [List.take_succ_eq_append_getElem h, List.countP_append, Ze h]
 by_cases c : rs[k].typ = (i : Int) <;> simp [c]
theorem Zcd {rs : List Rte} {k : Nat} (i : Nat) : 0 <= Qx (rs.take k) i /\ Qx (rs.take k) i <= rs.length := by
 have := List.countP_le_length (p := fun r : Rte => hasO r.visits (i : Int)) (l := rs.take k);rw [List.length_take] at this;unfold Qx; omega
theorem ZcK {us : List Int} {k : Nat} (i : Nat) : 0 <= Wp (us.take k) i /\ Wp (us.take k) i <= us.length := by
 have := List.countP_le_length (p := fun u : Int => decide (u = (i : Int))) (l := us.take k);rw [List.length_take] at this;unfold Wp; omega
theorem ZiQ {rs : List Rte} {k : Nat} (i : Nat) : 0 <= ZgA (rs.take k) i /\ ZgA (rs.take k) i <= rs.length := by
 have := List.countP_le_length (p := fun r : Rte => decide (r.typ = (i : Int))) (l := rs.take k);rw [List.length_take] at this;unfold ZgA; omega
def ZiD (x : Inst) (us : List Int) : Bool := us.all fun u => decide (0 <= u) && decide (u < (x.orders.length : Int))
def Zdz (x : Inst) : List Rte -> Int
 | [] => 0
 | r :: l => if Z2 x r = 0 then Zdz x l else Z2 x r
theorem Zeg {x : Inst} : ∀ {l : List Rte} {k : Nat}, k < l.length -> (∀ j, j < k -> Z2 x (nth l j) = 0) -> ¬ Z2 x (nth l k) = 0 -> Zdz x l = Z2 x (nth l k)
 | r :: l, 0, _, _, h => by rw [Zdz, if_neg (show ¬ Z2 x r = 0 from h)]; rfl
 | r :: l, k + 1, hk, h0, h => by
  rw [Zdz, if_pos (show Z2 x r = 0 from h0 0 (by omega))];exact Zeg (l := l) (k := k) (by simpa using hk) (fun j hj => h0 (j + 1) (by omega)) h
theorem ZeY {x : Inst} : ∀ {l : List Rte}, (∀ j, j < l.length -> Z2 x (nth l j) = 0) -> Zdz x l = 0
 | [], _ => rfl
 | r :: l, h => by
  rw [Zdz, if_pos (show Z2 x r = 0 from h 0 (by simp))];exact ZeY fun j hj => h (j + 1) (by simpa using hj)
def Zg2 (p : Pln) (i : Nat) : Int := Qx p.routes i + Wp p.unserved i
def ZaG (x : Inst) (p : Pln) : Bool := (List.range x.orders.length).any fun i => decide (1 < Zg2 p i)
def ZbG (x : Inst) (p : Pln) : Bool := (List.range x.types.length).any fun t => decide ((nth x.types t).count < ZgA p.routes t)
def Q2 (x : Inst) (p : Pln) : Bool := (List.range x.orders.length).any fun i => (nth x.orders i).off && decide (0 < Wp p.unserved i)
def ZdQ (x : Inst) (p : Pln) : Bool := (List.range x.orders.length).any fun i => !(nth x.orders i).off && (decide (Zg2 p i = 0) || (decide (0 < Wp p.unserved i) && decide ((nth x.orders i).penalty = -1)))
def Jn (x : Inst) (p : Pln) : Int :=
 if ¬ Zdz x p.routes = 0 then Zdz x p.routes
 else if ZiD x p.unserved = false then 2
 else if ZaG x p = true then 6
 else if ZbG x p = true then 22
 else if Q2 x p = true then 9
 else if ZdQ x p = true then 23
 else 0
theorem ZcR {rs : List Rte} (i : Nat) : 0 <= Qx rs i /\ Qx rs i <= rs.length := by
 have := Zcd (rs := rs) (k := rs.length) i;rwa [List.take_length] at this
theorem ZbE {us : List Int} (i : Nat) : 0 <= Wp us i /\ Wp us i <= us.length := by
 have := ZcK (us := us) (k := us.length) i;rwa [List.take_length] at this
theorem Zph {x : Inst} (hx : InstOk x) : x.orders.length <= 10 := by have := hx.orders.1; omega
theorem ZBx {x : Inst} (hx : InstOk x) : x.types.length <= 6 := by have := hx.types.1; simp only [rng, decide_eq_true_eq] at this; omega
theorem Zmg {p : Pln} (hp : p.wf 1048576) : ∀ r ∈ p.routes, rteB r := fun r hr => by
 obtain ⟨_, _, w1, _, w2, _⟩ := hp.2.1 r hr;exact ⟨w2, w1⟩
theorem Zhk {x : Inst} {l : List Rte} : Zdz x l = 0 ↔ ∀ r ∈ l, Z2 x r = 0 := by
 induction l with
 | nil => simp [Zdz]
 | cons r l ih =>
  rw [Zdz]
  by_cases h : Z2 x r = 0
  ·rw [if_pos h, ih]; simp [h]
  ·rw [if_neg h]; simp [h]
theorem Zfj {x : Inst} {r : Rte} (hx : InstOk x) (hl : r.visits.length <= 1048576) (h : Z2 x r = 0) : ZjS 1073741824 (QD x r) := by
 have hg := ZhC hx h;obtain ⟨hty, _, _⟩ := Qi (UO h);have hnum := UG hx (show r.typ.toNat < x.types.length by omega);have htyp : nth x.types r.typ.toNat = Z0 x r := rfl;rw [htyp] at hnum
 have e : (Xk x r).1 = W1 x r := by rw [W1, if_pos h]
 have hch := UJ (x := x) (l := r.visits) (t := r.typ) r.visits.length;rw [QD, if_pos h, e];unfold ZjX ZjS
 generalize W1 x r = s at *
 generalize Z0 x r = t at *
 have p1 : 0 <= t.perMile * s.miles /\ t.perMile * s.miles <= 100 * 210000 := ⟨Int.mul_nonneg (by omega) (by omega), Int.mul_le_mul (by omega) (by omega) (by omega) (by omega)⟩
 have hW : -8192 <= s.fin - t.opn /\ s.fin - t.opn <= 8192 := by omega
 have p2 : -819200 <= t.perTick * (s.fin - t.opn) /\ t.perTick * (s.fin - t.opn) <= 819200 := by
  generalize s.fin - t.opn = w at hW;have a1 := Int.mul_le_mul_of_nonneg_left hW.2 (show 0 <= t.perTick by omega);have a2 := Int.mul_le_mul_of_nonneg_left hW.1 (show 0 <= t.perTick by omega);omega
 have p3 : -128 <= (s.fin - t.opn).tdiv 64 /\ (s.fin - t.opn).tdiv 64 <= 128 := by
  generalize s.fin - t.opn = w at hW;rcases Int.le_total 0 w with h | h
  ·rw [Int.tdiv_eq_ediv_of_nonneg h]; omega
  ·have : w.tdiv 64 = -((-w) / 64) := by rw [<- Int.tdiv_eq_ediv_of_nonneg (by omega), Int.neg_tdiv, Int.neg_neg]
   rw [this]; omega
 have p4 : 0 <= (s.fin - t.opn).tdiv 64 * (s.fin - t.opn).tdiv 64 /\ (s.fin - t.opn).tdiv 64 * (s.fin - t.opn).tdiv 64 <= 16384 := by
  generalize (s.fin - t.opn).tdiv 64 = q at p3;refine ⟨?_, ?_⟩
  ·rcases Int.le_total 0 q with h | h
   ·exact Int.mul_nonneg h h
   ·exact Int.mul_nonneg_of_nonpos_of_nonpos h h
  ·rcases Int.le_total 0 q with h | h
   ·have := Int.mul_le_mul p3.2 p3.2 h (by omega); omega
   ·have h2 : 0 <= -q := by omega
    have := Int.mul_le_mul (show -q <= 128 by omega) (show -q <= 128 by omega) h2 (by omega);rw [Int.neg_mul_neg] at this; omega
 simp only;omega
theorem Zfw {a : Sco} {B C : Int} (h : B <= C) (ha : ZjS B a) : ZjS C a := by
 simp only [ZjS] at *
 omega
theorem ZgW {x : Inst} {p : Pln} (h : Jn x p = 0) : (∀ r ∈ p.routes, Z2 x r = 0) /\ ∀ i ∈ p.unserved, (ZAi x i).2 = 0 := by
 unfold Jn at h
 split at h
 ·rename_i c; exact absurd h c
 ·rename_i c0;have her : Zdz x p.routes = 0 := Classical.not_not.1 c0
  split at h
  ·simp at h
  ·rename_i c1
   split at h
   ·simp at h
   ·split at h
    ·simp at h
    ·split at h
     ·simp at h
     ·rename_i c4
      split at h
      ·simp at h
      ·rename_i c5;refine ⟨Zhk.1 her, fun u hu => ?_⟩
       have hub : ZiD x p.unserved = true := by simpa using c1
       rw [ZiD, List.all_eq_true] at hub;have h1 := hub u hu;simp only [Bool.and_eq_true, decide_eq_true_eq] at h1
       have hui : u.toNat < x.orders.length := by omega
       have hcu : 0 < Wp p.unserved u.toNat := by
        unfold Wp;have : 0 < p.unserved.countP fun v => decide (v = (u.toNat : Int)) := List.countP_pos_iff.2 ⟨u, hu, by rw [decide_eq_true_eq]; omega⟩;omega
       have h4 : Q2 x p = false := by simpa using c4
       have h5 : ZdQ x p = false := by simpa using c5
       have h4 := List.any_eq_false.1 h4 _ (List.mem_range.2 hui);have h5 := List.any_eq_false.1 h5 _ (List.mem_range.2 hui);have o1 : ¬ (nth x.orders u.toNat).off = true := fun e => h4 (by simp [e, hcu]);have o2 : ¬ (nth x.orders u.toNat).penalty = -1 := fun e => h5 (by simp at o1; simp [e, hcu, o1]);rw [ZAi, if_neg (by omega), if_neg o1, if_neg o2]
theorem Kg {P : Program} {H0 L : List AM.Obj} {f : FuncId} {gs : List V} {z : PV} {B : V -> Prop} {t} (h : ACalls P f gs H0 fun x H' => x = .p z /\ H' = H0) (k : B (.p z)) (ha : refBs H0.length gs = true) (hf : refH H0.length H0 = true) :
  exq (fun y => ACalls P f gs (H0 ++ L) (Zv (Zv (fun x H' => x = y /\ H' = H0 ++ L) ⟨⟩) ⟨⟩)) (Zv B t) :=
 ⟨.p z, h.useP rfl ⟨rfl, rfl⟩ ha hf, k⟩
def tkH (a b : AM.Obj) (g : FuncId) (caps : List V) (m : List Int) : List AM.Obj := [a, b, .cells [.fn (.func g) [] caps], .elems 1 (m.map eI)]
structure Two (a b : AM.Obj) (caps : List V) : Prop where
 wa : ∀ H n, 2 <= n -> wkO H n a a
 wb : ∀ H n, 2 <= n -> wkO H n b b
 wc : ∀ n, 2 <= n -> refBs n caps = true
 wf : refH 2 [a, b] = true
theorem KT {P : Program} {H : List AM.Obj} {f : FuncId} {gs : List V} {z : PV} {B : V -> Prop} {t} (h : ACalls P f gs H fun x H' => x = .p z /\ H' = H) (k : B (.p z)) :
  exq (fun y => ACalls P f gs H (Zv (Zv (fun x H' => x = y /\ H' = H) ⟨⟩) ⟨⟩)) (Zv B t) := ⟨.p z, h, k⟩
theorem Zmj {a b : AM.Obj} {g : FuncId} {caps : List V} {v : Int -> Int} (w : Two a b caps) (m : List Int) (p q : Int)
  (hp : ACalls Tryz.prog g (.p (eI p) :: caps) [a, b] fun x H' => x = .p (eI (v p)) /\ H' = [a, b]) (hq : ACalls Tryz.prog g (.p (eI q) :: caps) [a, b] fun x H' => x = .p (eI (v q)) /\ H' = [a, b]) :
  ACalls Tryz.prog 165 [.p (eI p), .p (eI q), .ptr 2 0] (tkH a b g caps m) fun y H' => y = .p (eI (Zlh (v p) (v q))) /\ H' = tkH a b g caps m := by
 obtain ⟨wa, wb, wc, wf⟩ := w;refine Zc [] Tryz.func165 rfl Zq6 ?_;simp (disch := omega) only [Tryz.f165, tkH, go_sem, seval];refine Zi mixed (by kernel_rfl) (by kernel_rfl) ?_;simp (disch := omega) only [go_sem, seval];refine Kg (H0 := [a, b]) (L := [_, _]) hp ?_ (by simp [refBs, refB, wc 2 (Nat.le_refl _)]) wf;simp (disch := omega) only [go_sem, seval];refine Kg (H0 := [a, b]) (L := [_, _]) hq ?_ (by simp [refBs, refB, wc 2 (Nat.le_refl _)]) wf;simp (disch := omega) only [go_sem, seval];refine Zm (ZyF (v p) (v q)) ?_;simp (disch := omega) only [go_sem, seval]
 exact we (by simp (disch := omega) only [tkH, wa, wb, wc, go_sem, seval])
theorem Zge {a b : AM.Obj} {g : FuncId} {caps : List V} {v : Int -> Int} (w : Two a b caps) (l : List Int) (hl : l.length <= 1048576) (hasc : l.Pairwise (· < ·))
  (hv : ∀ p ∈ l, ACalls Tryz.prog g (.p (eI p) :: caps) [a, b] fun x H' => x = .p (eI (v p)) /\ H' = [a, b]) :
  ACalls Tryz.prog 281 [.sl 3 0 l.length l.length, .p (.int .i64 0), .p (.int .i64 l.length), .fn (.func 165) [] [.ptr 2 0]] (tkH a b g caps l) fun y H' => y = .tup [] /\ H' = tkH a b g caps (JF (fun _ => false) v l) := by
 have w' := w;obtain ⟨wa, wb, wc, wf⟩ := w'
 have hasc' : ∀ a b, a < b -> b < l.length -> nth l a < nth l b := fun a b h1 h2 => by rw [Ze h2, Ze (by omega)]; exact List.pairwise_iff_getElem.1 hasc a b (by omega) h2 h1
 refine Zc [] Tryz.func281 rfl Zp7 ?_;simp (disch := omega) only [Tryz.f281, tkH, go_sem, seval]
 refine Zf [0, 1, 2, 3] (fun q : Nat × List Int => [(8, .p (.int .i64 q.1))]) (fun q => tkH a b g caps q.2)
  (fun q => 1 <= q.1 /\ q.2.Perm l /\ (∀ a b, a < b -> b < q.1 -> b < q.2.length -> leK (fun _ => false) v (nth q.2 a) (nth q.2 b) = true) /\ (∀ a b, a < b -> q.1 <= b -> b < l.length -> nth q.2 a < nth q.2 b)) (fun q => l.length - q.1) (1, l) ⟨by omega, .refl _, fun a b h1 h2 => by omega, fun a b h1 h2 h3 => hasc' a b h1 h3⟩ (Weak.mk ?_) ?_
 ·simp (disch := omega) only [tkH, wa, wb, wc, go_sem, seval]
 ·rintro ⟨i, m⟩ ⟨hi, hp, hs, hu⟩;simp only at hi hp hs hu;have hml := hp.length_eq;simp (disch := omega) only [tkH, go_sem, seval];refine cD ?_ ?_ <;> intro h1 <;> simp (disch := omega) only [Sh.out h1, go_sem, seval]
  ·have hi2 : i < m.length := by omega
   refine Zf [0, 1, 2, 3, 8] (fun q : Nat × List Int => [(9, .p (.int .i64 q.1))]) (fun q => tkH a b g caps q.2)
    (fun q => q.1 <= i /\ q.2.Perm l /\ (∀ a b, a < b -> b <= i -> b ≠ q.1 -> leK (fun _ => false) v (nth q.2 a) (nth q.2 b) = true) /\ (∀ a, a < q.1 -> nth q.2 a < nth q.2 q.1) /\ ∀ a b, a < b -> i + 1 <= b -> b < l.length -> nth q.2 a < nth q.2 b) (fun q => q.1) (i, m)
    ⟨by simp, hp, fun a b h1 h2 h3 => hs a b h1 (by simp only at h3; omega) (by omega), fun a h => hu a i h (Nat.le_refl _) (by omega), fun a b h1 h2 h3 => hu a b h1 (by omega) h3⟩ (Weak.mk ?_) ?_
   ·simp (disch := omega) only [tkH, wa, wb, wc, go_sem, seval]
   ·clear hp hs hml hi2 hu;rintro ⟨j, m⟩ ⟨hj, hp, hs, hu, hr⟩;simp only at hj hp hs hu hr;have hml := hp.length_eq
    have hj2 : j < m.length := by omega
    have hin : ∀ k, k < m.length -> nth m k ∈ l := fun k hk => hp.mem_iff.1 (Z7 hk);simp (disch := omega) only [tkH, go_sem, seval];refine Zi mixed (by kernel_rfl) (by kernel_rfl) ?_;simp (disch := omega) only [go_sem, seval]
    have e1 : ((j : Int) - 1).toNat = j - 1 := by omega
    refine gT ?_ ?_ <;> intro h2 <;> simp (disch := omega) only [Sh.out h2, go_sem, seval]
    ·have he1 : elt (m.map eI) j = eI (nth m j) := Xi hj2;have he2 : elt (m.map eI) (j - 1) = eI (nth m (j - 1)) := Xi (by omega)
     have hj3 : j < l.length := by omega
     have hj4 : j - 1 < l.length := by omega
     simp (disch := first | omega | (simp only [List.length_cons, List.length_nil, List.length_append, List.length_map, List.length_take, List.length_drop] <;> omega)) only [e1, he1, he2, hml, hj3, hj4, eq_self, true_and, if_true, go_sem, seval];refine KT (Zmj w m (nth m j) (nth m (j - 1)) (hv _ (hin j hj2)) (hv _ (hin (j - 1) (by omega)))) ?_;simp (disch := omega) only [go_sem, seval];refine cD ?_ ?_ <;> intro h3 <;> simp (disch := omega) only [Sh.out h3, go_sem, seval]
     ·have h3' : v (nth m j) < v (nth m (j - 1)) := by
       by_cases c : v (nth m j) < v (nth m (j - 1))
       ·exact c
       ·unfold Zlh at h3;rw [if_neg c] at h3
        split at h3 <;> omega
      refine Zc5 [15] 16 mixed (by kernel_rfl) (by kernel_rfl) (by kernel_rfl) (by kernel_rfl) (by simp) ?_;simp (disch := first | omega | (simp only [List.length_cons, List.length_nil, List.length_append, List.length_map, List.length_take, List.length_drop] <;> omega)) only [e1, he1, he2, hml, hj3, hj4, eq_self, true_and, if_true, go_sem, seval]
      have ZaQ : (m.map eI).set j (.int .i64 (nth m (j - 1))) = (m.set j (nth m (j - 1))).map eI := by rw [List.map_set]; rfl
      have hl1 : (m.set j (nth m (j - 1))).length = l.length := by simp [hml]
      refine Zf8 15 _ _ (by kernel_rfl) (by simp (disch := first | omega | (simp only [List.length_cons, List.length_nil, List.length_append, List.length_map, List.length_take, List.length_drop] <;> omega)) only [e1, he1, he2, hml, hj3, hj4, eq_self, true_and, if_true, ZaQ, go_sem, seval]; exact ⟨rfl, rfl⟩) (Zk1 ?_)
      generalize hm1 : m.set j (nth m (j - 1)) = m1 at *
      have he3 : elt (m1.map eI) (j - 1) = eI (nth m1 (j - 1)) := Xi (by omega)
      have hset2 : (m1.map eI).set (j - 1) (.int .i64 (nth m j)) = (Zi2 m j).map eI := by rw [Zi2, hm1, List.map_set]; rfl
      simp (disch := first | omega | (simp only [List.length_cons, List.length_nil, List.length_append, List.length_map, List.length_take, List.length_drop] <;> omega)) only [e1, he3, hl1, hj4, eq_self, true_and, if_true, hset2, go_sem, seval];have hsl := ZbH (l := m) (j := j);have hsw := fun q => Zh7 (l := m) (j := j) (q := q) (by omega) hj2;refine ⟨(j - 1, Zi2 m j), ⟨by simp only; omega, (Zfb hj2).trans hp, fun a b h4 h5 h6 => ?_, fun a h4 => ?_, fun a b h4 h5 h6 => ?_⟩, by simp only; omega, Weak.mk (by simp (disch := omega) only [tkH, wa, wb, wc, show ((j - 1 : Nat) : Int) = (j : Int) - 1 by omega, go_sem, seval])⟩
      ·simp only at h6 ⊢;rw [hsw b (by omega), hsw a (by omega)]
       by_cases c1 : b = j
       ·rw [if_pos c1];subst c1;rw [if_neg (by omega)]
        by_cases c2 : a = b - 1
        ·rw [if_pos c2]; simp [leK, h3']
        ·rw [if_neg c2]; exact hs a (b - 1) (by omega) (by omega) (by omega)
       ·rw [if_neg c1, if_neg h6]
        by_cases c2 : a = j
        ·rw [if_pos c2]; exact hs (j - 1) b (by omega) h5 c1
        ·rw [if_neg c2]
         by_cases c3 : a = j - 1
         ·rw [if_pos c3]; exact hs j b (by omega) h5 c1
         ·rw [if_neg c3]; exact hs a b h4 h5 c1
      ·simp only at h4 ⊢;rw [hsw a (by omega), hsw (j - 1) (by omega), if_neg (by omega), if_neg (by omega), if_neg (by omega), if_pos rfl];exact hu a (by omega)
      ·simp only at h5 ⊢;rw [hsw a (by omega), hsw b (by omega), if_neg (show ¬ b = j by omega), if_neg (show ¬ b = j - 1 by omega)]
       by_cases c2 : a = j
       ·rw [if_pos c2]; exact hr (j - 1) b (by omega) h5 h6
       ·rw [if_neg c2]
        by_cases c3 : a = j - 1
        ·rw [if_pos c3]; exact hr j b (by omega) h5 h6
        ·rw [if_neg c3]; exact hr a b h4 h5 h6
     ·have h3' : ¬ v (nth m j) < v (nth m (j - 1)) := fun h => h3 (by unfold Zlh; rw [if_pos h]; omega)
      have hlast : leK (fun _ => false) v (nth m (j - 1)) (nth m j) = true := by
       have := hu (j - 1) (by omega);simp [leK]; omega
      exact ⟨(i + 1, m), ⟨by simp only; omega, hp, fun a b h4 h5 h6 => by
       simp only at h5 ⊢
       by_cases c1 : b = j
       ·subst c1
        by_cases c2 : a = b - 1
        ·rw [c2]; exact hlast
        ·exact Kr (hs a (b - 1) (by omega) (by omega) (by omega)) hlast
       ·exact hs a b h4 (by omega) c1, fun a b h4 h5 h6 => hr a b h4 h5 h6⟩, by simp only; omega, Weak.mk (by simp (disch := omega) only [tkH, wa, wb, wc, go_sem, seval])⟩
    ·have hj0 : j = 0 := by omega
     subst hj0;exact ⟨(i + 1, m), ⟨by simp only; omega, hp, fun a b h4 h5 h6 => hs a b h4 (by simp only at h5; omega) (by omega), fun a b h4 h5 h6 => hr a b h4 h5 h6⟩, by simp only; omega, Weak.mk (by simp (disch := omega) only [tkH, wa, wb, wc, go_sem, seval])⟩
  ·have e : m = JF (fun _ => false) v l := ZaY hp (by
    rw [List.pairwise_iff_getElem];intro a b ha hb hab;have := hs a b hab (by omega) hb
    rwa [Ze ha, Ze hb] at this)
   rw [<- e];exact ⟨.tup [], tkH a b g caps m, Weak.mk (by simp (disch := omega) only [tkH, wa, wb, wc, go_sem, seval]), rfl, rfl⟩
theorem ZhF {a b : AM.Obj} {g : FuncId} {caps : List V} {v : Int -> Int} (w : Two a b caps) (l : List Int) (hl : l.length <= 19) (hasc : l.Pairwise (· < ·))
  (hv : ∀ p ∈ l, ACalls Tryz.prog g (.p (eI p) :: caps) [a, b] fun x H' => x = .p (eI (v p)) /\ H' = [a, b]) :
  ACalls Tryz.prog 217 [.sl 3 0 l.length l.length, .p (.int .i64 l.length), .fn (.func 165) [] [.ptr 2 0]] (tkH a b g caps l) fun y H' => y = .tup [] /\ H' = tkH a b g caps (JF (fun _ => false) v l) := by
 have w' := w;obtain ⟨wa, wb, wc, wf⟩ := w';refine Zc [] Tryz.func217 rfl Zn0 ?_;simp (disch := omega) only [Tryz.f217, tkH, go_sem, seval];refine Zf [0, 1, 2, 6, 7, 8] (fun _ : Unit => []) (fun _ => tkH a b g caps l) (fun _ => True) (fun _ => 0) () trivial (Weak.mk ?_) ?_
 ·simp (disch := omega) only [tkH, wa, wb, wc, go_sem, seval]
 ·intro _ _;simp (disch := omega) only [tkH, go_sem, seval]
  have h1 : ¬ (20 : Int) <= (l.length : Int) := by omega
  simp (disch := omega) only [h1, go_sem, seval];refine (Zge w l (by omega) hasc hv).useH ?_;simp (disch := omega) only [tkH, go_sem, seval];refine Zf [0, 1, 2, 6] (fun _ : Unit => []) (fun _ => tkH a b g caps (JF (fun _ => false) v l)) (fun _ => True) (fun _ => 0) () trivial (Weak.mk ?_) ?_
  ·simp (disch := omega) only [tkH, wa, wb, wc, go_sem, seval]
  ·intro _ _
   have h2 : ¬ (20 : Int) < (l.length : Int) := by omega
   simp (disch := omega) only [tkH, h2, go_sem, seval];exact ⟨.tup [], tkH a b g caps (JF (fun _ => false) v l), Weak.mk (by simp (disch := omega) only [tkH, wa, wb, wc, go_sem, seval]), rfl, rfl⟩
theorem KP {a b : AM.Obj} {g : FuncId} {caps : List V} {v : Int -> Int} (w : Two a b caps) (l : List Int) (hl : l.length <= 19) (hasc : l.Pairwise (· < ·))
  (hv : ∀ p ∈ l, ACalls Tryz.prog g (.p (eI p) :: caps) [a, b] fun x H' => x = .p (eI (v p)) /\ H' = [a, b]) :
  ACalls Tryz.prog 164 [.sl 3 0 l.length l.length, .fn (.func 165) [] [.ptr 2 0]] (tkH a b g caps l) fun y H' => y = .tup [] /\ H' = tkH a b g caps (JF (fun _ => false) v l) := by
 have w' := w;obtain ⟨wa, wb, wc, wf⟩ := w';refine Zc [] Tryz.func164 rfl Zq7 ?_;simp (disch := omega) only [Tryz.f164, tkH, go_sem, seval];refine (ZhF w l hl hasc hv).useH ?_;simp (disch := omega) only [tkH, go_sem, seval];exact ⟨.tup [], tkH a b g caps (JF (fun _ => false) v l), Weak.mk (by simp (disch := omega) only [tkH, wa, wb, wc, go_sem, seval]), rfl, rfl⟩
theorem Zgx {a b : AM.Obj} {g : FuncId} {caps : List V} {v : Int -> Int} (w : Two a b caps) (l : List Int) (c : Bool) (n : Nat) (hl : l.length <= 19) (hasc : l.Pairwise (· < ·)) (h0 : ∀ i ∈ l, 0 <= i /\ i <= 60)
  (hv : ∀ p ∈ l, ACalls Tryz.prog g (.p (eI p) :: caps) [a, b] fun x H' => x = .p (eI (v p)) /\ H' = [a, b]) :
  ACalls Tryz.prog 110 [.p (.list c (l.map eI)), .p (.int .i64 (n : Int)), .fn (.func g) [] caps] [a, b] fun y H' => y = .p (.int .i64 (JQ (fun _ => false) v l n : Nat)) /\ H' = [a, b] := by
 have w' := w;obtain ⟨wa, wb, wc, wf⟩ := w';refine Zc [4] Tryz.func110 rfl ZnV ?_;simp (disch := omega) only [Tryz.f110, go_sem, seval];refine (Zcp l c (by omega)).useF ?_;simp (disch := omega) only [go_sem, seval];refine (KP w l hl hasc hv).useH ?_;have hsl := Jz (q := fun _ => false) (v := v) (l := l);have hsm : ∀ i ∈ JF (fun _ => false) v l, 0 <= i /\ i <= 60 := fun i hi => h0 i (X9.1 hi)
 generalize hS : JF (fun _ => false) v l = m at *
 obtain ⟨K, hK⟩ : ∃ K, K = min n l.length := ⟨_, rfl⟩
 have hmin : J9 true [.p (.int .i64 (n : Int)), .p (.int .i64 (l.length : Int))] = some (.int .i64 (K : Int)) := by
  by_cases h : n <= l.length
  ·rw [Zgt (by omega)]; congr 2; omega
  ·rw [Ze1 (by omega)]; congr 2; omega
 have hKl : K <= m.length := by omega
 have htk : JQ (fun _ => false) v l n = XH (m.take K) := by
  rw [JQ, hS, List.take_eq_take_min, hK, hsl]
 rw [htk];simp (disch := omega) only [tkH, go_sem, seval]
 have hlp : ∀ k, k < m.length -> XH (m.take k) < pw 61 := fun k hk => YU fun i hi => by have := hsm i (List.mem_of_mem_take hi); omega
 have e61 : pw 61 = 2305843009213693952 := rfl
 by_cases hK0 : K = 0
 ·refine XQ (XQ (UU 5 rfl rfl ?_));simp (disch := omega) only [hsl, hmin, go_sem, seval];rw [hK0];refine ⟨_, Ky rfl ZtD rfl (by rfl) (by simpa using hsl) rfl, ?_⟩;rintro _ rfl;simp (disch := omega) only [go_sem, seval];refine Zd [] _ _ _ _ ?_;simp (disch := omega) only [go_sem, seval];refine Zf [7, 20, 21, 22] (fun _ : Unit => []) (fun _ => tkH a b g caps m) (fun _ => True) (fun _ => 0) () trivial (Weak.mk ?_) ?_
  ·simp (disch := omega) only [tkH, wa, wb, wc, go_sem, seval]
  ·intro _ _;simp (disch := omega) only [go_sem, seval];refine Zd [] _ _ _ _ ?_;simp (disch := omega) only [tkH, go_sem, seval];exact ⟨.p (.int .i64 0), [a, b], Weak.mk (by simp (disch := omega) only [wa, wb, go_sem, seval]), rfl, rfl⟩
 ·refine Zd [] _ _ _ _ ?_;simp (disch := omega) only [tkH, hsl, hmin, go_sem, seval];refine Zf [20, 21] (fun k : Nat => [(7, .p (.int .i64 (XH (m.take k) : Nat))), (22, .p (.int .i64 k))]) (fun _ => tkH a b g caps m) (fun k => k <= K) (fun k => K - k) 0 (by simp) (Weak.mk ?_) ?_
  ·simp (disch := omega) only [tkH, wa, wb, wc, XH, List.take_zero, List.foldl_nil, go_sem, seval]
  ·intro k hk;simp (disch := omega) only [tkH, hsl, go_sem, seval];refine cD ?_ ?_ <;> intro h1 <;> simp (disch := omega) only [Sh.out h1, go_sem, seval]
   ·have hk2 : k < m.length := by omega
    have hmk := hsm _ (Zl hk2);have h2 := hlp k hk2;have h3 : pw (nth m k).toNat <= pw 60 := Z3 (by omega);have h4 : pw 60 = 1152921504606846976 := rfl;have hs := UZ hk2
    have hk3 : k < l.length := by omega
    simp (disch := first | omega | (simp only [List.length_cons, List.length_nil, List.length_append, List.length_map, List.length_take, List.length_drop] <;> omega)) only [Xi hk2, hsl, hk3, if_true, go_sem, seval];exact ⟨k + 1, by omega, by omega, Weak.mk (by simp (disch := omega) only [tkH, wa, wb, wc, hs, go_sem, seval])⟩
   ·have hkl : k = K := by omega
    subst hkl;exact ⟨.p (.int .i64 (XH (m.take k) : Nat)), [a, b], Weak.mk (by simp (disch := omega) only [wa, wb, go_sem, seval]), rfl, rfl⟩
theorem Qa {n : Nat} {be : List (Int × Int)} (hv : Val n be) {i j : Nat} (hi : i < n) : (ZK n be (i : Int)).testBit j = true ↔ j = i \/ Ch be j i := by
 have h0 : 0 <= (i : Int) /\ (i : Int) < n := by omega
 rw [ZK, if_pos h0, Nat.testBit_or, Bool.or_eq_true, Int.toNat_natCast, Zay hv j i hi, Z5, decide_eq_true_eq]
 constructor
 ·rintro (h | h)
  ·exact .inr h
  ·exact .inl h.symm
 ·rintro (h | h)
  ·exact .inr h.symm
  ·exact .inl h
theorem Ztn {a b c : Nat} : a &&& b &&& c ≠ 0 ↔ ∃ j, a.testBit j = true /\ b.testBit j = true /\ c.testBit j = true := by
 constructor
 ·intro h;obtain ⟨j, hj⟩ := Nat.exists_testBit_of_ne_zero h;rw [Nat.testBit_and, Nat.testBit_and, Bool.and_eq_true, Bool.and_eq_true] at hj;exact ⟨j, hj.1.1, hj.1.2, hj.2⟩
 ·rintro ⟨j, h1, h2, h3⟩ h
  have : (a &&& b &&& c).testBit j = true := by rw [Nat.testBit_and, Nat.testBit_and, h1, h2, h3]; rfl
  rw [h] at this; simp at this
theorem Vz {a b : Nat} (h : ∀ j, a.testBit j = true -> b.testBit j = true -> False) : a &&& b = 0 := Nat.eq_of_testBit_eq fun j => by
 rw [Nat.testBit_and, Nat.zero_testBit]
 cases ha : a.testBit j <;> cases hb : b.testBit j <;> simp
 exact h j ha hb
theorem VU {n : Nat} {be : List (Int × Int)} (hv : Val n be) {all set i : Nat} (ha : all < pw n) : (lvS n be all set).testBit i = true ↔ all.testBit i = true /\ ∃ j, (j = i \/ Ch be j i) /\ set.testBit j = true /\ all.testBit j = true := by
 rw [ZgL, lvB, Bool.and_eq_true, Bool.and_eq_true, decide_eq_true_eq, decide_eq_true_eq, Ztn]
 constructor
 ·rintro ⟨h1, h2, j, h3, h4⟩;exact ⟨h2, j, (Qa hv h1).1 h3, h4⟩
 ·rintro ⟨h2, j, h3, h4⟩;have h1 := Yc ha h2;exact ⟨h1, h2, j, (Qa hv h1).2 h3, h4⟩
theorem WB {g : Nat} {l : List Rte} {j : Nat} : (Xe (Xo g l)).testBit j = true ↔ (Xe l).testBit j = true /\ g.testBit j = false := by
 rw [Wr, Wr]
 constructor
 ·rintro ⟨r, h1, v, h2, rfl⟩;obtain ⟨h3, _⟩ := List.mem_filter.1 h1;obtain ⟨r0, h4, rfl⟩ := List.mem_map.1 h3;obtain ⟨h5, h6⟩ := List.mem_filter.1 h2;exact ⟨⟨r0, h4, v, h5, rfl⟩, by simpa using h6⟩
 ·rintro ⟨⟨r0, h1, v, h2, rfl⟩, h3⟩;have hm : v ∈ (ZiS g r0).visits := List.mem_filter.2 ⟨h2, by simp [h3]⟩;exact ⟨ZiS g r0, List.mem_filter.2 ⟨List.mem_map.2 ⟨r0, h1, rfl⟩, by simpa using List.length_pos_of_mem hm⟩, v, hm, rfl⟩
theorem Zje {n g : Nat} {l : List Rte} (h : kno n l = true) : kno n (Xo g l) = true := by
 rw [VX] at h ⊢;intro r h1 v h2;obtain ⟨h3, _⟩ := List.mem_filter.1 h1;obtain ⟨r0, h4, rfl⟩ := List.mem_map.1 h3;exact h r0 h4 v (List.mem_filter.1 h2).1
theorem Zd0 {n : Nat} {be : List (Int × Int)} (hv : Val n be) {l : List Rte} (hk : kno n l = true) {set : Nat} :
  Xe (Xo (lvS n be (Xe l) set) l) &&& lvS n be (Xe l) set = 0 /\ Xe (Xo (lvS n be (Xe l) set) l) ||| lvS n be (Xe l) set = Xe l /\ set &&& Xe l &&& Xe (Xo (lvS n be (Xe l) set) l) = 0 /\
   ∀ i, i < n -> (Xe (Xo (lvS n be (Xe l) set) l)).testBit i = true -> ZK n be (i : Int) &&& lvS n be (Xe l) set = 0 := by
 have ha := YD hk;refine ⟨Vz fun j h1 h2 => ?_, Nat.eq_of_testBit_eq fun j => ?_, ?_, fun i hi h1 => Vz fun j h2 h3 => ?_⟩
 ·rw [(WB.1 h1).2] at h2; cases h2
 ·rw [Nat.testBit_or, Bool.eq_iff_iff, Bool.or_eq_true, WB]
  constructor
  ·rintro (h | h)
   ·exact h.1
   ·exact ((VU hv ha).1 h).1
  ·intro h
   cases hg : (lvS n be (Xe l) set).testBit j with
   | true => exact .inr rfl
   | false => exact .inl ⟨h, rfl⟩
 ·rw [Nat.and_assoc];refine Vz fun j h1 h2 => ?_;rw [Nat.testBit_and, Bool.and_eq_true] at h2;have h3 := (WB.1 h2.2).2;rw [(VU hv ha).2 ⟨h2.1, j, .inl rfl, h1, h2.1⟩] at h3
  cases h3
 ·have h4 := WB.1 h1;have h5 := (Qa hv hi).1 h2;obtain ⟨h6, k, h7, h8⟩ := (VU hv ha).1 h3
  have : (lvS n be (Xe l) set).testBit i = true := (VU hv ha).2 ⟨h4.1, k, by
   rcases h5 with rfl | h5
   ·exact h7
   ·rcases h7 with rfl | h7
    ·exact .inr h5
    ·exact .inr (h7.trans h5), h8⟩
  rw [this] at h4
  cases h4.2
def Zyu (x : Inst) : Nat := XW (fun i => !(nth x.orders i).off) x.orders.length
theorem Zlf {n g : Nat} {us : List Int} (hn : n <= 62) (hu : us.all (fun u => decide (0 <= u) && decide (u < (n : Int))) = true) (hg : g < pw n) : XH us ||| g < pw n := by
 refine Nat.or_lt_two_pow (YU fun i hi => ?_) hg;have := List.all_eq_true.1 hu i hi;simp only [Bool.and_eq_true, decide_eq_true_eq] at this;omega
theorem ZcV {l : List Vis} {j : Nat} : hasO l (j : Int) = true ↔ ∃ v ∈ l, v.order = (j : Int) := by
 simp [hasO]
theorem ZfI {x : Inst} {p : Pln} (hx : InstOk x) (hk : kno x.orders.length p.routes = true) (hc : Jn x p = 0) {set : Nat} :
  (XH p.unserved ||| lvS x.orders.length x.before (Xe p.routes) set) &&& Xe (Xo (lvS x.orders.length x.before (Xe p.routes) set) p.routes) = 0 /\
  (XH p.unserved ||| lvS x.orders.length x.before (Xe p.routes) set) ||| Xe (Xo (lvS x.orders.length x.before (Xe p.routes) set) p.routes) = Zyu x := by
 have hv := (VC hx).val;have ha := YD hk;have z1 := (ZgW hc).1
 have hub : ZiD x p.unserved = true := by
  unfold Jn at hc
  split at hc
  ·rename_i c; exact absurd hc c
  ·split at hc
   ·simp at hc
   ·rename_i c; simpa using c
 have h3 : ZaG x p = false /\ Q2 x p = false /\ ZdQ x p = false := by
  unfold Jn at hc
  split at hc
  ·rename_i c; exact absurd hc c
  ·split at hc
   ·simp at hc
   ·split at hc
    ·simp at hc
    ·rename_i c1
     split at hc
     ·simp at hc
     ·split at hc
      ·simp at hc
      ·rename_i c2
       split at hc
       ·simp at hc
       ·rename_i c3;exact ⟨by simpa using c1, by simpa using c2, by simpa using c3⟩
 obtain ⟨e1, e2, e3⟩ := h3
 have q1 : ∀ i, i < x.orders.length -> Zg2 p i <= 1 := fun i hi => by
  have := List.any_eq_false.1 e1 i (List.mem_range.2 hi);simp only [decide_eq_true_eq] at this; omega
 have q2 : ∀ i, i < x.orders.length -> (nth x.orders i).off = true -> Wp p.unserved i <= 0 := fun i hi ho => by
  have := List.any_eq_false.1 e2 i (List.mem_range.2 hi);rw [ho] at this;simp only [Bool.true_and, decide_eq_true_eq] at this; omega
 have q3 : ∀ i, i < x.orders.length -> (nth x.orders i).off = false -> ¬ Zg2 p i = 0 := fun i hi ho h => by
  have := List.any_eq_false.1 e3 i (List.mem_range.2 hi);rw [ho, h] at this;simp at this
 have cR : ∀ i : Nat, (Xe p.routes).testBit i = true ↔ 0 < Qx p.routes i := fun i => by
  rw [Wr, Qx, Int.natCast_pos, List.countP_pos_iff]
  constructor
  ·rintro ⟨r, h1, v, h2, h4⟩;have := VX.1 hk r h1 v h2;exact ⟨r, h1, ZcV.2 ⟨v, h2, by omega⟩⟩
  ·rintro ⟨r, h1, h2⟩;obtain ⟨v, h4, h5⟩ := ZcV.1 h2;exact ⟨r, h1, v, h4, by omega⟩
 have cU : ∀ i : Nat, (XH p.unserved).testBit i = true ↔ 0 < Wp p.unserved i := fun i => by
  rw [XA, Wp, Int.natCast_pos, List.countP_pos_iff]
  constructor
  ·rintro ⟨u, h1, h2⟩;have := List.all_eq_true.1 hub u h1;simp only [Bool.and_eq_true, decide_eq_true_eq] at this;exact ⟨u, h1, by simp only [decide_eq_true_eq]; omega⟩
  ·rintro ⟨u, h1, h2⟩;simp only [decide_eq_true_eq] at h2;exact ⟨u, h1, by omega⟩
 have hoff : ∀ i : Nat, (Xe p.routes).testBit i = true -> (nth x.orders i).off = false := fun i h => by
  obtain ⟨r, h1, v, h2, h4⟩ := Wr.1 h;have := (Zfm.1 (Qi (UO (z1 r h1))).2.1).off v h2;rwa [h4] at this
 have n10 : ∀ i, 0 <= Wp p.unserved i /\ 0 <= Qx p.routes i := fun i => ⟨(ZbE i).1, (ZcR i).1⟩;generalize hg : lvS x.orders.length x.before (Xe p.routes) set = g
 have hgs : ∀ j, g.testBit j = true -> (Xe p.routes).testBit j = true := fun j h => by rw [<- hg] at h; exact ((VU hv ha).1 h).1
 refine ⟨Vz fun j h1 h2 => ?_, Nat.eq_of_testBit_eq fun j => ?_⟩
 ·obtain ⟨h4, h5⟩ := WB.1 h2;rw [Nat.testBit_or, h5, Bool.or_false, cU] at h1;have h6 := (cR j).1 h4;have h7 := q1 j (Yc ha h4);simp only [Zg2] at h7;omega
 ·rw [Zyu, YJ, Bool.eq_iff_iff, Nat.testBit_or, Nat.testBit_or, Bool.or_eq_true, Bool.or_eq_true, WB, Bool.and_eq_true, decide_eq_true_eq, Bool.not_eq_true', cU]
  constructor
  ·rintro ((h | h) | h)
   ·have hj : j < x.orders.length := by
     obtain ⟨u, h1, h2⟩ := XA.1 ((cU j).2 h);have := List.all_eq_true.1 hub u h1;simp only [Bool.and_eq_true, decide_eq_true_eq] at this;omega
    refine ⟨hj, ?_⟩
    cases ho : (nth x.orders j).off with
    | false => rfl
    | true => have := q2 j hj ho; omega
   ·exact ⟨Yc ha (hgs j h), hoff j (hgs j h)⟩
   ·exact ⟨Yc ha h.1, hoff j h.1⟩
  ·rintro ⟨hj, ho⟩;have h5 := q3 j hj ho;have h6 := n10 j;simp only [Zg2] at h5
   by_cases h7 : 0 < Wp p.unserved j
   ·exact .inl (.inl h7)
   ·have h8 : 0 < Qx p.routes j := by omega
    cases hgj : g.testBit j with
    | true => exact .inl (.inr rfl)
    | false => exact .inr ⟨(cR j).2 h8, rfl⟩
theorem ZjU (p : Pln) (i : Nat) (hr : p.routes.length <= 1048576) (hu : p.unserved.length <= 1048576) (hv : ∀ r ∈ p.routes, r.visits.length <= 1048576) :
  PT 69 [.p (ZaI p), .p (.int .i64 (i : Nat))] [.p (.int .i64 (Qx p.routes i)), .p (.int .i64 (Wp p.unserved i))] := by
 refine Zc [] Tryz.func69 rfl Zv1 ?_;simp (disch := omega) only [Tryz.f69, go_sem, seval];refine Zf [1, 2, 7] (fun k : Nat => [(6, .p (.int .i64 (Qx (p.routes.take k) i))), (8, .p (.int .i64 k))]) (fun _ => [Zx p]) (fun k => k <= p.routes.length) (fun k => p.routes.length - k) 0 (by simp) (Weak.mk ?_) ?_
 ·simp (disch := omega) only [Zx, Qx, List.take_zero, List.countP_nil, go_sem, seval]
 ·intro k hk;simp (disch := omega) only [Zx, go_sem, seval];refine cD ?_ ?_ <;> intro h1 <;> simp (disch := omega) only [Sh.out h1, go_sem, seval]
  ·have hk2 : k < p.routes.length := by omega
   have hvl := hv _ (Z7 hk2);have hsu := Zew hk2 i;have hg := Zcd (rs := p.routes) (k := k) i;refine Zf [1, 2, 7, 8] (fun j : Nat => [(6, .p (.int .i64 (Qx (p.routes.take k) i))), (9, .p (.int .i64 j))]) (fun _ => [Zx p]) (fun j => j <= (nth p.routes k).visits.length /\ ∀ q, q < j -> (nth (nth p.routes k).visits q).order ≠ (i : Int)) (fun j => (nth p.routes k).visits.length - j) 0 (by simp) (Weak.mk ?_) ?_
   ·simp (disch := omega) only [Zx, go_sem, seval]
   ·rintro j ⟨hj, hno⟩;simp (disch := omega) only [Zx, go_sem, seval];refine cD ?_ ?_ <;> intro h2 <;> simp (disch := omega) only [Sh.out h2, go_sem, seval]
    ·have hj2 : j < (nth p.routes k).visits.length := by omega
     refine cD ?_ ?_ <;> intro h3 <;> simp (disch := omega) only [Sh.out h3, go_sem, seval]
     ·have hh : hasO (nth p.routes k).visits (i : Int) = true := XM.2 ⟨_, Z7 hj2, h3⟩;rw [if_pos hh] at hsu;exact ⟨k + 1, by omega, by omega, Weak.mk (by simp (disch := omega) only [Zx, hsu, go_sem, seval])⟩
     ·exact ⟨j + 1, ⟨by omega, Zh.2 ⟨hno, h3⟩⟩, by omega, Weak.mk (by simp (disch := omega) only [Zx, go_sem, seval])⟩
    ·have hh : ¬ hasO (nth p.routes k).visits (i : Int) = true := fun e => by
      obtain ⟨v, hv, e⟩ := XM.1 e;obtain ⟨q, hq, rfl⟩ := List.mem_iff_getElem.1 hv;exact hno q (by omega) (by rw [Ze hq]; exact e)
     rw [if_neg hh] at hsu;exact ⟨k + 1, by omega, by omega, Weak.mk (by simp (disch := omega) only [Zx, hsu, go_sem, seval])⟩
  ·have hkl : k = p.routes.length := by omega
   subst hkl;rw [List.take_length];refine Zf [1, 2, 6] (fun k : Nat => [(7, .p (.int .i64 (Wp (p.unserved.take k) i))), (10, .p (.int .i64 k))]) (fun _ => [Zx p]) (fun k => k <= p.unserved.length) (fun k => p.unserved.length - k) 0 (by simp) (Weak.mk ?_) ?_
   ·simp (disch := omega) only [Zx, Wp, List.take_zero, List.countP_nil, go_sem, seval]
   ·intro k hk;simp (disch := omega) only [Zx, go_sem, seval];refine cD ?_ ?_ <;> intro h2 <;> simp (disch := omega) only [Sh.out h2, go_sem, seval]
    ·have hk2 : k < p.unserved.length := by omega
     have hsu := ZeQ hk2 i;have hg := ZcK (us := p.unserved) (k := k) i;refine cD ?_ ?_ <;> intro h3 <;> simp (disch := omega) only [Sh.out h3, go_sem, seval]
     ·rw [if_pos h3] at hsu;exact ⟨k + 1, by omega, by omega, Weak.mk (by simp (disch := omega) only [Zx, hsu, go_sem, seval])⟩
     ·rw [if_neg h3] at hsu;exact ⟨k + 1, by omega, by omega, Weak.mk (by simp (disch := omega) only [Zx, hsu, go_sem, seval])⟩
    ·have hkl : k = p.unserved.length := by omega
     subst hkl;rw [List.take_length];exact we
theorem Zcz {n : Nat} {f : Nat -> Bool} {k : Nat} (hk : k < n) (h : f k = true) : (List.range n).any f = true := List.any_eq_true.2 ⟨k, List.mem_range.2 hk, h⟩
theorem Jw {n : Nat} {f : Nat -> Bool} (h : ∀ j, j < n -> f j = false) : (List.range n).any f = false := by
 rw [List.any_eq_false];intro j hj;rw [h j (List.mem_range.1 hj)]; simp
def ZkO (x : Inst) (p : Pln) (i : Nat) : Bool := !(nth x.orders i).off && (decide (Zg2 p i = 0) || (decide (0 < Wp p.unserved i) && decide ((nth x.orders i).penalty = -1)))
theorem ZlQ (x : Inst) (p : Pln) (hx : InstOk x) (hr : p.routes.length <= 1048576) (hu : p.unserved.length <= 1048576) (hb : ∀ r ∈ p.routes, rteB r) :
  PC 22 [.p (ZG x), .p (ZaI p)] (.int .i64 (Jn x p)) := by
 have hn := Zph hx;have ht := ZBx hx;have hvl : ∀ r ∈ p.routes, r.visits.length <= 1048576 := fun r hr => (hb r hr).1
 have cR : ∀ i, 0 <= Qx p.routes i /\ Qx p.routes i <= 1048576 := fun i => by have := ZcR (rs := p.routes) i; omega
 have cU : ∀ i, 0 <= Wp p.unserved i /\ Wp p.unserved i <= 1048576 := fun i => by have := ZbE (us := p.unserved) i; omega
 refine Zc [] Tryz.func22 rfl ZyR ?_;simp (disch := omega) only [Tryz.f22, go_sem, seval];refine Zf [2, 3] (fun k : Nat => [(5, .p (.int .i64 k))]) (fun _ => [Zb x, Zx p]) (fun k => k <= p.routes.length /\ ∀ j, j < k -> Z2 x (nth p.routes j) = 0) (fun k => p.routes.length - k) 0 (by simp) (Weak.mk ?_) ?_
 ·simp (disch := omega) only [Zb, Zx, go_sem, seval]
 ·rintro k ⟨hk, h0⟩;simp (disch := omega) only [Zb, Zx, go_sem, seval];refine cD ?_ ?_ <;> intro h1 <;> simp (disch := omega) only [Sh.out h1, go_sem, seval]
  ·have hk2 : k < p.routes.length := by omega
   obtain ⟨b1, b2⟩ := hb _ (Z7 hk2);refine ZA 7 mixed (by kernel_rfl) (by kernel_rfl) ?_;simp (disch := omega) only [go_sem, seval];refine Zm (ZgG x (nth p.routes k) hx b1 b2) ?_;simp (disch := omega) only [go_sem, seval];refine cD ?_ ?_ <;> intro h2 <;> simp (disch := omega) only [Sh.out h2, go_sem, seval]
   ·have he : Jn x p = Z2 x (nth p.routes k) := by
     have e := Zeg hk2 h0 h2;rw [Jn, e, if_pos h2]
    rw [he];exact we (by simp (disch := omega) only [Zb, Zx, go_sem, seval])
   ·exact ⟨k + 1, ⟨by omega, Zh.2 ⟨h0, by omega⟩⟩, by omega, Weak.mk (by simp (disch := omega) only [Zb, Zx, go_sem, seval])⟩
  ·have hkl : k = p.routes.length := by omega
   subst hkl;have her := ZeY h0;have c0 : ¬ ¬ Zdz x p.routes = 0 := fun e => e her;refine Zf [2, 3] (fun k : Nat => [(7, .p (.int .i64 k))]) (fun _ => [Zb x, Zx p]) (fun k => k <= p.unserved.length /\ ∀ j, j < k -> 0 <= nth p.unserved j /\ nth p.unserved j < (x.orders.length : Int)) (fun k => p.unserved.length - k) 0 (by simp) (Weak.mk ?_) ?_
   ·simp (disch := omega) only [Zb, Zx, go_sem, seval]
   ·rintro k ⟨hk, hno⟩;simp (disch := omega) only [Zb, Zx, go_sem, seval]
    have hbad : k < p.unserved.length -> (decide (0 <= nth p.unserved k) && decide (nth p.unserved k < (x.orders.length : Int))) = false -> Jn x p = 2 := fun h1 h2 => by
     have : ZiD x p.unserved = false := by
      rw [ZiD, List.all_eq_false];exact ⟨_, Z7 h1, by rw [h2]; simp⟩
     rw [Jn, if_neg c0, if_pos this]
    refine cD ?_ ?_ <;> intro h2 <;> simp (disch := omega) only [Sh.out h2, go_sem, seval]
    ·have hk2 : k < p.unserved.length := by omega
     refine Zi mixed (by kernel_rfl) (by kernel_rfl) ?_;simp (disch := omega) only [go_sem, seval];refine gF ?_ ?_ <;> intro h3 <;> simp (disch := omega) only [Sh.out h3, go_sem, seval]
     ·rw [hbad hk2 (by simp; omega)];exact we
     ·refine cD ?_ ?_ <;> intro h4 <;> simp (disch := omega) only [Sh.out h4, go_sem, seval]
      ·rw [hbad hk2 (by simp; omega)];exact we
      ·exact ⟨k + 1, ⟨by omega, Zh.2 ⟨hno, by omega⟩⟩, by omega, Weak.mk (by simp (disch := omega) only [Zb, Zx, go_sem, seval])⟩
    ·have hkl : k = p.unserved.length := by omega
     subst hkl
     have XC : ZiD x p.unserved = true := by
      rw [ZiD, List.all_eq_true];intro u hu;obtain ⟨j, hj, rfl⟩ := List.mem_iff_getElem.1 hu;have := hno j hj;rw [Ze hj] at this;simp [this.1, this.2]
     have c1 : ¬ ZiD x p.unserved = false := by rw [XC]; simp
     refine Zf [2, 3] (fun k : Nat => [(8, .p (.int .i64 k))]) (fun _ => [Zb x, Zx p]) (fun k => k <= x.orders.length /\ ∀ j, j < k -> decide (1 < Zg2 p j) = false) (fun k => x.orders.length - k) 0 (by simp) (Weak.mk ?_) ?_
     ·simp (disch := omega) only [Zb, Zx, go_sem, seval]
     ·rintro k ⟨hk, hno2⟩;simp (disch := omega) only [Zb, Zx, go_sem, seval];refine cD ?_ ?_ <;> intro h3 <;> simp (disch := omega) only [Sh.out h3, go_sem, seval]
      ·have hk2 : k < x.orders.length := by omega
       have a1 := cR k;have a2 := cU k;refine US (ZjU p k hr hu hvl) ?_;simp (disch := omega) only [go_sem, seval];refine cD ?_ ?_ <;> intro h4 <;> simp (disch := omega) only [Sh.out h4, go_sem, seval]
       ·have hv : Jn x p = 6 := by rw [Jn, if_neg c0, if_neg c1, if_pos (show ZaG x p = true from Zcz hk2 (decide_eq_true h4))]
        rw [hv];exact we
       ·exact ⟨k + 1, ⟨by omega, Zh.2 ⟨hno2, decide_eq_false h4⟩⟩, by omega, Weak.mk (by simp (disch := omega) only [Zb, Zx, go_sem, seval])⟩
      ·have c2 : ¬ ZaG x p = true := by rw [ZaG, Jw fun j hj => hno2 j (by omega)]; simp
       have hkl : k = x.orders.length := by omega
       subst hkl;refine Zf [2, 3] (fun k : Nat => [(11, .p (.int .i64 k))]) (fun _ => [Zb x, Zx p]) (fun k => k <= x.types.length /\ ∀ j, j < k -> decide ((nth x.types j).count < ZgA p.routes j) = false) (fun k => x.types.length - k) 0 (by simp) (Weak.mk ?_) ?_
       ·simp (disch := omega) only [Zb, Zx, go_sem, seval]
       ·rintro t ⟨hk, hno3⟩;simp (disch := omega) only [Zb, Zx, go_sem, seval];refine cD ?_ ?_ <;> intro h4 <;> simp (disch := omega) only [Sh.out h4, go_sem, seval]
        ·have hk2 : t < x.types.length := by omega
         refine Zf [2, 3, 11] (fun k : Nat => [(12, .p (.int .i64 (ZgA (p.routes.take k) t))), (13, .p (.int .i64 k))]) (fun _ => [Zb x, Zx p]) (fun k => k <= p.routes.length) (fun k => p.routes.length - k) 0 (by simp) (Weak.mk ?_) ?_
         ·simp (disch := omega) only [Zb, Zx, ZgA, List.take_zero, List.countP_nil, go_sem, seval]
         ·intro k hk;have hg := ZiQ (rs := p.routes) (k := k) t;simp (disch := omega) only [Zb, Zx, go_sem, seval];refine cD ?_ ?_ <;> intro h5 <;> simp (disch := omega) only [Sh.out h5, go_sem, seval]
          ·have hk3 : k < p.routes.length := by omega
           have hsu := ZfT hk3 t;refine cD ?_ ?_ <;> intro h6 <;> simp (disch := omega) only [Sh.out h6, go_sem, seval]
           ·rw [if_pos h6] at hsu;exact ⟨k + 1, by omega, by omega, Weak.mk (by simp (disch := omega) only [Zb, Zx, hsu, go_sem, seval])⟩
           ·rw [if_neg h6] at hsu;exact ⟨k + 1, by omega, by omega, Weak.mk (by simp (disch := omega) only [Zb, Zx, hsu, go_sem, seval])⟩
          ·have hkl : k = p.routes.length := by omega
           subst hkl
           rw [List.take_length] at *
           refine cD ?_ ?_ <;> intro h6 <;> simp (disch := omega) only [Sh.out h6, go_sem, seval]
           ·have hv : Jn x p = 22 := by rw [Jn, if_neg c0, if_neg c1, if_neg c2, if_pos (show ZbG x p = true from Zcz hk2 (decide_eq_true h6))]
            rw [hv];exact we
           ·exact ⟨t + 1, ⟨by omega, Zh.2 ⟨hno3, decide_eq_false h6⟩⟩, by omega, Weak.mk (by simp (disch := omega) only [Zb, Zx, go_sem, seval])⟩
        ·have c3 : ¬ ZbG x p = true := by rw [ZbG, Jw fun j hj => hno3 j (by omega)]; simp
         have hlast := hno;refine Zf [2, 3] (fun k : Nat => [(14, .p (.int .i64 k))]) (fun _ => [Zb x, Zx p]) (fun k => k <= p.unserved.length /\ ∀ j, j < k -> (nth x.orders (nth p.unserved j).toNat).off = false) (fun k => p.unserved.length - k) 0 (by simp) (Weak.mk ?_) ?_
         ·simp (disch := omega) only [Zb, Zx, go_sem, seval]
         ·rintro k ⟨hk, hno4⟩;simp (disch := omega) only [Zb, Zx, go_sem, seval];refine cD ?_ ?_ <;> intro h5 <;> simp (disch := omega) only [Sh.out h5, go_sem, seval]
          ·have hk2 : k < p.unserved.length := by omega
           have hrg := hno k hk2
           have hui : (nth p.unserved k).toNat < x.orders.length := by omega
           refine Zi mixed (by kernel_rfl) (by kernel_rfl) ?_;simp (disch := omega) only [go_sem, seval];refine cD ?_ ?_ <;> intro h6 <;> simp (disch := omega) only [Sh.out h6, go_sem, seval]
           ·have hcu : 0 < Wp p.unserved (nth p.unserved k).toNat := by
             unfold Wp;have : 0 < p.unserved.countP fun v => decide (v = ((nth p.unserved k).toNat : Int)) := List.countP_pos_iff.2 ⟨_, Z7 hk2, by rw [decide_eq_true_eq]; omega⟩;omega
            have hst : Q2 x p = true := Zcz hui (by rw [h6, decide_eq_true hcu]; rfl)
            have hv : Jn x p = 9 := by rw [Jn, if_neg c0, if_neg c1, if_neg c2, if_neg c3, if_pos hst]
            rw [hv];exact we
           ·exact ⟨k + 1, ⟨by omega, Zh.2 ⟨hno4, by simpa using h6⟩⟩, by omega, Weak.mk (by simp (disch := omega) only [Zb, Zx, go_sem, seval])⟩
          ·have hkl : k = p.unserved.length := by omega
           subst hkl
           have hoff : ∀ i, i < x.orders.length -> 0 < Wp p.unserved i -> (nth x.orders i).off = false := fun i hi hc => by
            unfold Wp at hc
            have hc2 : 0 < p.unserved.countP fun v => decide (v = (i : Int)) := by omega
            obtain ⟨u, hu, e⟩ := List.countP_pos_iff.1 hc2;obtain ⟨j, hj, rfl⟩ := List.mem_iff_getElem.1 hu;have h := hno4 j hj;rw [Ze hj] at h;rw [decide_eq_true_eq] at e;rw [e] at h;simpa using h
           have c4 : ¬ Q2 x p = true := by
            rw [Q2, Jw fun j hj => ?_]
            ·simp
            ·by_cases c : 0 < Wp p.unserved j
             ·rw [hoff j hj c]; rfl
             ·rw [decide_eq_false c, Bool.and_false]
           refine Zf [2, 3] (fun k : Nat => [(15, .p (.int .i64 k))]) (fun _ => [Zb x, Zx p]) (fun k => k <= x.orders.length /\ ∀ j, j < k -> ZkO x p j = false) (fun k => x.orders.length - k) 0 (by simp) (Weak.mk ?_) ?_
           ·simp (disch := omega) only [Zb, Zx, go_sem, seval]
           ·rintro k ⟨hk, hno5⟩;simp (disch := omega) only [Zb, Zx, go_sem, seval];refine cD ?_ ?_ <;> intro h6 <;> simp (disch := omega) only [Sh.out h6, go_sem, seval]
            ·have hk2 : k < x.orders.length := by omega
             have a1 := cR k;have a2 := cU k;have ho := hoff k hk2
             have miss : (!(nth x.orders k).off && (decide (Zg2 p k = 0) || (decide (0 < Wp p.unserved k) && decide ((nth x.orders k).penalty = -1)))) = true -> Jn x p = 23 := fun h => by
              rw [Jn, if_neg c0, if_neg c1, if_neg c2, if_neg c3, if_neg c4, if_pos (show ZdQ x p = true from Zcz hk2 h)]
             have nxt : (!(nth x.orders k).off && (decide (Qx p.routes k + Wp p.unserved k = 0) || (decide (0 < Wp p.unserved k) && decide ((nth x.orders k).penalty = -1)))) = false -> ∀ j, j < k + 1 -> ZkO x p j = false := fun h => Zh.2 ⟨hno5, h⟩;have hoc : Zg2 p k = Qx p.routes k + Wp p.unserved k := rfl;rw [hoc] at miss;refine US (ZjU p k hr hu hvl) ?_
             generalize Qx p.routes k = ca at *
             generalize Wp p.unserved k = cb at *
             simp (disch := omega) only [go_sem, seval]
             cases hof : (nth x.orders k).off with
             | false =>
              refine gT ?_ ?_ <;> intro h7 <;> simp (disch := omega) only [Sh.out h7, hof, Bool.not_false, go_sem, seval]
              ·rw [miss (by rw [hof, decide_eq_true h7]; rfl)];exact we
              ·refine gT ?_ ?_ <;> intro h8 <;> simp (disch := omega) only [Sh.out h8, hof, go_sem, seval]
               ·refine cD ?_ ?_ <;> intro h9 <;> simp (disch := omega) only [Sh.out h9, go_sem, seval]
                ·rw [miss (by rw [hof, decide_eq_true h8, decide_eq_true h9]; simp)];exact we
                ·exact ⟨k + 1, ⟨by omega, nxt (by simp [hof, h7, h9])⟩, by omega, Weak.mk (by simp (disch := omega) only [Zb, Zx, go_sem, seval])⟩
               ·exact ⟨k + 1, ⟨by omega, nxt (by simp [hof, h7, h8])⟩, by omega, Weak.mk (by simp (disch := omega) only [Zb, Zx, go_sem, seval])⟩
             | true =>
              have hcb : ¬ 0 < cb := fun e => by have := ho e; rw [hof] at this; simp at this
              have hn : ∀ j, j < k + 1 -> ZkO x p j = false := nxt (by simp [hof]);refine gT ?_ ?_ <;> intro h7 <;> simp (disch := omega) only [Sh.out h7, hof, Bool.not_true, go_sem, seval]
              ·refine gT ?_ ?_ <;> intro h8 <;> simp (disch := omega) only [Sh.out h8, go_sem, seval]
               ·exact absurd h8 hcb
               ·exact ⟨k + 1, ⟨by omega, hn⟩, by omega, Weak.mk (by simp (disch := omega) only [Zb, Zx, go_sem, seval])⟩
              ·refine gT ?_ ?_ <;> intro h8 <;> simp (disch := omega) only [Sh.out h8, go_sem, seval]
               ·exact absurd h8 hcb
               ·exact ⟨k + 1, ⟨by omega, hn⟩, by omega, Weak.mk (by simp (disch := omega) only [Zb, Zx, go_sem, seval])⟩
            ·have c5 : ¬ ZdQ x p = true := by rw [show ZdQ x p = false from Jw fun j hj => hno5 j (by omega)]; simp
             have hv : Jn x p = 0 := by rw [Jn, if_neg c0, if_neg c1, if_neg c2, if_neg c3, if_neg c4, if_neg c5]
             rw [hv];exact we
end Go.Proofs.YtcdoglogglbemaaGreatDoor.K
