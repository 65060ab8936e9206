/- Declarations that the closing texts need, part 15: joined by tools/slim.py. -/
import Derived.Test.YtcdoglogglbemaaGreatDoorZa14
set_option linter.unusedVariables false
set_option linter.unusedSimpArgs false
namespace Go.Proofs.YtcdoglogglbemaaGreatDoor.K
open Go Go.AM Go.Proofs
set_option maxRecDepth 8000
set_option maxHeartbeats 8000000
def ZvI : PV := .agg [.list true [], .list true [], .list true [], .list true [], .list true [], .list true [], .str [], .int .i64 0, .int .i64 0, .int .i64 0, .list true [], .int .i64 0, .int .i64 0, .int .i64 0, .int .i64 0, .int .i64 0, .int .i64 0, .int .i64 0, .int .i64 0, .int .i64 0, .int .i64 0, .int .i64 0, .list true [], .list true [], .list true []]
theorem Zkt (x : Inst) (r : Rte) (hty : 0 <= r.typ /\ r.typ < (x.types.length : Int)) (htl : x.types.length <= 1048576) (hvl : r.visits.length <= 20) (hs : ¬ (0 <= r.start /\ r.start <= 4096)) :
  PT 272 [.p (Zy x), .p (Yq r)] [.p ZvI, .p (.bool false)] := by
 have e1 : ¬ r.typ < 0 := by omega
 have e2 : ¬ (x.types.length : Int) <= r.typ := by omega
 refine Zc [] Tryz.func272 rfl Zjh ?_;simp (disch := omega) only [Tryz.f272, e1, e2, go_sem, seval];refine gF ?_ ?_ <;> intro h1 <;> simp (disch := omega) only [Sh.out h1, go_sem, seval]
 ·exact we (by simp (disch := omega) only [ZvI, go_sem, seval])
 ·refine gF ?_ ?_ <;> intro h2 <;> simp (disch := omega) only [Sh.out h2, go_sem, seval]
  ·exact we (by simp (disch := omega) only [ZvI, go_sem, seval])
  ·omega
theorem ZcF {x t sp} : ∀ (bs : List Bool) (k : Nat) (L : Lab), ¬ (X9 x t sp k L bs).2 = 0 -> (X9 x t sp k L bs).1 = WJ
 | [], k, L, h => by simp [X9] at h
 | b :: bs, k, L, h => by
  rw [X9] at h ⊢
  split
  ·rename_i c;rw [if_pos c] at h;exact ZcF bs (k + 1) _ h
  ·rfl
theorem ZgJ (n : Nat) : List.replicate n false ∈ Yf (List.replicate n false) := by
 rw [fromB_next]; simp
theorem Zik {l : List Lab} (h : fmL WP none l = none) : l = [] := by
 cases l with
 | nil => rfl
 | cons a l =>
  obtain ⟨z, hz, _⟩ := VQ (fin := WP) l a;have : fmL WP none (a :: l) = fmL WP (some a) l := rfl;rw [this, hz] at h; cases h
theorem Zgi {x t sp} {st : Int} {r : List Bool} (h : fmL WP none ((YY r (sp.length + 1)).filterMap (Ur (X6 x t sp) 0 (X1 t st))) = none) : ¬ (X9 x t sp 0 (X1 t st) (W4 r (sp.length + 1))).2 = 0 := fun h0 => by
 have h1 := Zik h;have h2 : W4 r (sp.length + 1) ∈ YY r (sp.length + 1) := List.mem_map.2 ⟨_, ZgJ _, rfl⟩;have h3 := List.filterMap_eq_nil_iff.1 h1 _ h2;rw [WE, if_pos h0] at h3
 cases h3
theorem ZdC {x t sp} {st : Int} {r : List Bool} (hr : r.length <= sp.length + 1) (h : fmL WP none (UE ZK (X6 x t sp) (chF r) (sp.length + 1) 0 [X1 t st]) = none) : ¬ (X9 x t sp 0 (X1 t st) (W4 r (sp.length + 1))).2 = 0 :=
 Zgi (by rw [ZaK, YB, KO r _ hr] at h; exact h)
def V6 (x : Inst) (r : Rte) : She × Int := if 0 <= r.start /\ r.start <= 4096 /\ r.rests.length <= r.visits.length + 1 then Xf x r else (zShe, 2)
theorem Zic {x t sp} {ch : Nat -> List Bool} {k : Nat} {l : List Lab} (hok : TrpOk x t sp) (hs : 0 < sp.length) (hk : k <= sp.length) (h : ∀ L ∈ l, LabO sp.length k L) : ∀ L ∈ Z7 ZK [] (YO (X6 x t sp) ch k l), LabO sp.length (k + 1) L := fun L hL => by
 have h1 := VU ZK _ _ L hL;rw [List.nil_append] at h1;obtain ⟨a, ha, hb⟩ := List.mem_flatMap.1 h1;obtain ⟨b, _, hn⟩ := List.mem_filterMap.1 hb;rw [X6] at hn
 split at hn
 ·rename_i c;simp at hn; subst hn;exact Ku hok hs hk (h a ha) c
 ·cases hn
theorem Ql : ∀ (c out : List Lab), (Z7 ZK out c).length <= out.length + c.length
 | [], out => by simp [Z7]
 | x :: c, out => by
  rw [Z7]
  split
  ·have := Ql c out; simp; omega
  ·have := Ql c (out ++ [x]); simp at this ⊢; omega
theorem ZaB {x t sp} {r : List Bool} {k : Nat} : ∀ l : List Lab, (YO (X6 x t sp) (chF r) k l).length <= 2 * l.length
 | [] => by simp [YO]
 | a :: l => by
  have ih := ZaB (x := x) (t := t) (sp := sp) (r := r) (k := k) l;have h1 : (YO (X6 x t sp) (chF r) k (a :: l)) = (chF r k).filterMap (X6 x t sp k a) ++ YO (X6 x t sp) (chF r) k l := rfl;have h2 := List.length_filterMap_le (X6 x t sp k a) (chF r k)
  have h3 : (chF r k).length <= 2 := by unfold chF; split <;> simp
  rw [h1, List.length_append, List.length_cons]; omega
theorem ZlU (x : Inst) (r : Rte) (hx : InstOk x) (hl : r.visits.length <= 1048576) (hrl : r.rests.length <= 1048576) (hty : 0 <= r.typ /\ r.typ < (x.types.length : Int)) (h0 : ZW x r.visits = 0) :
  PT 197 [.p (Zy x), .p (Yq r)] [.p (ZfE (V6 x r).1), .p (.int .i64 (V6 x r).2)] := by
 have hd := Wo hx;have hsq := Wt h0;have hol := hd.ord;have htl := hd.typ;have hvl := hsq.len hol;have hok := UZ hx hty hsq;have hsl : (ZY x r.visits).length = r.visits.length := Xe
 have hs1 : 0 < (ZY x r.visits).length := by
  rw [hsl];have := hsq.ne
  cases hv : r.visits with
  | nil => exact absurd hv this
  | cons a b => simp
 refine Zc [6, 13, 14] Tryz.func197 rfl Zq6 ?_;simp (disch := omega) only [Tryz.f197, go_sem, seval]
 by_cases hs : 0 <= r.start /\ r.start <= 4096
 ·refine Xp (ZnY x r hx hty h0 hs) ?_;simp (disch := omega) only [go_sem, seval];refine cD ?_ ?_ <;> intro h1 <;> simp (disch := omega) only [Sh.out h1, go_sem, seval]
  ·have e : V6 x r = (zShe, 2) := by rw [V6, if_neg (by omega)]
   rw [e];exact we (by simp (disch := omega) only [zShe, List.map_nil, go_sem, seval])
  ·have hrs : r.rests.length <= r.visits.length + 1 := by omega
   have e : V6 x r = Xf x r := by rw [V6, if_pos ⟨hs.1, hs.2, hrs⟩]
   have hbn := @ZdC x (Z2 x r) (ZY x r.visits) r.start r.rests (by rw [hsl]; exact hrs);rw [e, Xf, Zaq (by rw [hsl]; exact hrs)];refine (ZaR x (Z2 x r) r false (ZY x r.visits)).use ?_;simp (disch := omega) only [go_sem, seval]
   generalize hT : Z2 x r = t at *
   generalize hS : ZY x r.visits = sp at *
   refine Zm (Weak.fz (o := 4) (by rfl)) ?_;refine Zd [13, 14] _ _ _ _ ?_;simp (disch := omega) only [List.map_cons, List.map_nil, List.set_cons_succ, List.set_cons_zero, go_sem, seval]
   refine ZI [13, 14] [3, 4, 6, 8, 38] (fun q : Nat × List Lab => [(9, .p (.list false (q.2.map JT))), (39, .p (.int .i64 q.1))]) (fun _ => [Zb x, Zw r, .cells [.p (.bool false), .p (.int .i64 0), .p (.list true []), .p (.int .i64 0), .p (.int .i64 0)], Ya x t r false sp, .dead])
    (fun q => q.1 <= sp.length + 1 /\ UE ZK (X6 x t sp) (chF r.rests) (sp.length + 1) 0 [X1 t r.start] = UE ZK (X6 x t sp) (chF r.rests) (sp.length + 1 - q.1) q.1 q.2 /\ (∀ L ∈ q.2, LabO sp.length q.1 L) /\ q.2.length <= 2 ^ q.1) (fun q => sp.length + 1 - q.1) (0, [X1 t r.start]) ⟨by simp, by simp, fun L hL => by simp at hL; subst hL; exact Kz hok hs, by simp⟩ (Weak.mk ?_) ?_
   ·simp (disch := omega) only [Zb, Zw, Ya, List.map_cons, List.map_nil, List.set_cons_succ, List.set_cons_zero, List.cons_append, List.nil_append, go_sem, seval]
   ·rintro ⟨k, l⟩ ⟨hk, hit, hlo, hll⟩;simp only at hk hit hlo hll;simp (disch := omega) only [Zb, Zw, Ya, go_sem, seval];refine cD ?_ ?_ <;> intro h2 <;> simp (disch := omega) only [Sh.out h2, go_sem, seval]
    ·have hk2 : k <= sp.length := by omega
     have hp20 : 2 ^ k <= 2 ^ 20 := Nat.pow_le_pow_right (by omega) (by omega);refine (ZpH x t r false sp hok hs1 k hk2 hrl l false (by omega) hlo).use ?_;simp (disch := omega) only [go_sem, seval]
     have hn : UE ZK (X6 x t sp) (chF r.rests) (sp.length + 1 - k) k l = UE ZK (X6 x t sp) (chF r.rests) (sp.length + 1 - (k + 1)) (k + 1) (Z7 ZK [] (YO (X6 x t sp) (chF r.rests) k l)) := by
      have e : sp.length + 1 - k = (sp.length + 1 - (k + 1)) + 1 := by omega
      rw [e, UE]
     have hln := Ql (YO (X6 x t sp) (chF r.rests) k l) [];have hln2 := ZaB (x := x) (t := t) (sp := sp) (r := r.rests) (k := k) l;exact ⟨(k + 1, Z7 ZK [] (YO (X6 x t sp) (chF r.rests) k l)), ⟨by simp only; omega, hit.trans hn, Zic hok hs1 hk2 hlo, by simp at hln; simp only [Nat.pow_succ]; omega⟩, by simp only; omega, Weak.mk (by simp (disch := omega) only [Zb, Zw, Ya, List.set_cons_succ, List.set_cons_zero, go_sem, seval])⟩
    ·have hkn : k = sp.length + 1 := by omega
     subst hkn;rw [Nat.sub_self, UE] at hit;rw [hit] at hbn ⊢;clear hit;refine cD ?_ ?_ <;> intro h3 <;> simp (disch := omega) only [Sh.out h3, go_sem, seval]
     ·have hl0 : l = [] := List.eq_nil_of_length_eq_zero (by omega);subst hl0;have hbn := hbn rfl;refine XA (Zgt 3 rfl rfl ?_);simp (disch := omega) only [go_sem, seval];refine ⟨_, _, Zc6 (e := 4) rfl Tryz.underlying41 (by kernel_rfl) rfl rfl rfl ?_ ?_ ?_, ?_⟩
      ·simp
      ·simp; omega
      ·intro q hq;obtain ⟨b, _, rfl⟩ := List.mem_map.1 hq
       rfl
      ·have hpl : (W4 r.rests (sp.length + 1)).length = sp.length + 1 := by simp [W4]; omega
       have hpad : r.rests.map eB ++ (PV.bool false :: List.replicate r.visits.length (PV.bool false)).drop (r.rests.map eB).length = (W4 r.rests (sp.length + 1)).map eB := by
        rw [W4, List.map_append, <- List.replicate_succ, List.drop_replicate, List.map_replicate, hsl, List.length_map]; rfl
       have hcr := Zw4 x t r false sp hok hs1 hs (W4 r.rests (sp.length + 1)) false hpl;have hbad := ZcF _ _ _ hbn;rw [hbad] at hcr;simp only [List.set_cons_succ, List.set_cons_zero];rw [hpad]
       generalize hRP : W4 r.rests (sp.length + 1) = rp at *
       refine Zm (Weak.fz (o := 5) (by rfl)) ?_;refine Zd [] _ _ _ _ ?_;simp (disch := omega) only [List.map_cons, List.map_nil, List.set_cons_succ, List.set_cons_zero, go_sem, seval];rw [if_pos (by omega)];refine Xp hcr ?_;simp (disch := omega) only [go_sem, seval];have hfm0 : fmL WP none ([] : List Lab) = none := rfl;rw [hfm0];exact we (by simp (disch := omega) only [WJ, zShe, List.map_nil, go_sem, seval])
     ·cases l with
      | nil => simp at h3
      | cons l0 l =>
       have e0 : elt ((l0 :: l).map JT) 0 = JT l0 := rfl;have hn0 : nth (l0 :: l) 0 = l0 := rfl;simp (disch := first | omega | (simp only [List.length_cons, List.length_nil, List.length_append, List.length_map, List.length_take, List.length_drop] <;> omega)) only [e0, hn0, List.take_length, go_sem, seval];have hfm : fmL WP none (l0 :: l) = fmL WP (some l0) l := rfl;rw [hfm]
       have hlen : l.length <= 2097152 := by
        have hp20 : 2 ^ (sp.length + 1) <= 2 ^ 21 := Nat.pow_le_pow_right (by omega) (by omega);simp at hll; omega
       refine Zf [4, 12, 65, 66] (fun q : Nat × Lab => [(67, .p (.int .i64 q.1))]) (fun q => [Zb x, Zw r, .cells [.p (.bool false), .p (.int .i64 0), .p (.list true []), .p (.int .i64 0), .p (.int .i64 0)], Ya x t r false sp, .dead, YK q.2])
        (fun q => q.1 <= l.length /\ fmL WP (some l0) l = fmL WP (some q.2) (l.drop q.1)) (fun q => l.length - q.1) (0, l0) (by simp) (Weak.mk ?_) ?_
       ·simp (disch := omega) only [Zb, Zw, Ya, YK, List.set_cons_succ, List.set_cons_zero, hn0, go_sem, seval]
       ·rintro ⟨i, m⟩ ⟨hi, hm⟩;simp only at hi hm;simp (disch := omega) only [Zb, Zw, Ya, YK, List.take_length, go_sem, seval];refine cD ?_ ?_ <;> intro h4 <;> simp (disch := omega) only [Sh.out h4, go_sem, seval]
        ·have hi2 : i < l.length := by omega
         have hdrop : l.drop i = nth l i :: l.drop (i + 1) := by rw [List.drop_eq_getElem_cons hi2, Ze hi2]
         rw [hdrop, fmL] at hm;refine cD ?_ ?_ <;> intro h5 <;> simp (disch := omega) only [Sh.out h5, go_sem, seval]
         ·rw [if_pos (show WP (nth l i) < WP m from h5)] at hm;exact ⟨(i + 1, nth l i), ⟨by simp only; omega, hm⟩, by simp only; omega, Weak.mk (by simp (disch := omega) only [Zb, Zw, Ya, YK, go_sem, seval])⟩
         ·rw [if_neg (show ¬ WP (nth l i) < WP m from h5)] at hm;exact ⟨(i + 1, m), ⟨by simp only; omega, hm⟩, by simp only; omega, Weak.mk (by simp (disch := omega) only [Zb, Zw, Ya, YK, go_sem, seval])⟩
        ·have hil : i = l.length := by omega
         subst hil;rw [List.drop_length, fmL] at hm;rw [hm];exact we
 ·have e : V6 x r = (zShe, 2) := by rw [V6, if_neg (fun h => hs ⟨h.1, h.2.1⟩)]
  rw [e];refine Xp (Zkt x r hty htl hvl hs) ?_;simp (disch := omega) only [ZvI, go_sem, seval];exact we (by simp (disch := omega) only [zShe, List.map_nil, go_sem, seval])
end Go.Proofs.YtcdoglogglbemaaGreatDoor.K
set_option linter.unusedVariables false
set_option linter.unusedSimpArgs false
namespace Go.AM
open Go.RowKit
theorem ZhH (k v : Int) (l : List (Int × Int)) : ∃ l', ZuW (.int .i64 k) (.int .i64 v) (l.map eII) = l'.map eII /\ (∀ q, QP l' q = if q = k then v else QP l q) /\ l'.length <= l.length + 1 := by
 unfold ZuW;rw [Qi]
 cases hm : mix l k with
 | none =>
  refine ⟨l ++ [(k, v)], by simp [eII], fun q => ?_, by simp⟩
  have e1 : mix (l ++ [(k, v)]) k = some l.length := by
   unfold mix at hm ⊢;rw [List.findIdx?_append, hm]; simp
  by_cases hq : q = k
  ·subst hq; simp [QP, e1]
  ·rw [if_neg hq];unfold QP
   have e3 : mix (l ++ [(k, v)]) q = mix l q := by
    unfold mix;rw [List.findIdx?_append]
    cases hc : l.findIdx? (fun p => decide (q = p.1)) <;> simp [hq]
   rw [e3]
   cases hc : mix l q with
   | none => rfl
   | some i =>
    unfold mix at hc;rw [List.findIdx?_eq_some_iff_getElem] at hc;obtain ⟨hi, _⟩ := hc;simp only;rw [List.getElem?_append_left hi]
 | some i =>
  refine ⟨l.set i (k, v), by rw [List.map_set]; simp [eII], ?_, by simp⟩;have hH : oat [.map (l.map eII)] 0 = .map (l.map eII) := rfl;have := Zdq (H := [.map (l.map eII)]) (o := 0) (l := l) (k := k) (i := i) (v := v) (K := fun _ _ => ∀ q, QP (l.set i (k, v)) q = if q = k then v else QP l q) hH hm fun h => h;unfold Ua at this;obtain ⟨u, q1, _⟩ := JY hm
  have e1 : (l.map eII)[i]? = some (eII (k, u)) := by rw [List.getElem?_map, q1]; rfl
  simp only [hH, Int.natCast_nonneg, if_true, Int.toNat_natCast, e1, mst] at this;exact this
theorem Zc8 {P : Program} {H : List Obj} {t : TypeId} {o : Nat} {l : List (Int × Int)} {k v : Int} {K : V -> List Obj -> Prop} (hT : Znf P t = some (.int .i64, some (.int .i64 0))) (hH : oat H o = .map (l.map eII))
  (h : ∀ l' : List (Int × Int), (∀ q, QP l' q = if q = k then v else QP l q) -> K .junk (H.set o (.map (l'.map eII)))) : mst (ZdP P H t (.mp o) (.p (.int .i64 k)) (.p (.int .i64 v))) K := by
 obtain ⟨kt, et, h1, h2, h3⟩ := Zb2 hT;obtain ⟨l', e, hg, _⟩ := ZhH k v l;simp only [ZdP, h1, Zan h2 hH, Option.map_some, mst, e];exact h l' hg
end Go.AM
namespace Go.Proofs.YtcdoglogglbemaaGreatDoor.K
open Go Go.AM Go.Proofs
set_option maxRecDepth 8000
set_option maxHeartbeats 8000000
def ZgU (l : List Vis) (k : Nat) (q : Int) : Int := ((l.take k).countP fun v => decide (v.order = q) : Nat)
theorem Zgo {l : List Vis} {k : Nat} (h : k < l.length) (q : Int) : ZgU l (k + 1) q = if q = (nth l k).order then ZgU l k q + 1 else ZgU l k q := by
 unfold ZgU;rw [List.take_succ_eq_append_getElem h, List.countP_append, Ze h]
 by_cases c : l[k].order = q
 ·rw [if_pos c.symm]; simp [c]
 ·rw [if_neg (fun e => c e.symm)]; simp [c]
theorem Zhc {l : List Vis} {k : Nat} (h : k <= l.length) (q : Int) : 0 <= ZgU l k q /\ ZgU l k q <= k := by
 unfold ZgU;have := List.countP_le_length (p := fun v : Vis => decide (v.order = q)) (l := l.take k);rw [List.length_take] at this;omega
theorem Zdv {l : List Vis} {k : Nat} : Wc l k = decide (ZgU l k (nth l k).order = 0) := by
 unfold Wc ZgU;rw [Bool.eq_iff_iff];simp only [Bool.not_eq_true', decide_eq_true_eq];rw [List.any_eq_false]
 have : ((List.countP (fun v => decide (v.order = (nth l k).order)) (l.take k) : Nat) : Int) = 0 ↔ List.countP (fun v => decide (v.order = (nth l k).order)) (l.take k) = 0 := by omega
 rw [this, List.countP_eq_zero]
theorem Uh (a b : Int) : PC 276 [.p (.int .i64 a), .p (.int .i64 b)] (.bool (ZJ a b)) := by
 refine Za Tryz.func276 rfl Ztc ?_;simp (disch := omega) only [Tryz.f276, go_sem, seval];refine gT ?_ ?_ <;> intro h <;> simp (disch := omega) only [Sh.out h, go_sem, seval]
 ·simp [ZJ, h]
 ·simp only [Classical.not_not] at h;simp [ZJ, h]
theorem ZhY (x : Inst) (r : Rte) (s : She) (hty : 0 <= r.typ /\ r.typ < (x.types.length : Int)) (ho : x.orders.length <= 1048576) (ht : x.types.length <= 1048576) (hl : r.visits.length <= 1048576) (hv : Inr x r.visits)
  (hc : 0 <= (Z2 x r).fixed /\ (Z2 x r).fixed <= 100000 /\ 0 <= (Z2 x r).perMile /\ (Z2 x r).perMile <= 100 /\ 0 <= (Z2 x r).perTick /\ (Z2 x r).perTick <= 100) (ho2 : 0 <= (Z2 x r).opn /\ (Z2 x r).opn <= 4096)
  (hf : -4096 <= s.fin /\ s.fin <= 8192) (hm : 0 <= s.miles /\ s.miles <= 1000000) :
  PC 198 [.p (Zy x), .p (Yq r), .p (ZfE s)] (Zdf (Zjw x r s)) := by
 have hti : r.typ.toNat < x.types.length := by omega
 have hT : Znf Tryz.prog 143 = some (.int .i64, some (.int .i64 0)) := by kernel_rfl
 unfold Zjw;have htd : nth x.types r.typ.toNat = Z2 x r := rfl
 generalize Z2 x r = t at *
 have e1 : ¬ r.typ < 0 := by omega
 have e2 : ¬ (x.types.length : Int) <= r.typ := by omega
 have p1 : 0 <= t.perMile * s.miles /\ t.perMile * s.miles <= 100 * 1000000 := ⟨Int.mul_nonneg (by omega) (by omega), Int.mul_le_mul (by omega) (by omega) (by omega) (by omega)⟩
 have hW : -8192 <= s.fin - t.opn /\ s.fin - t.opn <= 8192 := by omega
 have p2 : -819200 <= t.perTick * (s.fin - t.opn) /\ t.perTick * (s.fin - t.opn) <= 819200 := by
  generalize s.fin - t.opn = w at hW;have a1 := Int.mul_le_mul_of_nonneg_left hW.2 (show 0 <= t.perTick by omega);have a2 := Int.mul_le_mul_of_nonneg_left hW.1 (show 0 <= t.perTick by omega);omega
 have p3 : -128 <= (s.fin - t.opn).tdiv 64 /\ (s.fin - t.opn).tdiv 64 <= 128 := by
  generalize s.fin - t.opn = w at hW;rcases Int.le_total 0 w with h | h
  ·rw [Int.tdiv_eq_ediv_of_nonneg h]; omega
  ·have : w.tdiv 64 = -((-w) / 64) := by rw [<- Int.tdiv_eq_ediv_of_nonneg (by omega), Int.neg_tdiv, Int.neg_neg]
   rw [this]; omega
 have p4 : 0 <= (s.fin - t.opn).tdiv 64 * (s.fin - t.opn).tdiv 64 /\ (s.fin - t.opn).tdiv 64 * (s.fin - t.opn).tdiv 64 <= 16384 := by
  generalize (s.fin - t.opn).tdiv 64 = q at p3;refine ⟨?_, ?_⟩
  ·rcases Int.le_total 0 q with h | h
   ·exact Int.mul_nonneg h h
   ·exact Int.mul_nonneg_of_nonpos_of_nonpos h h
  ·rcases Int.le_total 0 q with h | h
   ·have := Int.mul_le_mul p3.2 p3.2 h (by omega); omega
   ·have h2 : 0 <= -q := by omega
    have := Int.mul_le_mul (show -q <= 128 by omega) (show -q <= 128 by omega) h2 (by omega);rw [Int.neg_mul_neg] at this; omega
 refine Za Tryz.func198 rfl Zri ?_;simp (disch := omega) only [Tryz.f198, e1, e2, htd, go_sem, seval]
 refine Zf [3, 4, 6, 10, 11, 59, 60] (fun q : Nat × List (Int × Int) => [(61, .p (.int .i64 q.1))]) (fun q => [Zb x, Zw r, .cells [.p (.bool s.rest), .p (.int .i64 s.dep), .p (.list s.times_c (s.times.map eTim)), .p (.int .i64 s.fin), .p (.int .i64 s.miles)], WS 0 0 0 0, Xj t, WS (t.fixed + t.perMile * s.miles + t.perTick * (s.fin - t.opn)) (chgF x r.visits r.typ q.1).1 (chgF x r.visits r.typ q.1).2 ((s.fin - t.opn).tdiv 64 * (s.fin - t.opn).tdiv 64), .map (q.2.map eII)])
  (fun q => q.1 <= r.visits.length /\ ∀ n, QP q.2 n = ZgU r.visits q.1 n) (fun q => r.visits.length - q.1) (0, []) ⟨by simp, fun n => rfl⟩ (Weak.mk ?_) ?_
 ·simp (disch := omega) only [Zb, Zw, Xj, WS, chgF, go_sem, seval]
 ·rintro ⟨k, m⟩ ⟨hk, hmg⟩;simp only at hk hmg;have hch := UW (x := x) (l := r.visits) (t := r.typ) k;simp (disch := omega) only [Zb, Zw, Xj, WS, go_sem, seval];refine cD ?_ ?_ <;> intro h1 <;> simp (disch := omega) only [Sh.out h1, go_sem, seval]
  ·have hk2 : k < r.visits.length := by omega
   obtain ⟨v1, v2⟩ := hv _ (Zi hk2)
   have e3 : ¬ (nth r.visits k).order < 0 := by omega
   have e4 : ¬ (x.orders.length : Int) <= (nth r.visits k).order := by omega
   have v3 : (nth r.visits k).order.toNat < x.orders.length := by omega
   have hcs := Zgo hk2;have hcr := Zhc hk (nth r.visits k).order;have hfi := Zdv (l := r.visits) (k := k);have hch2 : chgF x r.visits r.typ (k + 1) = _ := chgF.eq_2 x r.visits r.typ k;refine J1 hT rfl ?_;rw [hmg];simp (disch := omega) only [go_sem, seval];refine Zc8 hT rfl fun m' hm' => ?_
   have hmg' : ∀ n, QP m' n = ZgU r.visits (k + 1) n := fun n => by rw [hm', hcs, hmg]; split <;> simp_all
   simp (disch := omega) only [e3, e4, List.set_cons_succ, List.set_cons_zero, go_sem, seval];refine J1 hT rfl ?_;rw [hm', if_pos rfl];simp (disch := omega) only [go_sem, seval];refine cD ?_ ?_ <;> intro h2 <;> simp (disch := omega) only [Sh.out h2, go_sem, seval]
   ·have h3 : ¬ Wc r.visits k = true := by rw [hfi]; simp; omega
    rw [if_neg h3] at hch2;exact ⟨(k + 1, m'), ⟨by simp only; omega, hmg'⟩, by simp only; omega, Weak.mk (by simp (disch := omega) only [Zb, Zw, Xj, WS, hch2, go_sem, seval])⟩
   ·have h3 : Wc r.visits k = true := by rw [hfi]; simp; omega
    rw [if_pos h3] at hch2;refine (Uh (nth x.orders (nth r.visits k).order.toNat).now r.typ).use ?_;simp (disch := omega) only [go_sem, seval];refine cD ?_ ?_ <;> intro h4 <;> simp (disch := omega) only [Sh.out h4, go_sem, seval]
    ·rw [if_pos h4] at hch2;refine (Uh (nth x.orders (nth r.visits k).order.toNat).last r.typ).use ?_;simp (disch := omega) only [go_sem, seval];refine cD ?_ ?_ <;> intro h5 <;> simp (disch := omega) only [Sh.out h5, go_sem, seval]
     ·rw [if_pos h5] at hch2;exact ⟨(k + 1, m'), ⟨by simp only; omega, hmg'⟩, by simp only; omega, Weak.mk (by simp (disch := omega) only [Zb, Zw, Xj, WS, hch2, go_sem, seval])⟩
     ·rw [if_neg (by rw [h5]; simp)] at hch2;exact ⟨(k + 1, m'), ⟨by simp only; omega, hmg'⟩, by simp only; omega, Weak.mk (by simp (disch := omega) only [Zb, Zw, Xj, WS, hch2, Int.add_zero, go_sem, seval])⟩
    ·rw [if_neg (by rw [h4]; simp)] at hch2;refine (Uh (nth x.orders (nth r.visits k).order.toNat).last r.typ).use ?_;simp (disch := omega) only [go_sem, seval];refine cD ?_ ?_ <;> intro h5 <;> simp (disch := omega) only [Sh.out h5, go_sem, seval]
     ·rw [if_pos h5] at hch2;exact ⟨(k + 1, m'), ⟨by simp only; omega, hmg'⟩, by simp only; omega, Weak.mk (by simp (disch := omega) only [Zb, Zw, Xj, WS, hch2, Int.add_zero, go_sem, seval])⟩
     ·rw [if_neg (by rw [h5]; simp)] at hch2;exact ⟨(k + 1, m'), ⟨by simp only; omega, hmg'⟩, by simp only; omega, Weak.mk (by simp (disch := omega) only [Zb, Zw, Xj, WS, hch2, Int.add_zero, go_sem, seval])⟩
  ·have hkl : k = r.visits.length := by omega
   subst hkl
   rfl
end Go.Proofs.YtcdoglogglbemaaGreatDoor.K
set_option linter.unusedVariables false
set_option linter.unusedSimpArgs false
namespace Go.Proofs.YtcdoglogglbemaaGreatDoor.K
open Go Go.AM Go.Proofs
set_option maxRecDepth 8000
set_option maxHeartbeats 8000000
@[go_sem] theorem Zp7 {f : FuncId} : (PV.fn f).cells = [.fn f] := Eq.trans rfl rfl
def ZmU : AM.Obj := .cells [.p (.bool false), .p (.int .i64 0), .p (.list true []), .p (.int .i64 0), .p (.int .i64 0)]
theorem ZdJ (x : Inst) (r : Rte) (hx : InstOk x) (hl : r.visits.length <= 1048576) (hrl : r.rests.length <= 1048576) : ACalls Tryz.prog 133 [.p (Zy x), .p (Yq r)] [] fun y H' => y = Zau x r /\ H' = [] := by
 have hld := Wo hx;have htl := hld.typ;have hol := hld.ord;have chk := Zjv x r hx hl
 have htb : x.types.length <= 6 := by have := hx.types.1; simp only [rng, decide_eq_true_eq] at this; omega
 refine Zc [] Tryz.func133 rfl ZrI ?_;simp (disch := omega) only [Tryz.f133, go_sem, seval];refine gF ?_ ?_ <;> intro h1 <;> simp (disch := omega) only [Sh.out h1, go_sem, seval]
 ·have e : XM x r = 2 := by rw [XM, if_pos (by omega)]
  rw [Xd (e := 2) (by rw [XO, e]; rfl) (by omega)];exact we (by simp (disch := omega) only [zShe, zSco, List.map_nil, go_sem, seval])
 ·refine cD ?_ ?_ <;> intro h2 <;> simp (disch := omega) only [Sh.out h2, go_sem, seval]
  ·have e : XM x r = 2 := by rw [XM, if_pos (by omega)]
   rw [Xd (e := 2) (by rw [XO, e]; rfl) (by omega)];exact we (by simp (disch := omega) only [zShe, zSco, List.map_nil, go_sem, seval])
  ·have hty : 0 <= r.typ /\ r.typ < (x.types.length : Int) := by omega
   have hti : r.typ.toNat < x.types.length := by omega
   have hnum := UJ hx hti;have htyp : nth x.types r.typ.toNat = Z2 x r := rfl;rw [htyp] at hnum
   have hsk : ∀ o ∈ x.orders, o.skills < 9223372036854775808 := fun o hm => by
    obtain ⟨i, hi, rfl⟩ := List.mem_iff_getElem.1 hm;have := (hx.orders.2 i hi).skills;rw [Ze hi] at this;omega
   refine Zf [2, 3, 4, 5, 25, 26] (fun k : Nat => [(27, .p (.int .i64 k))]) (fun _ => [Zb x, Zw r, ZmU, WS 0 0 0 0, .elems 1 [.fn 194, .fn 195, .fn 196]])
    (fun k => k <= 3 /\ (0 < k -> ZW x r.visits = 0) /\ (1 < k -> ¬ (r.visits.any fun v => !Ym (Z2 x r) (nth x.orders v.order.toNat).skills) = true) /\ (2 < k -> VH x (Z2 x r).cap r.visits = true)) (fun k => 3 - k) 0 ⟨by omega, by omega, by omega, by omega⟩ (Weak.mk ?_) ?_
   ·simp (disch := omega) only [Zb, Zw, WS, ZmU, go_sem, seval]
   ·rintro k ⟨hk, k1, k2, k3⟩;simp (disch := omega) only [Zb, Zw, WS, ZmU, go_sem, seval];refine cD ?_ ?_ <;> intro h3 <;> simp (disch := omega) only [Sh.out h3, go_sem, seval]
    ·by_cases hk0 : k = 0
     ·subst hk0;have he : elt [PV.fn 194, PV.fn 195, PV.fn 196] 0 = PV.fn 194 := rfl;simp (disch := first | omega | (simp only [List.length_cons, List.length_nil, List.length_append, List.length_map, List.length_take, List.length_drop] <;> omega)) only [he, go_sem, seval];refine (chk).use ?_;simp (disch := omega) only [go_sem, seval];refine cD ?_ ?_ <;> intro h4 <;> simp (disch := omega) only [Sh.out h4, go_sem, seval]
      ·have e : XM x r = ZW x r.visits := by rw [XM, if_neg (fun h => h hty), if_pos h4]
       rw [Xd (e := ZW x r.visits) (by rw [XO, e, if_neg h4]) h4];exact we (by simp (disch := omega) only [zShe, zSco, List.map_nil, go_sem, seval])
      ·exact ⟨1, ⟨by omega, fun _ => by omega, by omega, by omega⟩, by omega, Weak.mk (by simp (disch := omega) only [Zb, Zw, WS, ZmU, go_sem, seval])⟩
     ·have h0 := k1 (by omega);have hsq := Wt h0
      have hr0 : XM x r = if (r.visits.any fun v => !Ym (Z2 x r) (nth x.orders v.order.toNat).skills) = true then 18 else if VH x (Z2 x r).cap r.visits = false then 17 else if ¬ (0 <= r.start /\ r.start <= 4096 /\ r.rests.length <= r.visits.length + 1) then 2 else 0 := by
       rw [XM, if_neg (fun h => h hty), if_neg (by omega)]
      by_cases hk1 : k = 1
      ·subst hk1;have he : elt [PV.fn 194, PV.fn 195, PV.fn 196] 1 = PV.fn 195 := rfl;simp (disch := first | omega | (simp only [List.length_cons, List.length_nil, List.length_append, List.length_map, List.length_take, List.length_drop] <;> omega)) only [he, go_sem, seval];refine (Zh4 x r hty (fun v hv => by have := hsq.inr v hv; simp [inB, this.1, this.2]) hl htl (by omega) (by omega) hsk).use ?_;simp (disch := omega) only [go_sem, seval]
       by_cases h5 : (r.visits.any fun v => !Ym (Z2 x r) (nth x.orders v.order.toNat).skills) = true
       ·rw [if_pos h5] at hr0 ⊢;rw [Xd (e := 18) (by rw [XO, hr0]; rfl) (by omega)];simp (disch := omega) only [go_sem, seval];exact we (by simp (disch := omega) only [zShe, zSco, List.map_nil, go_sem, seval])
       ·rw [if_neg h5];simp (disch := omega) only [go_sem, seval];exact ⟨2, ⟨by omega, fun _ => h0, fun _ => h5, by omega⟩, by omega, Weak.mk (by simp (disch := omega) only [Zb, Zw, WS, ZmU, go_sem, seval])⟩
      ·have hk2 : k = 2 := by omega
       subst hk2;have he : elt [PV.fn 194, PV.fn 195, PV.fn 196] 2 = PV.fn 196 := rfl;simp (disch := first | omega | (simp only [List.length_cons, List.length_nil, List.length_append, List.length_map, List.length_take, List.length_drop] <;> omega)) only [he, go_sem, seval];refine (ZhC x r hx hl hty h0).use ?_;simp (disch := omega) only [go_sem, seval];rw [if_neg (k2 (by omega))] at hr0
       cases h5 : VH x (Z2 x r).cap r.visits with
       | false =>
        rw [if_pos h5] at hr0;rw [Xd (e := 17) (by rw [XO, hr0]; rfl) (by omega)];simp only [Bool.false_eq_true, if_false];simp (disch := omega) only [go_sem, seval];exact we (by simp (disch := omega) only [zShe, zSco, List.map_nil, go_sem, seval])
       | true =>
        simp only [if_true];simp (disch := omega) only [go_sem, seval];exact ⟨3, ⟨by omega, fun _ => h0, fun _ => k2 (by omega), fun _ => by first | exact h5 | trivial⟩, by omega, Weak.mk (by simp (disch := omega) only [Zb, Zw, WS, ZmU, go_sem, seval])⟩
    ·have hk3 : k = 3 := by omega
     subst hk3;have h0 := k1 (by omega);have hsq := Wt h0
     have hr0 : XM x r = if ¬ (0 <= r.start /\ r.start <= 4096 /\ r.rests.length <= r.visits.length + 1) then 2 else 0 := by
      rw [XM, if_neg (fun h => h hty), if_neg (by omega), if_neg (k2 (by omega)), if_neg (by rw [k3 (by omega)]; simp)]
     have cb := ZlU x r hx hl hrl hty h0;have hok := UZ hx hty hsq
     have hbr : V6 x r = Xf x r -> (Xf x r).2 = 0 -> (0 <= r.start /\ r.start <= 4096 /\ r.rests.length <= r.visits.length + 1) -> (0 <= (Xf x r).1.fin /\ (Xf x r).1.fin <= 8192) /\ (0 <= (Xf x r).1.miles /\ (Xf x r).1.miles <= 210000) := fun _ hz hs =>
      Kf hok ⟨hs.1, hs.2.1⟩ (by rw [Xe]; exact hs.2.2) hz
     by_cases h6 : 0 <= r.start /\ r.start <= 4096 /\ r.rests.length <= r.visits.length + 1
     ·have e : XM x r = 0 := by rw [hr0, if_neg (fun h => h h6)]
      have ee : XO x r = (Xf x r).2 := by rw [XO, if_pos e]
      have eb : V6 x r = Xf x r := by rw [V6, if_pos h6]
      have hbr := fun hz => hbr eb hz h6;rw [eb] at cb
      have es : Vi x r = if (Xf x r).2 = 0 then (Xf x r).1 else zShe := by rw [Vi, ee]
      have ep : Qj x r = if (Xf x r).2 = 0 then Zjw x r (Xf x r).1 else zSco := by rw [Qj, ee]
      unfold Zau;rw [ee, es, ep];clear ee es ep eb
      generalize Xf x r = q at *
      obtain ⟨sh, eb⟩ := q;simp only at cb hbr ⊢;refine Xp cb ?_;simp (disch := omega) only [go_sem, seval];refine cD ?_ ?_ <;> intro h7 <;> simp (disch := omega) only [Sh.out h7, go_sem, seval]
      ·exact we (by simp (disch := omega) only [zShe, zSco, List.map_nil, go_sem, seval])
      ·have h7' : eb = 0 := by omega
       try rw [if_pos h7', if_pos h7']
       subst h7';obtain ⟨g1, g2⟩ := hbr rfl;refine ZG 5 mixed (by kernel_rfl) (by kernel_rfl) ?_;simp (disch := omega) only [go_sem, seval];refine Zt (ZhY x r sh hty (by omega) htl hl hsq.inr hnum.2.2.2.1 (by omega) (by omega) (by omega)) ?_;simp (disch := omega) only [go_sem, seval];exact we
     ·have e : XM x r = 2 := by rw [hr0, if_pos h6]
      have eb : V6 x r = (zShe, 2) := by rw [V6, if_neg h6]
      rw [Xd (e := 2) (by rw [XO, e]; rfl) (by omega)];rw [eb] at cb;refine Xp cb ?_;simp (disch := omega) only [go_sem, seval];exact we (by simp (disch := omega) only [zShe, zSco, List.map_nil, go_sem, seval])
theorem JP {x : Inst} {r : Rte} (h : XO x r = 0) : XM x r = 0 := by
 unfold XO at h
 split at h
 ·assumption
 ·rename_i c; exact absurd h c
theorem ZaM {x : Inst} {r : Rte} (h : XM x r = 0) : (0 <= r.typ /\ r.typ < (x.types.length : Int)) /\ ZW x r.visits = 0 /\ (0 <= r.start /\ r.start <= 4096 /\ r.rests.length <= r.visits.length + 1) := by
 unfold XM at h
 split at h
 ·simp at h
 ·rename_i c1
  split at h
  ·rename_i c2; exact absurd h c2
  ·rename_i c2
   split at h
   ·simp at h
   ·split at h
    ·simp at h
    ·split at h
     ·simp at h
     ·rename_i c5;exact ⟨by omega, by omega, Classical.not_not.1 c5⟩
theorem ZhD {x : Inst} {r : Rte} (hx : InstOk x) (h : XO x r = 0) : (0 <= (Vi x r).fin /\ (Vi x r).fin <= 8192) /\ (0 <= (Vi x r).miles /\ (Vi x r).miles <= 210000) := by
 obtain ⟨hty, h0, hs⟩ := ZaM (JP h)
 have e : Vi x r = (Xf x r).1 := by rw [Vi, if_pos h]
 have ee : (Xf x r).2 = 0 := by rw [XO, if_pos (JP h)] at h; exact h
 rw [e];exact Kf (UZ hx hty (Wt h0)) ⟨hs.1, hs.2.1⟩ (by rw [Xe]; exact hs.2.2) ee
theorem Vp {P : Program} {e : TypeId} {k : Nat} {cs : List PV} {kk : IntKind} {n : Int} {x : PV} (h0 : 0 <= n) (h1 : n < k) (hx : apart P e cs n.toNat = some x) (ht : tsz P e = some 1) : ZeP P (some (.array k e)) (.p (.agg cs)) (.p (.int kk n)) = some (.p x) := by
 simp only [ZeP, if_pos (show 0 <= n /\ n < (k : Int) from ⟨h0, h1⟩), ht, Nat.mul_one, hx]; rfl
def ZyK (s : Sco) : PV := .agg [.int .i64 s.cost, .int .i64 s.moved, .int .i64 s.other, .int .i64 s.work]
@[go_sem] theorem Zw8 (s : Sco) : ZyK s = .agg [.int .i64 s.cost, .int .i64 s.moved, .int .i64 s.other, .int .i64 s.work] := Eq.trans rfl rfl
theorem JQ (s : Sco) : PC 136 [.p (Zdf s)] (ZyK s) := by
 refine Zc [] Tryz.func136 rfl Zr4 ?_;simp (disch := omega) only [Tryz.f136, go_sem, seval];exact we
theorem Zgz (s : Sco) : PC 199 [.p (ZyK s)] (Zdf s) := by
 refine Zc [] Tryz.func199 rfl Zpl ?_;simp (disch := omega) only [Tryz.f199, go_sem, seval];exact we
def Zfh (a b : Sco) : Sco := ⟨a.cost + b.cost, a.moved + b.moved, a.other + b.other, a.work + b.work⟩
def Zit (B : Int) (s : Sco) : Prop := (-B <= s.cost /\ s.cost <= B) /\ (-B <= s.moved /\ s.moved <= B) /\ (-B <= s.other /\ s.other <= B) /\ (-B <= s.work /\ s.work <= B)
def Zb7 (a b : Sco) (k : Nat) : AM.Obj := .cells [.p (.int .i64 (if 0 < k then a.cost + b.cost else a.cost)), .p (.int .i64 (if 1 < k then a.moved + b.moved else a.moved)), .p (.int .i64 (if 2 < k then a.other + b.other else a.other)), .p (.int .i64 (if 3 < k then a.work + b.work else a.work))]
def Y9 (s : Sco) : AM.Obj := .cells [.p (.int .i64 s.cost), .p (.int .i64 s.moved), .p (.int .i64 s.other), .p (.int .i64 s.work)]
theorem ZwD (a b : Sco) (ha : Zit 1152921504606846976 a) (hb : Zit 1152921504606846976 b) : PC 134 [.p (Zdf a), .p (Zdf b)] (Zdf (Zfh a b)) := by
 obtain ⟨a1, a2, a3, a4⟩ := ha;obtain ⟨b1, b2, b3, b4⟩ := hb;refine Zc [1] Tryz.func134 rfl Zo9 ?_;simp (disch := omega) only [Tryz.f134, go_sem, seval];refine Zo [4] (fun c : Bool => [(5, .ptr (if c = true then 3 else 4) 0), (6, .ptr (if c = true then 4 else 3) 0)]) (fun c => [Y9 a, Y9 b, Y9 zSco, if c = true then Y9 a else Y9 b, if c = true then Y9 b else Y9 a]) (fun _ => True) ?_ ?_
 ·simp (disch := omega) only [go_sem, seval];refine Jq [4, 5] 6 mixed (by kernel_rfl) (by kernel_rfl) (by kernel_rfl) (by simp) ?_;simp (disch := omega) only [go_sem, seval];refine Zt (JQ a) ?_;simp (disch := omega) only [go_sem, seval];refine Zt (JQ b) ?_;simp (disch := omega) only [go_sem, seval];refine ZaS 4 5 _ _ _ _ (by kernel_rfl) (by simp (disch := omega) only [go_sem, seval]; exact ⟨rfl, rfl⟩) (by simp (disch := omega) only [go_sem, seval]; exact ⟨rfl, rfl⟩) ?_ ?_
  ·refine YX 5 _ _ (by kernel_rfl) (by simp (disch := omega) only [go_sem, seval]; exact ⟨rfl, rfl⟩) (JO ?_);simp (disch := omega) only [go_sem, seval];exact ⟨true, Weak.mk (by simp (disch := omega) only [Y9, zSco, go_sem, seval])⟩
  ·refine YX 4 _ _ (by kernel_rfl) (by simp (disch := omega) only [go_sem, seval]; exact ⟨rfl, rfl⟩) (JO ?_);simp (disch := omega) only [go_sem, seval];exact ⟨false, Weak.mk (by simp (disch := omega) only [Y9, zSco, Bool.false_eq_true, go_sem, seval])⟩
 ·intro c _
  cases c <;>
  (simp only [Bool.false_eq_true, if_true, if_false]
   refine Zd [] _ _ _ _ ?_
   simp (disch := omega) only [Y9, zSco, go_sem, seval])
  ·refine Zf [4, 5, 6] (fun k : Nat => [(12, .p (.int .i64 k))]) (fun k => [Y9 a, Y9 b, Y9 zSco, Y9 b, Zb7 a b k]) (fun k => k <= 4) (fun k => 4 - k) 0 (by omega) (Weak.mk ?_) ?_
   ·simp (disch := omega) only [Y9, Zb7, zSco, go_sem, seval]
   ·intro k hk;simp (disch := omega) only [Y9, Zb7, zSco, go_sem, seval];refine cD ?_ ?_ <;> intro h1 <;> simp (disch := omega) only [Sh.out h1, go_sem, seval]
    ·have : k = 0 \/ k = 1 \/ k = 2 \/ k = 3 := by omega
     rcases this with rfl | rfl | rfl | rfl
     ·refine ZG 7 mixed (by kernel_rfl) (by kernel_rfl) ?_;simp (disch := omega) only [go_sem, seval];exact ⟨1, by omega, by omega, Weak.mk (by simp (disch := omega) only [Y9, Zb7, zSco, go_sem, seval])⟩
     ·refine ZG 7 mixed (by kernel_rfl) (by kernel_rfl) ?_;simp (disch := omega) only [go_sem, seval];exact ⟨2, by omega, by omega, Weak.mk (by simp (disch := omega) only [Y9, Zb7, zSco, go_sem, seval])⟩
     ·refine ZG 7 mixed (by kernel_rfl) (by kernel_rfl) ?_;simp (disch := omega) only [go_sem, seval];exact ⟨3, by omega, by omega, Weak.mk (by simp (disch := omega) only [Y9, Zb7, zSco, go_sem, seval])⟩
     ·refine ZG 7 mixed (by kernel_rfl) (by kernel_rfl) ?_;simp (disch := omega) only [go_sem, seval];exact ⟨4, by omega, by omega, Weak.mk (by simp (disch := omega) only [Y9, Zb7, zSco, go_sem, seval])⟩
    ·have hk4 : k = 4 := by omega
     subst hk4;refine (Zgz (Zfh a b)).use ?_;simp (disch := omega) only [go_sem, seval];exact we
  ·refine Zf [4, 5, 6] (fun k : Nat => [(12, .p (.int .i64 k))]) (fun k => [Y9 a, Y9 b, Y9 zSco, Zb7 a b k, Y9 b]) (fun k => k <= 4) (fun k => 4 - k) 0 (by omega) (Weak.mk ?_) ?_
   ·simp (disch := omega) only [Y9, Zb7, zSco, go_sem, seval]
   ·intro k hk;simp (disch := omega) only [Y9, Zb7, zSco, go_sem, seval];refine cD ?_ ?_ <;> intro h1 <;> simp (disch := omega) only [Sh.out h1, go_sem, seval]
    ·have : k = 0 \/ k = 1 \/ k = 2 \/ k = 3 := by omega
     rcases this with rfl | rfl | rfl | rfl
     ·refine ZG 7 mixed (by kernel_rfl) (by kernel_rfl) ?_;simp (disch := omega) only [go_sem, seval];exact ⟨1, by omega, by omega, Weak.mk (by simp (disch := omega) only [Y9, Zb7, zSco, go_sem, seval])⟩
     ·refine ZG 7 mixed (by kernel_rfl) (by kernel_rfl) ?_;simp (disch := omega) only [go_sem, seval];exact ⟨2, by omega, by omega, Weak.mk (by simp (disch := omega) only [Y9, Zb7, zSco, go_sem, seval])⟩
     ·refine ZG 7 mixed (by kernel_rfl) (by kernel_rfl) ?_;simp (disch := omega) only [go_sem, seval];exact ⟨3, by omega, by omega, Weak.mk (by simp (disch := omega) only [Y9, Zb7, zSco, go_sem, seval])⟩
     ·refine ZG 7 mixed (by kernel_rfl) (by kernel_rfl) ?_;simp (disch := omega) only [go_sem, seval];exact ⟨4, by omega, by omega, Weak.mk (by simp (disch := omega) only [Y9, Zb7, zSco, go_sem, seval])⟩
    ·have hk4 : k = 4 := by omega
     subst hk4;refine (Zgz (Zfh a b)).use ?_;simp (disch := omega) only [go_sem, seval];exact we
def Us (s : Sco) : Int × Int := if s.cost < 0 \/ s.moved < 0 \/ s.other < 0 \/ s.work < 0 then (0, 2) else if 1073741824 < s.cost \/ 16 <= s.moved \/ 16 <= s.other \/ 65536 <= s.work then (0, 4) else (((s.cost * 16 + s.moved) * 16 + s.other) * 65536 + s.work, 0)
theorem Zf8 (s : Sco) (hs : Zit 1152921504606846976 s) : PT 85 [.p (Zdf s)] [.p (.int .i64 (Us s).1), .p (.int .i64 (Us s).2)] := by
 obtain ⟨a1, a2, a3, a4⟩ := hs;refine Zc [] Tryz.func85 rfl Zyd ?_;simp (disch := omega) only [Tryz.f85, go_sem, seval];refine (JQ s).use ?_;simp (disch := omega) only [go_sem, seval];refine Zf [1, 9] (fun k : Nat => [(10, .p (.int .i64 k))]) (fun _ => [Y9 s, Y9 s]) (fun k => k <= 4 /\ (0 < k -> 0 <= s.cost) /\ (1 < k -> 0 <= s.moved) /\ (2 < k -> 0 <= s.other) /\ (3 < k -> 0 <= s.work)) (fun k => 4 - k) 0 ⟨by omega, by omega, by omega, by omega, by omega⟩ (Weak.mk ?_) ?_
 ·simp (disch := omega) only [Y9, go_sem, seval]
 ·rintro k ⟨hk, k1, k2, k3, k4⟩;simp (disch := omega) only [Y9, go_sem, seval];refine cD ?_ ?_ <;> intro h1 <;> simp (disch := omega) only [Sh.out h1, go_sem, seval]
  ·have : k = 0 \/ k = 1 \/ k = 2 \/ k = 3 := by omega
   rcases this with rfl | rfl | rfl | rfl
   ·rw [Vp (x := .int .i64 s.cost) (by omega) (by omega) (by rfl) (by kernel_rfl)];simp (disch := omega) only [go_sem, seval];refine cD ?_ ?_ <;> intro h2 <;> simp (disch := omega) only [Sh.out h2, go_sem, seval]
    ·have e : Us s = (0, 2) := by rw [Us, if_pos (by omega)]
     rw [e];exact we
    ·exact ⟨1, ⟨by omega, fun _ => by omega, by omega, by omega, by omega⟩, by omega, Weak.mk (by simp (disch := omega) only [Y9, go_sem, seval])⟩
   ·rw [Vp (x := .int .i64 s.moved) (by omega) (by omega) (by rfl) (by kernel_rfl)];simp (disch := omega) only [go_sem, seval];refine cD ?_ ?_ <;> intro h2 <;> simp (disch := omega) only [Sh.out h2, go_sem, seval]
    ·have e : Us s = (0, 2) := by rw [Us, if_pos (by omega)]
     rw [e];exact we
    ·exact ⟨2, ⟨by omega, fun _ => k1 (by omega), fun _ => by omega, by omega, by omega⟩, by omega, Weak.mk (by simp (disch := omega) only [Y9, go_sem, seval])⟩
   ·rw [Vp (x := .int .i64 s.other) (by omega) (by omega) (by rfl) (by kernel_rfl)];simp (disch := omega) only [go_sem, seval];refine cD ?_ ?_ <;> intro h2 <;> simp (disch := omega) only [Sh.out h2, go_sem, seval]
    ·have e : Us s = (0, 2) := by rw [Us, if_pos (by omega)]
     rw [e];exact we
    ·exact ⟨3, ⟨by omega, fun _ => k1 (by omega), fun _ => k2 (by omega), fun _ => by omega, by omega⟩, by omega, Weak.mk (by simp (disch := omega) only [Y9, go_sem, seval])⟩
   ·rw [Vp (x := .int .i64 s.work) (by omega) (by omega) (by rfl) (by kernel_rfl)];simp (disch := omega) only [go_sem, seval];refine cD ?_ ?_ <;> intro h2 <;> simp (disch := omega) only [Sh.out h2, go_sem, seval]
    ·have e : Us s = (0, 2) := by rw [Us, if_pos (by omega)]
     rw [e];exact we
    ·exact ⟨4, ⟨by omega, fun _ => k1 (by omega), fun _ => k2 (by omega), fun _ => k3 (by omega), fun _ => by omega⟩, by omega, Weak.mk (by simp (disch := omega) only [Y9, go_sem, seval])⟩
  ·have hk4 : k = 4 := by omega
   subst hk4;have g1 := k1 (by omega);have g2 := k2 (by omega);have g3 := k3 (by omega);have g4 := k4 (by omega)
   have n1 : ¬ (s.cost < 0 \/ s.moved < 0 \/ s.other < 0 \/ s.work < 0) := by omega
   have bad : (1073741824 < s.cost \/ 16 <= s.moved \/ 16 <= s.other \/ 65536 <= s.work) -> Us s = (0, 4) := fun h => by rw [Us, if_neg n1, if_pos h]
   refine gF ?_ ?_ <;> intro h2 <;> simp (disch := omega) only [Sh.out h2, go_sem, seval]
   ·rw [bad (by omega)];exact we
   ·refine gF ?_ ?_ <;> intro h3 <;> simp (disch := omega) only [Sh.out h3, go_sem, seval]
    ·rw [bad (by omega)];exact we
    ·refine gF ?_ ?_ <;> intro h4 <;> simp (disch := omega) only [Sh.out h4, go_sem, seval]
     ·rw [bad (by omega)];exact we
     ·refine cD ?_ ?_ <;> intro h5 <;> simp (disch := omega) only [Sh.out h5, go_sem, seval]
      ·rw [bad (by omega)];exact we
      ·have e : Us s = (((s.cost * 16 + s.moved) * 16 + s.other) * 65536 + s.work, 0) := by rw [Us, if_neg n1, if_neg (by omega)]
       rw [e];exact we
def YM (s : Sco) : Bool := decide (0 <= s.cost) && decide (s.cost <= 1073741824) && decide (0 <= s.moved) && decide (s.moved <= 15) && decide (0 <= s.other) && decide (s.other <= 15) && decide (0 <= s.work) && decide (s.work <= 65535)
theorem ZgK (s : Sco) : PC 216 [.p (Zdf s)] (.bool (YM s)) := by
 refine Za Tryz.func216 rfl Zr2 ?_;simp (disch := omega) only [Tryz.f216, go_sem, seval];refine gT ?_ ?_ <;> intro h1 <;> simp (disch := omega) only [Sh.out h1, go_sem, seval]
 ·refine gT ?_ ?_ <;> intro h2 <;> simp (disch := omega) only [Sh.out h2, go_sem, seval]
  ·refine gT ?_ ?_ <;> intro h3 <;> simp (disch := omega) only [Sh.out h3, go_sem, seval]
   ·refine gT ?_ ?_ <;> intro h4 <;> simp (disch := omega) only [Sh.out h4, go_sem, seval]
    ·refine gT ?_ ?_ <;> intro h5 <;> simp (disch := omega) only [Sh.out h5, go_sem, seval]
     ·refine gT ?_ ?_ <;> intro h6 <;> simp (disch := omega) only [Sh.out h6, go_sem, seval]
      ·refine gT ?_ ?_ <;> intro h7 <;> simp (disch := omega) only [Sh.out h7, go_sem, seval]
       ·simp [YM, h1, h2, h3, h4, h5, h6, h7]
       ·simp [YM, h1, h2, h3, h4, h5, h6, h7]
      ·simp [YM, h1, h2, h3, h4, h5, h6]
     ·simp [YM, h1, h2, h3, h4, h5]
    ·simp [YM, h1, h2, h3, h4]
   ·simp [YM, h1, h2, h3]
  ·simp [YM, h1, h2]
 ·simp [YM, h1]
theorem ZdI (s : Sco) (hs : Zit 1152921504606846976 s) : PT 163 [.p (Zdf s)] [.p (.int .i64 (Us s).1), .p (.int .i64 (Us s).2)] := by
 obtain ⟨a1, a2, a3, a4⟩ := hs
 have bad : (s.cost < 0 \/ s.moved < 0 \/ s.other < 0 \/ s.work < 0) -> Us s = (0, 2) := fun h => by rw [Us, if_pos h]
 refine Zc [] Tryz.func163 rfl Zph ?_;simp (disch := omega) only [Tryz.f163, go_sem, seval];refine gF ?_ ?_ <;> intro h1 <;> simp (disch := omega) only [Sh.out h1, go_sem, seval]
 ·rw [bad (by omega)];exact we
 ·refine gF ?_ ?_ <;> intro h2 <;> simp (disch := omega) only [Sh.out h2, go_sem, seval]
  ·rw [bad (by omega)];exact we
  ·refine gF ?_ ?_ <;> intro h3 <;> simp (disch := omega) only [Sh.out h3, go_sem, seval]
   ·rw [bad (by omega)];exact we
   ·refine cD ?_ ?_ <;> intro h4 <;> simp (disch := omega) only [Sh.out h4, go_sem, seval]
    ·rw [bad (by omega)];exact we
    ·have n1 : ¬ (s.cost < 0 \/ s.moved < 0 \/ s.other < 0 \/ s.work < 0) := by omega
     refine (ZgK s).use ?_;simp (disch := omega) only [go_sem, seval];refine cD ?_ ?_ <;> intro h5 <;> simp (disch := omega) only [Sh.out h5, go_sem, seval]
     ·have e : Us s = (0, 4) := by
       have h6 : ¬ YM s = true := by simpa using h5
       rw [Us, if_neg n1, if_pos];refine Classical.byContradiction fun h7 => h6 ?_;simp [YM]; omega
      rw [e];exact we
     ·have h6 : YM s = true := by simpa using h5
      simp [YM] at h6
      have e : Us s = (((s.cost * 16 + s.moved) * 16 + s.other) * 65536 + s.work, 0) := by rw [Us, if_neg n1, if_neg (by omega)]
      rw [e];simp (disch := omega) only [go_sem, seval];exact we
def Zi7 (l : List Int) (j : Nat) : List Int := (l.set j (nth l (j - 1))).set (j - 1) (nth l j)
theorem ZcO {l : List Int} {j : Nat} : (Zi7 l j).length = l.length := by simp [Zi7]
theorem Zer {l : List Int} {j : Nat} (h : j < l.length) : (Zi7 l j).Perm l := by
 have h1 : j - 1 < l.length := by omega
 rw [Zi7, Ze h, Ze h1];exact List.set_set_perm h h1
theorem Zi3 {l : List Int} {j q : Nat} (hj : 0 < j) (h : j < l.length) (hq : q < l.length) : nth (Zi7 l j) q = if q = j then nth l (j - 1) else if q = j - 1 then nth l j else nth l q := by
 rw [Ze (by rw [ZcO]; exact hq)];simp only [Zi7, List.getElem_set]
 by_cases c1 : q = j
 ·subst c1;rw [if_neg (by omega), if_pos rfl, if_pos rfl]
 ·rw [if_neg c1]
  by_cases c2 : q = j - 1
  ·subst c2; rw [if_pos rfl, if_pos rfl]
  ·rw [if_neg (fun e => c2 e.symm), if_neg c2, if_neg (fun e => c1 e.symm), Ze hq]
theorem Zy7 {x : Inst} (hx : InstOk x) : x.orders.length <= 10 := by have := hx.orders.1; omega
theorem Zl7 {p : Pln} (hp : p.wf 1048576) : ∀ r ∈ p.routes, rteB r := fun r hr => by
 obtain ⟨_, _, w1, _, w2, _⟩ := hp.2.1 r hr;exact ⟨w2, w1⟩
theorem K6 {x : Inst} {r : Rte} (hx : InstOk x) (hl : r.visits.length <= 1048576) (h : XO x r = 0) : Zit 1073741824 (Qj x r) := by
 have hg := ZhD hx h;obtain ⟨hty, _, _⟩ := ZaM (JP h);have hnum := UJ hx (show r.typ.toNat < x.types.length by omega);have htyp : nth x.types r.typ.toNat = Z2 x r := rfl;rw [htyp] at hnum
 have e : (Xf x r).1 = Vi x r := by rw [Vi, if_pos h]
 have hch := UW (x := x) (l := r.visits) (t := r.typ) r.visits.length;rw [Qj, if_pos h, e];unfold Zjw Zit
 generalize Vi x r = s at *
 generalize Z2 x r = t at *
 have p1 : 0 <= t.perMile * s.miles /\ t.perMile * s.miles <= 100 * 210000 := ⟨Int.mul_nonneg (by omega) (by omega), Int.mul_le_mul (by omega) (by omega) (by omega) (by omega)⟩
 have hW : -8192 <= s.fin - t.opn /\ s.fin - t.opn <= 8192 := by omega
 have p2 : -819200 <= t.perTick * (s.fin - t.opn) /\ t.perTick * (s.fin - t.opn) <= 819200 := by
  generalize s.fin - t.opn = w at hW;have a1 := Int.mul_le_mul_of_nonneg_left hW.2 (show 0 <= t.perTick by omega);have a2 := Int.mul_le_mul_of_nonneg_left hW.1 (show 0 <= t.perTick by omega);omega
 have p3 : -128 <= (s.fin - t.opn).tdiv 64 /\ (s.fin - t.opn).tdiv 64 <= 128 := by
  generalize s.fin - t.opn = w at hW;rcases Int.le_total 0 w with h | h
  ·rw [Int.tdiv_eq_ediv_of_nonneg h]; omega
  ·have : w.tdiv 64 = -((-w) / 64) := by rw [<- Int.tdiv_eq_ediv_of_nonneg (by omega), Int.neg_tdiv, Int.neg_neg]
   rw [this]; omega
 have p4 : 0 <= (s.fin - t.opn).tdiv 64 * (s.fin - t.opn).tdiv 64 /\ (s.fin - t.opn).tdiv 64 * (s.fin - t.opn).tdiv 64 <= 16384 := by
  generalize (s.fin - t.opn).tdiv 64 = q at p3;refine ⟨?_, ?_⟩
  ·rcases Int.le_total 0 q with h | h
   ·exact Int.mul_nonneg h h
   ·exact Int.mul_nonneg_of_nonpos_of_nonpos h h
  ·rcases Int.le_total 0 q with h | h
   ·have := Int.mul_le_mul p3.2 p3.2 h (by omega); omega
   ·have h2 : 0 <= -q := by omega
    have := Int.mul_le_mul (show -q <= 128 by omega) (show -q <= 128 by omega) h2 (by omega);rw [Int.neg_mul_neg] at this; omega
 simp only;omega
theorem KF {a : Sco} {B C : Int} (h : B <= C) (ha : Zit B a) : Zit C a := by
 simp only [Zit] at *
 omega
theorem K1 {P : Program} {H0 L : List AM.Obj} {f : FuncId} {gs : List V} {z : PV} {B : V -> Prop} {t} (h : ACalls P f gs H0 fun x H' => x = .p z /\ H' = H0) (k : B (.p z)) (ha : refBs H0.length gs = true) (hf : refH H0.length H0 = true) :
  exq (fun y => ACalls P f gs (H0 ++ L) (Zv (Zv (fun x H' => x = y /\ H' = H0 ++ L) ⟨⟩) ⟨⟩)) (Zv B t) :=
 ⟨.p z, h.useP rfl ⟨rfl, rfl⟩ ha hf, k⟩
def tkH (a b : AM.Obj) (g : FuncId) (caps : List V) (m : List Int) : List AM.Obj := [a, b, .cells [.fn (.func g) [] caps], .elems 1 (m.map eI)]
structure Two (a b : AM.Obj) (caps : List V) : Prop where
 wa : ∀ H n, 2 <= n -> wkO H n a a
 wb : ∀ H n, 2 <= n -> wkO H n b b
 wc : ∀ n, 2 <= n -> refBs n caps = true
 wf : refH 2 [a, b] = true
theorem KR {P : Program} {H : List AM.Obj} {f : FuncId} {gs : List V} {z : PV} {B : V -> Prop} {t} (h : ACalls P f gs H fun x H' => x = .p z /\ H' = H) (k : B (.p z)) :
  exq (fun y => ACalls P f gs H (Zv (Zv (fun x H' => x = y /\ H' = H) ⟨⟩) ⟨⟩)) (Zv B t) := ⟨.p z, h, k⟩
theorem Zk7 {a b : AM.Obj} {g : FuncId} {caps : List V} {v : Int -> Int} (w : Two a b caps) (m : List Int) (p q : Int)
  (hp : ACalls Tryz.prog g (.p (eI p) :: caps) [a, b] fun x H' => x = .p (eI (v p)) /\ H' = [a, b]) (hq : ACalls Tryz.prog g (.p (eI q) :: caps) [a, b] fun x H' => x = .p (eI (v q)) /\ H' = [a, b]) :
  ACalls Tryz.prog 165 [.p (eI p), .p (eI q), .ptr 2 0] (tkH a b g caps m) fun y H' => y = .p (eI (Zmg (v p) (v q))) /\ H' = tkH a b g caps m := by
 obtain ⟨wa, wb, wc, wf⟩ := w;refine Zc [] Tryz.func165 rfl ZrU ?_;simp (disch := omega) only [Tryz.f165, tkH, go_sem, seval];refine Zj mixed (by kernel_rfl) (by kernel_rfl) ?_;simp (disch := omega) only [go_sem, seval];refine K1 (H0 := [a, b]) (L := [_, _]) hp ?_ (by simp [refBs, refB, wc 2 (Nat.le_refl _)]) wf;simp (disch := omega) only [go_sem, seval];refine K1 (H0 := [a, b]) (L := [_, _]) hq ?_ (by simp [refBs, refB, wc 2 (Nat.le_refl _)]) wf;simp (disch := omega) only [go_sem, seval];refine Zt (Zyi (v p) (v q)) ?_;simp (disch := omega) only [go_sem, seval]
 exact we (by simp (disch := omega) only [tkH, wa, wb, wc, go_sem, seval])
theorem Zep {a b : AM.Obj} {g : FuncId} {caps : List V} {v : Int -> Int} (w : Two a b caps) (l : List Int) (hl : l.length <= 1048576) (hasc : l.Pairwise (· < ·))
  (hv : ∀ p ∈ l, ACalls Tryz.prog g (.p (eI p) :: caps) [a, b] fun x H' => x = .p (eI (v p)) /\ H' = [a, b]) :
  ACalls Tryz.prog 281 [.sl 3 0 l.length l.length, .p (.int .i64 0), .p (.int .i64 l.length), .fn (.func 165) [] [.ptr 2 0]] (tkH a b g caps l) fun y H' => y = .tup [] /\ H' = tkH a b g caps (Wz (fun _ => false) v l) := by
 have w' := w;obtain ⟨wa, wb, wc, wf⟩ := w'
 have hasc' : ∀ a b, a < b -> b < l.length -> nth l a < nth l b := fun a b h1 h2 => by rw [Ze h2, Ze (by omega)]; exact List.pairwise_iff_getElem.1 hasc a b (by omega) h2 h1
 refine Zc [] Tryz.func281 rfl Zp4 ?_;simp (disch := omega) only [Tryz.f281, tkH, go_sem, seval]
 refine Zf [0, 1, 2, 3] (fun q : Nat × List Int => [(8, .p (.int .i64 q.1))]) (fun q => tkH a b g caps q.2)
  (fun q => 1 <= q.1 /\ q.2.Perm l /\ (∀ a b, a < b -> b < q.1 -> b < q.2.length -> leK (fun _ => false) v (nth q.2 a) (nth q.2 b) = true) /\ (∀ a b, a < b -> q.1 <= b -> b < l.length -> nth q.2 a < nth q.2 b)) (fun q => l.length - q.1) (1, l) ⟨by omega, .refl _, fun a b h1 h2 => by omega, fun a b h1 h2 h3 => hasc' a b h1 h3⟩ (Weak.mk ?_) ?_
 ·simp (disch := omega) only [tkH, wa, wb, wc, go_sem, seval]
 ·rintro ⟨i, m⟩ ⟨hi, hp, hs, hu⟩;simp only at hi hp hs hu;have hml := hp.length_eq;simp (disch := omega) only [tkH, go_sem, seval];refine cD ?_ ?_ <;> intro h1 <;> simp (disch := omega) only [Sh.out h1, go_sem, seval]
  ·have hi2 : i < m.length := by omega
   refine Zf [0, 1, 2, 3, 8] (fun q : Nat × List Int => [(9, .p (.int .i64 q.1))]) (fun q => tkH a b g caps q.2)
    (fun q => q.1 <= i /\ q.2.Perm l /\ (∀ a b, a < b -> b <= i -> b ≠ q.1 -> leK (fun _ => false) v (nth q.2 a) (nth q.2 b) = true) /\ (∀ a, a < q.1 -> nth q.2 a < nth q.2 q.1) /\ ∀ a b, a < b -> i + 1 <= b -> b < l.length -> nth q.2 a < nth q.2 b) (fun q => q.1) (i, m)
    ⟨by simp, hp, fun a b h1 h2 h3 => hs a b h1 (by simp only at h3; omega) (by omega), fun a h => hu a i h (Nat.le_refl _) (by omega), fun a b h1 h2 h3 => hu a b h1 (by omega) h3⟩ (Weak.mk ?_) ?_
   ·simp (disch := omega) only [tkH, wa, wb, wc, go_sem, seval]
   ·clear hp hs hml hi2 hu;rintro ⟨j, m⟩ ⟨hj, hp, hs, hu, hr⟩;simp only at hj hp hs hu hr;have hml := hp.length_eq
    have hj2 : j < m.length := by omega
    have hin : ∀ k, k < m.length -> nth m k ∈ l := fun k hk => hp.mem_iff.1 (Xm hk);simp (disch := omega) only [tkH, go_sem, seval];refine Zj mixed (by kernel_rfl) (by kernel_rfl) ?_;simp (disch := omega) only [go_sem, seval]
    have e1 : ((j : Int) - 1).toNat = j - 1 := by omega
    refine gT ?_ ?_ <;> intro h2 <;> simp (disch := omega) only [Sh.out h2, go_sem, seval]
    ·have he1 : elt (m.map eI) j = eI (nth m j) := Xb hj2;have he2 : elt (m.map eI) (j - 1) = eI (nth m (j - 1)) := Xb (by omega)
     have hj3 : j < l.length := by omega
     have hj4 : j - 1 < l.length := by omega
     simp (disch := first | omega | (simp only [List.length_cons, List.length_nil, List.length_append, List.length_map, List.length_take, List.length_drop] <;> omega)) only [e1, he1, he2, hml, hj3, hj4, eq_self, true_and, if_true, go_sem, seval];refine KR (Zk7 w m (nth m j) (nth m (j - 1)) (hv _ (hin j hj2)) (hv _ (hin (j - 1) (by omega)))) ?_;simp (disch := omega) only [go_sem, seval];refine cD ?_ ?_ <;> intro h3 <;> simp (disch := omega) only [Sh.out h3, go_sem, seval]
     ·have h3' : v (nth m j) < v (nth m (j - 1)) := by
       by_cases c : v (nth m j) < v (nth m (j - 1))
       ·exact c
       ·unfold Zmg at h3;rw [if_neg c] at h3
        split at h3 <;> omega
      refine ZdU [15] 16 mixed (by kernel_rfl) (by kernel_rfl) (by kernel_rfl) (by kernel_rfl) (by simp) ?_;simp (disch := first | omega | (simp only [List.length_cons, List.length_nil, List.length_append, List.length_map, List.length_take, List.length_drop] <;> omega)) only [e1, he1, he2, hml, hj3, hj4, eq_self, true_and, if_true, go_sem, seval]
      have Zbe : (m.map eI).set j (.int .i64 (nth m (j - 1))) = (m.set j (nth m (j - 1))).map eI := by rw [List.map_set]; rfl
      have hl1 : (m.set j (nth m (j - 1))).length = l.length := by simp [hml]
      refine ZfW 15 _ _ (by kernel_rfl) (by simp (disch := first | omega | (simp only [List.length_cons, List.length_nil, List.length_append, List.length_map, List.length_take, List.length_drop] <;> omega)) only [e1, he1, he2, hml, hj3, hj4, eq_self, true_and, if_true, Zbe, go_sem, seval]; exact ⟨rfl, rfl⟩) (Zkw ?_)
      generalize hm1 : m.set j (nth m (j - 1)) = m1 at *
      have he3 : elt (m1.map eI) (j - 1) = eI (nth m1 (j - 1)) := Xb (by omega)
      have hset2 : (m1.map eI).set (j - 1) (.int .i64 (nth m j)) = (Zi7 m j).map eI := by rw [Zi7, hm1, List.map_set]; rfl
      simp (disch := first | omega | (simp only [List.length_cons, List.length_nil, List.length_append, List.length_map, List.length_take, List.length_drop] <;> omega)) only [e1, he3, hl1, hj4, eq_self, true_and, if_true, hset2, go_sem, seval];have hsl := ZcO (l := m) (j := j);have hsw := fun q => Zi3 (l := m) (j := j) (q := q) (by omega) hj2;refine ⟨(j - 1, Zi7 m j), ⟨by simp only; omega, (Zer hj2).trans hp, fun a b h4 h5 h6 => ?_, fun a h4 => ?_, fun a b h4 h5 h6 => ?_⟩, by simp only; omega, Weak.mk (by simp (disch := omega) only [tkH, wa, wb, wc, show ((j - 1 : Nat) : Int) = (j : Int) - 1 by omega, go_sem, seval])⟩
      ·simp only at h6 ⊢;rw [hsw b (by omega), hsw a (by omega)]
       by_cases c1 : b = j
       ·rw [if_pos c1];subst c1;rw [if_neg (by omega)]
        by_cases c2 : a = b - 1
        ·rw [if_pos c2]; simp [leK, h3']
        ·rw [if_neg c2]; exact hs a (b - 1) (by omega) (by omega) (by omega)
       ·rw [if_neg c1, if_neg h6]
        by_cases c2 : a = j
        ·rw [if_pos c2]; exact hs (j - 1) b (by omega) h5 c1
        ·rw [if_neg c2]
         by_cases c3 : a = j - 1
         ·rw [if_pos c3]; exact hs j b (by omega) h5 c1
         ·rw [if_neg c3]; exact hs a b h4 h5 c1
      ·simp only at h4 ⊢;rw [hsw a (by omega), hsw (j - 1) (by omega), if_neg (by omega), if_neg (by omega), if_neg (by omega), if_pos rfl];exact hu a (by omega)
      ·simp only at h5 ⊢;rw [hsw a (by omega), hsw b (by omega), if_neg (show ¬ b = j by omega), if_neg (show ¬ b = j - 1 by omega)]
       by_cases c2 : a = j
       ·rw [if_pos c2]; exact hr (j - 1) b (by omega) h5 h6
       ·rw [if_neg c2]
        by_cases c3 : a = j - 1
        ·rw [if_pos c3]; exact hr j b (by omega) h5 h6
        ·rw [if_neg c3]; exact hr a b h4 h5 h6
     ·have h3' : ¬ v (nth m j) < v (nth m (j - 1)) := fun h => h3 (by unfold Zmg; rw [if_pos h]; omega)
      have hlast : leK (fun _ => false) v (nth m (j - 1)) (nth m j) = true := by
       have := hu (j - 1) (by omega);simp [leK]; omega
      exact ⟨(i + 1, m), ⟨by simp only; omega, hp, fun a b h4 h5 h6 => by
       simp only at h5 ⊢
       by_cases c1 : b = j
       ·subst c1
        by_cases c2 : a = b - 1
        ·rw [c2]; exact hlast
        ·exact QI (hs a (b - 1) (by omega) (by omega) (by omega)) hlast
       ·exact hs a b h4 (by omega) c1, fun a b h4 h5 h6 => hr a b h4 h5 h6⟩, by simp only; omega, Weak.mk (by simp (disch := omega) only [tkH, wa, wb, wc, go_sem, seval])⟩
    ·have hj0 : j = 0 := by omega
     subst hj0;exact ⟨(i + 1, m), ⟨by simp only; omega, hp, fun a b h4 h5 h6 => hs a b h4 (by simp only at h5; omega) (by omega), fun a b h4 h5 h6 => hr a b h4 h5 h6⟩, by simp only; omega, Weak.mk (by simp (disch := omega) only [tkH, wa, wb, wc, go_sem, seval])⟩
  ·have e : m = Wz (fun _ => false) v l := Zbh hp (by
    rw [List.pairwise_iff_getElem];intro a b ha hb hab;have := hs a b hab (by omega) hb
    rwa [Ze ha, Ze hb] at this)
   rw [<- e];exact ⟨.tup [], tkH a b g caps m, Weak.mk (by simp (disch := omega) only [tkH, wa, wb, wc, go_sem, seval]), rfl, rfl⟩
theorem Zi1 {a b : AM.Obj} {g : FuncId} {caps : List V} {v : Int -> Int} (w : Two a b caps) (l : List Int) (hl : l.length <= 19) (hasc : l.Pairwise (· < ·))
  (hv : ∀ p ∈ l, ACalls Tryz.prog g (.p (eI p) :: caps) [a, b] fun x H' => x = .p (eI (v p)) /\ H' = [a, b]) :
  ACalls Tryz.prog 217 [.sl 3 0 l.length l.length, .p (.int .i64 l.length), .fn (.func 165) [] [.ptr 2 0]] (tkH a b g caps l) fun y H' => y = .tup [] /\ H' = tkH a b g caps (Wz (fun _ => false) v l) := by
 have w' := w;obtain ⟨wa, wb, wc, wf⟩ := w';refine Zc [] Tryz.func217 rfl ZqF ?_;simp (disch := omega) only [Tryz.f217, tkH, go_sem, seval];refine Zf [0, 1, 2, 6, 7, 8] (fun _ : Unit => []) (fun _ => tkH a b g caps l) (fun _ => True) (fun _ => 0) () trivial (Weak.mk ?_) ?_
 ·simp (disch := omega) only [tkH, wa, wb, wc, go_sem, seval]
 ·intro _ _;simp (disch := omega) only [tkH, go_sem, seval]
  have h1 : ¬ (20 : Int) <= (l.length : Int) := by omega
  simp (disch := omega) only [h1, go_sem, seval];refine (Zep w l (by omega) hasc hv).useH ?_;simp (disch := omega) only [tkH, go_sem, seval];refine Zf [0, 1, 2, 6] (fun _ : Unit => []) (fun _ => tkH a b g caps (Wz (fun _ => false) v l)) (fun _ => True) (fun _ => 0) () trivial (Weak.mk ?_) ?_
  ·simp (disch := omega) only [tkH, wa, wb, wc, go_sem, seval]
  ·intro _ _
   have h2 : ¬ (20 : Int) < (l.length : Int) := by omega
   simp (disch := omega) only [tkH, h2, go_sem, seval];exact ⟨.tup [], tkH a b g caps (Wz (fun _ => false) v l), Weak.mk (by simp (disch := omega) only [tkH, wa, wb, wc, go_sem, seval]), rfl, rfl⟩
theorem ZaN {a b : AM.Obj} {g : FuncId} {caps : List V} {v : Int -> Int} (w : Two a b caps) (l : List Int) (hl : l.length <= 19) (hasc : l.Pairwise (· < ·))
  (hv : ∀ p ∈ l, ACalls Tryz.prog g (.p (eI p) :: caps) [a, b] fun x H' => x = .p (eI (v p)) /\ H' = [a, b]) :
  ACalls Tryz.prog 164 [.sl 3 0 l.length l.length, .fn (.func 165) [] [.ptr 2 0]] (tkH a b g caps l) fun y H' => y = .tup [] /\ H' = tkH a b g caps (Wz (fun _ => false) v l) := by
 have w' := w;obtain ⟨wa, wb, wc, wf⟩ := w';refine Zc [] Tryz.func164 rfl Zqi ?_;simp (disch := omega) only [Tryz.f164, tkH, go_sem, seval];refine (Zi1 w l hl hasc hv).useH ?_;simp (disch := omega) only [tkH, go_sem, seval];exact ⟨.tup [], tkH a b g caps (Wz (fun _ => false) v l), Weak.mk (by simp (disch := omega) only [tkH, wa, wb, wc, go_sem, seval]), rfl, rfl⟩
theorem ZfZ {a b : AM.Obj} {g : FuncId} {caps : List V} {v : Int -> Int} (w : Two a b caps) (l : List Int) (c : Bool) (n : Nat) (hl : l.length <= 19) (hasc : l.Pairwise (· < ·)) (h0 : ∀ i ∈ l, 0 <= i /\ i <= 60)
  (hv : ∀ p ∈ l, ACalls Tryz.prog g (.p (eI p) :: caps) [a, b] fun x H' => x = .p (eI (v p)) /\ H' = [a, b]) :
  ACalls Tryz.prog 110 [.p (.list c (l.map eI)), .p (.int .i64 (n : Int)), .fn (.func g) [] caps] [a, b] fun y H' => y = .p (.int .i64 (Kl (fun _ => false) v l n : Nat)) /\ H' = [a, b] := by
 have w' := w;obtain ⟨wa, wb, wc, wf⟩ := w';refine Zc [4] Tryz.func110 rfl ZoA ?_;simp (disch := omega) only [Tryz.f110, go_sem, seval];refine (ZcG l c (by omega)).useF ?_;simp (disch := omega) only [go_sem, seval];refine (ZaN w l hl hasc hv).useH ?_;have hsl := UM (q := fun _ => false) (v := v) (l := l);have hsm : ∀ i ∈ Wz (fun _ => false) v l, 0 <= i /\ i <= 60 := fun i hi => h0 i (XQ.1 hi)
 generalize hS : Wz (fun _ => false) v l = m at *
 obtain ⟨K, hK⟩ : ∃ K, K = min n l.length := ⟨_, rfl⟩
 have hmin : Zat true [.p (.int .i64 (n : Int)), .p (.int .i64 (l.length : Int))] = some (.int .i64 (K : Int)) := by
  by_cases h : n <= l.length
  ·rw [ZbT (by omega)]; congr 2; omega
  ·rw [Zbl (by omega)]; congr 2; omega
 have hKl : K <= m.length := by omega
 have htk : Kl (fun _ => false) v l n = XV (m.take K) := by
  rw [Kl, hS, List.take_eq_take_min, hK, hsl]
 rw [htk];simp (disch := omega) only [tkH, go_sem, seval]
 have hlp : ∀ k, k < m.length -> XV (m.take k) < pw 61 := fun k hk => YF fun i hi => by have := hsm i (List.mem_of_mem_take hi); omega
 have e61 : pw 61 = 2305843009213693952 := rfl
 by_cases hK0 : K = 0
 ·refine XA (XA (QL 5 rfl rfl ?_));simp (disch := omega) only [hsl, hmin, go_sem, seval];rw [hK0];refine ⟨_, ZaG rfl ZoE rfl (by rfl) (by simpa using hsl) rfl, ?_⟩;rintro _ rfl;simp (disch := omega) only [go_sem, seval];refine Zd [] _ _ _ _ ?_;simp (disch := omega) only [go_sem, seval];refine Zf [7, 20, 21, 22] (fun _ : Unit => []) (fun _ => tkH a b g caps m) (fun _ => True) (fun _ => 0) () trivial (Weak.mk ?_) ?_
  ·simp (disch := omega) only [tkH, wa, wb, wc, go_sem, seval]
  ·intro _ _;simp (disch := omega) only [go_sem, seval];refine Zd [] _ _ _ _ ?_;simp (disch := omega) only [tkH, go_sem, seval];exact ⟨.p (.int .i64 0), [a, b], Weak.mk (by simp (disch := omega) only [wa, wb, go_sem, seval]), rfl, rfl⟩
 ·refine Zd [] _ _ _ _ ?_;simp (disch := omega) only [tkH, hsl, hmin, go_sem, seval];refine Zf [20, 21] (fun k : Nat => [(7, .p (.int .i64 (XV (m.take k) : Nat))), (22, .p (.int .i64 k))]) (fun _ => tkH a b g caps m) (fun k => k <= K) (fun k => K - k) 0 (by simp) (Weak.mk ?_) ?_
  ·simp (disch := omega) only [tkH, wa, wb, wc, XV, List.take_zero, List.foldl_nil, go_sem, seval]
  ·intro k hk;simp (disch := omega) only [tkH, hsl, go_sem, seval];refine cD ?_ ?_ <;> intro h1 <;> simp (disch := omega) only [Sh.out h1, go_sem, seval]
   ·have hk2 : k < m.length := by omega
    have hmk := hsm _ (Zi hk2);have h2 := hlp k hk2;have h3 : pw (nth m k).toNat <= pw 60 := ZS (by omega);have h4 : pw 60 = 1152921504606846976 := rfl;have hs := Qe hk2
    have hk3 : k < l.length := by omega
    simp (disch := first | omega | (simp only [List.length_cons, List.length_nil, List.length_append, List.length_map, List.length_take, List.length_drop] <;> omega)) only [Xb hk2, hsl, hk3, if_true, go_sem, seval];exact ⟨k + 1, by omega, by omega, Weak.mk (by simp (disch := omega) only [tkH, wa, wb, wc, hs, go_sem, seval])⟩
   ·have hkl : k = K := by omega
    subst hkl;exact ⟨.p (.int .i64 (XV (m.take k) : Nat)), [a, b], Weak.mk (by simp (disch := omega) only [wa, wb, go_sem, seval]), rfl, rfl⟩
theorem ZaT {n : Nat} {be : List (Int × Int)} (hv : Val n be) {i j : Nat} (hi : i < n) : (ZH n be (i : Int)).testBit j = true ↔ j = i \/ Ch be j i := by
 have h0 : 0 <= (i : Int) /\ (i : Int) < n := by omega
 rw [ZH, if_pos h0, Nat.testBit_or, Bool.or_eq_true, Int.toNat_natCast, Zaz hv j i hi, Z5, decide_eq_true_eq]
 constructor
 ·rintro (h | h)
  ·exact .inr h
  ·exact .inl h.symm
 ·rintro (h | h)
  ·exact .inr h.symm
  ·exact .inl h
theorem Zse {a b c : Nat} : a &&& b &&& c ≠ 0 ↔ ∃ j, a.testBit j = true /\ b.testBit j = true /\ c.testBit j = true := by
 constructor
 ·intro h;obtain ⟨j, hj⟩ := Nat.exists_testBit_of_ne_zero h;rw [Nat.testBit_and, Nat.testBit_and, Bool.and_eq_true, Bool.and_eq_true] at hj;exact ⟨j, hj.1.1, hj.1.2, hj.2⟩
 ·rintro ⟨j, h1, h2, h3⟩ h
  have : (a &&& b &&& c).testBit j = true := by rw [Nat.testBit_and, Nat.testBit_and, h1, h2, h3]; rfl
  rw [h] at this; simp at this
theorem Zlh {n : Nat} {be : List (Int × Int)} (hv : Val n be) {all set i : Nat} (ha : all < pw n) : (lvS n be all set).testBit i = true ↔ all.testBit i = true /\ ∃ j, (j = i \/ Ch be j i) /\ set.testBit j = true /\ all.testBit j = true := by
 rw [ZgC, lvB, Bool.and_eq_true, Bool.and_eq_true, decide_eq_true_eq, decide_eq_true_eq, Zse]
 constructor
 ·rintro ⟨h1, h2, j, h3, h4⟩;exact ⟨h2, j, (ZaT hv h1).1 h3, h4⟩
 ·rintro ⟨h2, j, h3, h4⟩;have h1 := XS ha h2;exact ⟨h1, h2, j, (ZaT hv h1).2 h3, h4⟩
end Go.Proofs.YtcdoglogglbemaaGreatDoor.K
