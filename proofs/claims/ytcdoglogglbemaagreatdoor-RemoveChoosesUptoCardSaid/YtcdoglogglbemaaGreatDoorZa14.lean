/- Declarations that the closing texts need, part 14: joined by tools/slim.py. -/
import Derived.Test.YtcdoglogglbemaaGreatDoorZa13
set_option linter.unusedVariables false
set_option linter.unusedSimpArgs false
namespace Go.Proofs.YtcdoglogglbemaaGreatDoor.K
open Go Go.AM Go.Proofs
def onB (x : Inst) (l : List Vis) (n i : Nat) : Bool := (l.take n).foldl (fun on v => if v.order = (i : Int) then !v.drp else on) (decide ((nth x.orders i).pick.place < 0))
theorem Zif {x : Inst} {l : List Vis} {i : Nat} : onB x l 0 i = decide ((nth x.orders i).pick.place < 0) := by simp [onB]
theorem JW {x : Inst} {l : List Vis} {n i : Nat} (h : n < l.length) : onB x l (n + 1) i = if (nth l n).order = (i : Int) then !(nth l n).drp else onB x l n i := by
 rw [onB, List.take_succ_eq_append_getElem h, List.foldl_append, Ze h]; rfl
structure SqOk (x : Inst) (l : List Vis) : Prop where
 ne : l ≠ []
 inr : Inr x l
 nd : l.Nodup
 pair : ∀ v ∈ l, pairB x.orders l v = true
theorem Wt {x : Inst} {l : List Vis} (h : ZW x l = 0) : SqOk x l := by
 unfold ZW at h
 split at h
 ·simp at h
 ·rename_i h1
  split at h
  ·simp at h
  ·split at h
   ·simp at h
   ·rename_i h3
    split at h
    ·simp at h
    ·rename_i h4;refine ⟨fun e => h1 (.inl (by simp [e])), fun v hv => ?_, Jy.1 (by simpa using h3), fun v hv => ?_⟩
     ·have h5 : ¬ (l.any (Um x)) = true := fun e => h1 (.inr e)
      have h6 : Um x v = false := by
       cases hb : Um x v with
       | false => rfl
       | true => exact absurd (List.any_eq_true.2 ⟨v, hv, hb⟩) h5
      simpa [Um] using h6
     ·have h5 : l.all (pairB x.orders l) = true := by simpa using h4
      exact List.all_eq_true.1 h5 v hv
structure OwnV (x : Inst) (l : List Vis) (i : Nat) : Prop where
 pick : 0 <= (nth x.orders i).pick.place -> (⟨i, false⟩ : Vis) ∈ l
 drp : 0 <= (nth x.orders i).drp.place -> (⟨i, true⟩ : Vis) ∈ l
 both : 0 <= (nth x.orders i).pick.place -> 0 <= (nth x.orders i).drp.place -> vIx l ⟨i, false⟩ < vIx l ⟨i, true⟩
 isP : (⟨i, false⟩ : Vis) ∈ l -> 0 <= (nth x.orders i).pick.place
 isD : (⟨i, true⟩ : Vis) ∈ l -> 0 <= (nth x.orders i).drp.place
theorem SqOk.own {x : Inst} {l : List Vis} (h : SqOk x l) {i : Nat} (hi : ∃ v ∈ l, v.order = (i : Int)) : OwnV x l i := by
 obtain ⟨v0, hv0, ho⟩ := hi
 have key : ∀ v ∈ l, v.order = (i : Int) -> v ∈ X8 x.orders i /\ Ki l (-1) (X8 x.orders i) = true := fun v hv hvo => by
  have := h.pair v hv;simp only [pairB, hvo, Int.toNat_natCast, Bool.and_eq_true, decide_eq_true_eq] at this;exact ⟨W8.1 this.1, this.2⟩
 obtain ⟨_, hasc⟩ := key v0 hv0 ho;have mem : ∀ b : Bool, (⟨i, b⟩ : Vis) ∈ l -> (⟨i, b⟩ : Vis) ∈ X8 x.orders i := fun b hb => (key _ hb rfl).1
 have hp : (⟨i, false⟩ : Vis) ∈ X8 x.orders i -> 0 <= (nth x.orders i).pick.place := fun hm => by
  unfold X8 at hm;rcases List.mem_append.1 hm with hm | hm
  ·split at hm
   ·assumption
   ·simp at hm
  ·split at hm <;> simp at hm
 have hd : (⟨i, true⟩ : Vis) ∈ X8 x.orders i -> 0 <= (nth x.orders i).drp.place := fun hm => by
  unfold X8 at hm;rcases List.mem_append.1 hm with hm | hm
  ·split at hm <;> simp at hm
  ·split at hm
   ·assumption
   ·simp at hm
 have m1 : ∀ v, -1 < vIx l v -> v ∈ l := fun v hv => W8.1 (by omega);unfold X8 at hasc
 by_cases c1 : 0 <= (nth x.orders i).pick.place <;> by_cases c2 : 0 <= (nth x.orders i).drp.place
 ·simp only [c1, c2, if_true, List.cons_append, List.nil_append, Ki, Bool.and_true, Bool.and_eq_true, decide_eq_true_eq] at hasc;exact ⟨fun _ => m1 _ hasc.1, fun _ => m1 _ (by omega), fun _ _ => hasc.2, fun _ => c1, fun _ => c2⟩
 ·simp only [c1, c2, if_true, if_false, List.append_nil, Ki, Bool.and_true, decide_eq_true_eq] at hasc;exact ⟨fun _ => m1 _ hasc, fun h => absurd h c2, fun _ h => absurd h c2, fun _ => c1, fun hm => hd (mem _ hm)⟩
 ·simp only [c1, c2, if_true, if_false, List.nil_append, Ki, Bool.and_true, decide_eq_true_eq] at hasc;exact ⟨fun h => absurd h c1, fun _ => m1 _ hasc, fun h => absurd h c1, fun hm => hp (mem _ hm), fun _ => c2⟩
 ·exact ⟨fun h => absurd h c1, fun h => absurd h c2, fun h => absurd h c1, fun hm => hp (mem _ hm), fun hm => hd (mem _ hm)⟩
theorem WO {l : List Vis} (hn : l.Nodup) {v : Vis} {n : Nat} : v ∈ l.take n ↔ 0 <= vIx l v /\ vIx l v < (n : Int) := by
 constructor
 ·intro h;obtain ⟨j, h1, h2, rfl⟩ := UR h;rw [Jh hn h2]; omega
 ·intro ⟨h1, h2⟩;obtain ⟨h3, h4⟩ := Zma h1;rw [<- h4];exact J5 (by omega) h3
theorem Zjn {x : Inst} {l : List Vis} (h : SqOk x l) (i : Nat) : ∀ n, n <= l.length -> onB x l n i = if (⟨i, true⟩ : Vis) ∈ l.take n then false else if (⟨i, false⟩ : Vis) ∈ l.take n then true else decide ((nth x.orders i).pick.place < 0)
 | 0, _ => by simp [onB]
 | n + 1, hn => by
  have hk : n < l.length := by omega
  have hat := Jh h.nd hk;rw [JW hk, Zjn h i n (by omega)]
  by_cases c : (nth l n).order = (i : Int)
  ·rw [if_pos c];have ho := h.own (i := i) ⟨nth l n, Zi hk, c⟩
   cases hd : (nth l n).drp with
   | true =>
    have hv : nth l n = ⟨i, true⟩ := by rw [<- c, <- hd]
    rw [hv] at hat;have : (⟨i, true⟩ : Vis) ∈ l.take (n + 1) := (WO h.nd).2 (by omega);rw [if_pos this]; rfl
   | false =>
    have hv : nth l n = ⟨i, false⟩ := by rw [<- c, <- hd]
    rw [hv] at hat;have h1 : (⟨i, false⟩ : Vis) ∈ l.take (n + 1) := (WO h.nd).2 (by omega)
    have h2 : ¬ (⟨i, true⟩ : Vis) ∈ l.take (n + 1) := fun hm => by
     have h3 := List.mem_of_mem_take hm;have h4 := (WO h.nd).1 hm;have h5 := ho.both (ho.isP (List.mem_of_mem_take h1)) (ho.isD h3);omega
    rw [if_neg h2, if_pos h1]; rfl
  ·rw [if_neg c]
   have e : ∀ b : Bool, ((⟨i, b⟩ : Vis) ∈ l.take (n + 1)) = ((⟨i, b⟩ : Vis) ∈ l.take n) := fun b => by
    rw [List.take_succ_eq_append_getElem hk, List.mem_append, <- Ze hk];refine propext ⟨fun hm => hm.resolve_right fun hm => ?_, .inl⟩;simp at hm;exact c (by rw [<- hm])
   simp only [e]
theorem ZqP {x : Inst} {l : List Vis} (h : SqOk x l) {k i : Nat} (hk : k < l.length) (hi : (nth l k).order = (i : Int)) : onB x l k i = (nth l k).drp := by
 have hat := Jh h.nd hk;have ho := h.own (i := i) ⟨nth l k, Zi hk, hi⟩;have hm := Zi hk;rw [Zjn h i k (by omega)]
 cases hd : (nth l k).drp with
 | true =>
  have hv : nth l k = ⟨i, true⟩ := by rw [<- hi, <- hd]
  rw [hv] at hat hm
  have h1 : ¬ (⟨i, true⟩ : Vis) ∈ l.take k := fun hm => by have := (WO h.nd).1 hm; omega
  rw [if_neg h1]
  by_cases c : 0 <= (nth x.orders i).pick.place
  ·have h2 := ho.both c (ho.isD hm);have h3 : (⟨i, false⟩ : Vis) ∈ l.take k := (WO h.nd).2 ⟨W8.2 (ho.pick c), by omega⟩;rw [if_pos h3]
  ·have : (nth x.orders i).pick.place < 0 := by omega
   split <;> simp [this]
 | false =>
  have hv : nth l k = ⟨i, false⟩ := by rw [<- hi, <- hd]
  rw [hv] at hat hm;have hp := ho.isP hm
  have h1 : ¬ (⟨i, false⟩ : Vis) ∈ l.take k := fun hm => by have := (WO h.nd).1 hm; omega
  have h2 : ¬ (nth x.orders i).pick.place < 0 := by omega
  rw [if_neg h1]
  split <;> simp [h2]
theorem ZlF {f g : Nat -> Int} {i : Nat} (h : ∀ q, q ≠ i -> f q = g q) : ∀ n, i < n -> ((List.range n).map f).sum = ((List.range n).map g).sum + (f i - g i) := by
 have same : ∀ n, n <= i -> ((List.range n).map f).sum = ((List.range n).map g).sum := fun n hn => by
  congr 1
  refine List.map_congr_left fun q hq => h q ?_;have := List.mem_range.1 hq;omega
 intro n
 induction n with
 | zero => intro h; omega
 | succ n ih =>
  intro hi;simp only [List.range_succ, List.map_append, List.map_cons, List.map_nil, List.sum_append, List.sum_cons, List.sum_nil]
  by_cases hn : i = n
  ·subst hn;rw [same i (Nat.le_refl _)]; omega
  ·rw [ih (by omega), h n (by omega)]; omega
theorem ZeX {f : Nat -> Int} {b : Int} (hb : 0 <= b) (h : ∀ q, 0 <= f q /\ f q <= b) : ∀ n : Nat, 0 <= ((List.range n).map f).sum /\ ((List.range n).map f).sum <= b * n
 | 0 => by simp
 | n + 1 => by
  have ih := ZeX hb h n;have := h n;simp only [List.range_succ, List.map_append, List.map_cons, List.map_nil, List.sum_append, List.sum_cons, List.sum_nil];rw [Int.natCast_add, Int.mul_add];omega
theorem WN {p : Nat -> Bool} {f : Nat -> Int} : ∀ l : List Nat, ((l.filter p).map f).sum = (l.map fun i => if p i = true then f i else 0).sum
 | [] => rfl
 | a :: l => by
  rw [List.filter_cons, List.map_cons, List.sum_cons]
  by_cases h : p a = true
  ·rw [if_pos h, List.map_cons, List.sum_cons, WN l, if_pos h]
  ·rw [if_neg h, WN l, if_neg h]; omega
def Zek (x : Inst) (l : List Vis) (n j : Nat) : Int := ((List.range x.orders.length).map fun i => if (onB x l n i && We l i) = true then nth (nth x.orders i).load j else 0).sum
theorem Zaf {x : Inst} {l : List Vis} (h : SqOk x l) {k j : Nat} (hk : k < l.length) : Zek x l (k + 1) j = if (nth l k).drp = true then Zek x l k j - nth (nth x.orders (nth l k).order.toNat).load j else Zek x l k j + nth (nth x.orders (nth l k).order.toNat).load j := by
 obtain ⟨v1, v2⟩ := h.inr _ (Zi hk);obtain ⟨i, hi⟩ : ∃ i : Nat, (nth l k).order = (i : Int) := ⟨(nth l k).order.toNat, by omega⟩;have hh : We l (i : Int) = true := Yh.2 ⟨_, Zi hk, hi⟩;have h1 := ZqP h hk hi
 have h2 : onB x l (k + 1) i = !(nth l k).drp := by rw [JW hk, if_pos hi]
 unfold Zek
 rw [ZlF (f := fun i => if (onB x l (k + 1) i && We l i) = true then nth (nth x.orders i).load j else 0) (g := fun i => if (onB x l k i && We l i) = true then nth (nth x.orders i).load j else 0) (i := i) (fun q hq => by
  have : onB x l (k + 1) q = onB x l k q := by rw [JW hk, if_neg (by omega)]
  simp only [this]) x.orders.length (by omega)]
 rw [h1, h2, hh, hi, Int.toNat_natCast]
 cases (nth l k).drp
 ·simp
 ·simp; omega
def Wi (x : Inst) (l : List Vis) (n : Nat) : List Int := (List.range (dimsOf x.types).toNat).map fun j => Zek x l n j
def Zex (a b : List Int) : List Int := (List.range a.length).map fun j => nth a j + nth b j
def Zux (a b : List Int) : List Int := (List.range a.length).map fun j => nth a j - nth b j
theorem VF {x : Inst} {l : List Vis} {n : Nat} : (Wi x l n).length = (dimsOf x.types).toNat := by simp [Wi]
theorem Vs {f : Nat -> Int} {n j : Nat} (h : j < n) : nth ((List.range n).map f) j = f j := by
 rw [Ze (by simpa using h)]; simp
theorem Zfi {x : Inst} {l : List Vis} (h : SqOk x l) {k : Nat} (hk : k < l.length) : Wi x l (k + 1) = if (nth l k).drp = true then Zux (Wi x l k) (nth x.orders (nth l k).order.toNat).load else Zex (Wi x l k) (nth x.orders (nth l k).order.toNat).load := by
 have key : ∀ g : Nat -> Int, (∀ j, j < (dimsOf x.types).toNat -> Zek x l (k + 1) j = g j) -> Wi x l (k + 1) = (List.range (dimsOf x.types).toNat).map g := fun g hg =>
  List.map_congr_left fun j hj => hg j (List.mem_range.1 hj)
 split
 ·rename_i hd;unfold Zux;rw [VF];refine key _ fun j hj => ?_;rw [Zaf h hk, if_pos hd, Wi, Vs hj]
 ·rename_i hd;unfold Zex;rw [VF];refine key _ fun j hj => ?_;rw [Zaf h hk, if_neg hd, Wi, Vs hj]
set_option maxRecDepth 8000
set_option maxHeartbeats 8000000
theorem Zrx (s : Int) : (0 <= s.tmod 2147483647 /\ s.tmod 2147483647 = s % 2147483647) \/ (s.tmod 2147483647 < 0 /\ s.tmod 2147483647 + 2147483647 = s % 2147483647) := by
 by_cases h : 0 <= s
 ·rw [Int.tmod_eq_emod_of_nonneg h]
  left; omega
 ·have e : s.tmod 2147483647 = -((-s) % 2147483647) := by
   rw [<- Int.tmod_eq_emod_of_nonneg (by omega : 0 <= -s), Int.neg_tmod, Int.neg_neg]
  rw [e];omega
def Yg (s : Int) : Int := if s % 2147483647 = 0 then 1 else s % 2147483647
theorem Qr (s : Int) : 1 <= Yg s /\ Yg s < 2147483647 := by unfold Yg; split <;> omega
def Yc (s : Int) : Int := Yg s * 48271 % 2147483647
theorem U3 (s : Int) : 1 <= Yc s /\ Yc s < 2147483647 := by
 have hg := Qr s;unfold Yc;obtain ⟨g, hgn⟩ : ∃ g : Nat, Yg s = g := ⟨(Yg s).toNat, by omega⟩;rw [hgn] at hg ⊢
 have h0 : ¬ (g * 48271) % 2147483647 = 0 := fun h => by
  have hd : 2147483647 ∣ g * 48271 := Nat.dvd_of_mod_eq_zero h
  have hc : Nat.Coprime 2147483647 48271 := by unfold Nat.Coprime; rfl
  have := Nat.le_of_dvd (by omega) (hc.dvd_of_dvd_mul_right hd);omega
 omega
def Xq (s n : Int) : Int := if n < 1 then 0 else (Yc s - 1) % n
theorem YR {s n : Int} (h : 1 <= n) : 0 <= Xq s n /\ Xq s n < n := by
 have := U3 s;unfold Xq;rw [if_neg (by omega)];exact ⟨Int.emod_nonneg _ (by omega), Int.emod_lt_of_pos _ (by omega)⟩
theorem Zhe (s : Int) : PC 169 [.p (.int .i64 s)] (.int .i64 (Yg s)) := by
 have hm := Zrx s;refine Za Tryz.func169 rfl Zru ?_;simp (disch := omega) only [Tryz.f169, go_sem, seval];generalize s.tmod 2147483647 = r at hm ⊢;refine cD ?_ ?_ <;> intro h <;> simp (disch := omega) only [Sh.out h, go_sem, seval]
 ·refine cD ?_ ?_ <;> intro h2 <;> simp (disch := omega) only [Sh.out h2, go_sem, seval]
  ·have e : Yg s = 1 := by unfold Yg; rw [if_pos (by omega)]
   rw [e]
  ·have e : Yg s = r + 2147483647 := by unfold Yg; rw [if_neg (by omega)]; omega
   rw [e]
 ·refine cD ?_ ?_ <;> intro h2 <;> simp (disch := omega) only [Sh.out h2, go_sem, seval]
  ·have e : Yg s = 1 := by unfold Yg; rw [if_pos (by omega)]
   rw [e]
  ·have e : Yg s = r := by unfold Yg; rw [if_neg (by omega)]; omega
   rw [e]
theorem Zee (s : Int) : PC 171 [.p (.int .i64 s)] (.int .i64 (Yg s)) := by
 have hm := Zrx s;refine Za Tryz.func171 rfl Zqq ?_;simp (disch := omega) only [Tryz.f171, go_sem, seval];generalize s.tmod 2147483647 = r at hm ⊢;refine cD ?_ ?_ <;> intro h <;> simp (disch := omega) only [Sh.out h, go_sem, seval]
 ·refine cD ?_ ?_ <;> intro h2 <;> simp (disch := omega) only [Sh.out h2, go_sem, seval]
  ·have e : Yg s = 1 := by unfold Yg; rw [if_pos (by omega)]
   rw [e]
  ·have e : Yg s = r + 2147483647 := by unfold Yg; rw [if_neg (by omega)]; omega
   rw [e]
 ·refine cD ?_ ?_ <;> intro h2 <;> simp (disch := omega) only [Sh.out h2, go_sem, seval]
  ·have e : Yg s = 1 := by unfold Yg; rw [if_pos (by omega)]
   rw [e]
  ·have e : Yg s = r := by unfold Yg; rw [if_neg (by omega)]; omega
   rw [e]
theorem Zil (s : Int) : PC 115 [.p (.int .i64 s)] (.int .i64 (Yc s)) := by
 have hg := Qr s;refine Za Tryz.func115 rfl Zoj ?_;simp (disch := omega) only [Tryz.f115, go_sem, seval];refine (Zhe s).use ?_;simp (disch := omega) only [go_sem, seval];rw [Yc]
theorem ZdA (s : Int) : PC 118 [.p (.int .i64 s)] (.int .i64 (Yc s)) := by
 have hg := Qr s;refine Za Tryz.func118 rfl Zq3 ?_;simp (disch := omega) only [Tryz.f118, go_sem, seval];refine (Zee s).use ?_;simp (disch := omega) only [go_sem, seval];rw [Yc]
theorem KM (s n : Int) : PT 58 [.p (.int .i64 s), .p (.int .i64 n)] [.p (.int .i64 (Xq s n)), .p (.int .i64 (Yc s))] := by
 have hg := U3 s;refine Zc [] Tryz.func58 rfl Zwx ?_;simp (disch := omega) only [Tryz.f58, go_sem, seval];refine (Zil s).use ?_;simp (disch := omega) only [go_sem, seval];refine cD ?_ ?_ <;> intro h <;> simp (disch := omega) only [Sh.out h, go_sem, seval]
 ·have e : Xq s n = 0 := by rw [Xq, if_pos h]
  rw [e];exact we
 ·have e : Xq s n = (Yc s - 1) % n := by rw [Xq, if_neg h]
  rw [e];exact we
theorem Qx (s n : Int) : PT 62 [.p (.int .i64 s), .p (.int .i64 n)] [.p (.int .i64 (Xq s n)), .p (.int .i64 (Yc s))] := by
 have hg := U3 s;refine Zc [] Tryz.func62 rfl Zwj ?_;simp (disch := omega) only [Tryz.f62, go_sem, seval];refine (ZdA s).use ?_;simp (disch := omega) only [go_sem, seval];refine cD ?_ ?_ <;> intro h <;> simp (disch := omega) only [Sh.out h, go_sem, seval]
 ·have e : Xq s n = 0 := by rw [Xq, if_pos h]
  rw [e];exact we
 ·have e : Xq s n = (Yc s - 1) % n := by rw [Xq, if_neg h]
  rw [e];exact we
def QW (s : Int) (S : Nat) : Int := nth (ZR (S : Int) 63) (Xq s (ZR (S : Int) 63).length).toNat
theorem Zbw {S : Nat} (h0 : 0 < S) (h : S < pw 63) : 0 < (ZR (S : Int) 63).length := by
 have hne : S ≠ 0 := by omega
 obtain ⟨j, hj⟩ := Nat.exists_testBit_of_ne_zero hne
 have hj63 : j < 63 := by
  rcases Nat.lt_or_ge j 63 with h1 | h1
  ·exact h1
  ·have : S < 2 ^ j := Nat.lt_of_lt_of_le h (Nat.pow_le_pow_right (by omega) h1);rw [Nat.testBit_lt_two_pow this] at hj; cases hj
 exact List.length_pos_of_mem (Yi.2 ⟨j, rfl, hj63, hj⟩ : (j : Int) ∈ ZR (S : Int) 63)
theorem VX {s : Int} {S : Nat} (h0 : 0 < S) (h : S < pw 63) : ∃ j : Nat, QW s S = (j : Int) /\ j < 63 /\ S.testBit j = true := by
 have hl := Zbw h0 h;have hb := YR (s := s) (n := (ZR (S : Int) 63).length) (by omega);exact Yi.1 (by rw [QW, Ze (by omega)]; exact List.getElem_mem _)
theorem ZlJ (n : Nat) (hn : n <= 62) : PC 220 [.p (.int .i64 n)] (.int .i64 (pw n : Nat)) := by
 refine Za Tryz.func220 rfl Zrq ?_;simp (disch := omega) only [Tryz.f220, go_sem, seval];refine Zf [0] (fun k : Nat => [(3, .p (.int .i64 (pw k : Nat))), (4, .p (.int .i64 k))]) (fun _ => []) (fun k => k <= n) (fun k => n - k) 0 (by simp) (Weak.mk ?_) ?_
 ·simp (disch := omega) only [go_sem, seval];simp [pw]
 ·intro k hk;have h62 : pw k <= pw 62 := ZS (by omega);have h63 : k < n -> pw (k + 1) <= pw 62 := fun h => ZS (by omega);have h64 := Vf k;have h65 := Ud;simp (disch := omega) only [go_sem, seval];refine cD ?_ ?_ <;> intro h <;> simp (disch := omega) only [Sh.out h, go_sem, seval]
  ·exact ⟨k + 1, by omega, by omega, Weak.mk (by simp (disch := omega) only [go_sem, seval]; simp [h64])⟩
  ·have : k = n := by omega
   rw [this]
theorem Zlg (S : Nat) (i : Nat) (hS : S < 9223372036854775808) (hi : i <= 62) : PC 172 [.p (.int .i64 S), .p (.int .i64 i)] (.bool (S.testBit i)) := by
 have hp : pw i <= pw 62 := ZS hi;have hp0 := Vq i;have h62 := Ud;refine Za Tryz.func172 rfl Zov ?_
 have q1 : (0 : Int) <= (i : Int) := by omega
 have q2 : (i : Int) <= 62 := by omega
 simp (disch := omega) only [Tryz.f172, q1, q2, go_sem, seval];refine (ZlJ i hi).use ?_;simp (disch := omega) only [go_sem, seval];have hq : S / pw i <= S := Nat.div_le_self _ _
 have e1 : IntKind.i64.wrap ((S : Int) / ((pw i : Nat) : Int)) = ((S / pw i : Nat) : Int) := by
  rw [<- Int.natCast_ediv];generalize S / pw i = q at hq ⊢;exact IntWalk.i64_in _ (by omega)
 have e2 : S.testBit i = decide (S / pw i % 2 = 1) := Zc3 S i;rw [e1, Int.tmod_eq_emod_of_nonneg (Int.natCast_nonneg _), e2]
 congr 2
 rw [decide_eq_decide];omega
theorem ZbL (S : Nat) (hS : S < 9223372036854775808) : ACalls Tryz.prog 119 [.p (.int .i64 S)] [] fun x H' => x = .sl 0 0 (ZR S 63).length (ZR S 63).length /\ H' = [.elems 1 ((ZR S 63).map eI)] := by
 refine X5 (fn := Tryz.f119) (by simp) Tryz.func119 rfl ZoB ?_;simp (disch := omega) only [Tryz.f119, go_sem, seval];refine Zf [0] (fun k : Nat => [(3, .sl 0 0 (ZR S k).length (ZR S k).length), (4, .p (.int .i64 k))]) (fun k => [.elems 1 ((ZR S k).map eI)]) (fun k => k <= 63) (fun k => 63 - k) 0 (by simp) (Weak.ofNil 3 1 (by simp (disch := omega) only [go_sem, seval]) (by simp) (Weak.mk ?_)) ?_
 ·simp (disch := omega) only [Wq, go_sem, seval]
 ·intro k hk;have hl := X0 S k;simp (disch := omega) only [go_sem, seval];refine cD ?_ ?_ <;> intro h <;> simp (disch := omega) only [Sh.out h, go_sem, seval]
  ·refine (Zlg S k hS (by omega)).use ?_;simp (disch := omega) only [go_sem, seval];have hs := X2 S k (by omega);refine cD ?_ ?_ <;> intro h2 <;> simp (disch := omega) only [Sh.out h2, go_sem, seval]
   ·refine ⟨k + 1, by omega, by omega, Weak.mk ?_⟩;simp (disch := omega) only [VA (hs.trans h2), go_sem, seval]
   ·exact ⟨k + 1, by omega, by omega, Weak.mk (by simp (disch := omega) only [Ve (hs.trans (by simpa using h2)), go_sem, seval])⟩
  ·have : k = 63 := by omega
   subst this;exact ⟨0, by simp (disch := omega) only [go_sem, seval]⟩
theorem Zb4 (s : Int) (S : Nat) (h0 : 0 < S) (hS : S < 9223372036854775808) : PT 109 [.p (.int .i64 s), .p (.int .i64 S)] [.p (.int .i64 (QW s S)), .p (.int .i64 (Yc s))] := by
 have hl := Zbw h0 (by simpa [pw] using hS);have hb := YR (s := s) (n := (ZR (S : Int) 63).length) (by omega);have hm := X0 (S : Int) 63;refine Zc [] Tryz.func109 rfl Zoo ?_
 have hp : ¬ (S : Int) <= 0 := by omega
 simp (disch := omega) only [Tryz.f109, hp, go_sem, seval];refine ((YU (S : Int)).frozen (by simp)).use ?_;simp (disch := omega) only [go_sem, seval];refine WZ (KM s (ZR (S : Int) 63).length) ?_
 have hk : (Xq s (ZR (S : Int) 63).length).toNat < (ZR (S : Int) 63).length := by omega
 simp (disch := omega) only [Xb hk, go_sem, seval];exact we (by simp (disch := omega) only [QW, go_sem, seval])
theorem Jv (s : Int) (S : Nat) (h0 : 0 < S) (hS : S < 9223372036854775808) : PT 64 [.p (.int .i64 s), .p (.int .i64 S)] [.p (.int .i64 (QW s S)), .p (.int .i64 (Yc s))] := by
 have hl := Zbw h0 (by simpa [pw] using hS);have hb := YR (s := s) (n := (ZR (S : Int) 63).length) (by omega);have hm := X0 (S : Int) 63;refine Zc [] Tryz.func64 rfl ZwN ?_
 have hp : ¬ (S : Int) <= 0 := by omega
 simp (disch := omega) only [Tryz.f64, hp, go_sem, seval];refine ((ZbL S hS).frozen (by simp)).use ?_;simp (disch := omega) only [go_sem, seval];refine WZ (Qx s (ZR (S : Int) 63).length) ?_
 have hk : (Xq s (ZR (S : Int) 63).length).toNat < (ZR (S : Int) 63).length := by omega
 simp (disch := omega) only [Xb hk, go_sem, seval];exact we (by simp (disch := omega) only [QW, go_sem, seval])
def QX (l : List Pt) (t : Int) (i : Nat) : Bool := decide ((nth l i).t <= t) && decide (t < (nth l (i + 1)).t)
def ZjH (p q : Pt) (t : Int) : Int := p.a + ((t - p.t) * (q.a - p.a) + q.t - p.t - 1) / (q.t - p.t)
def KK (l : List Pt) (t : Int) : Int := match (List.range (l.length - 1)).find? (QX l t) with
 | some i => ZjH (nth l i) (nth l (i + 1)) t
 | none => if (nth l 0).t < t then t + (nth l (l.length - 1)).a - (nth l (l.length - 1)).t else t + (nth l 0).a - (nth l 0).t
theorem ZbM {l : List Pt} {t : Int} {i : Nat} (hi : i + 1 < l.length) (hno : ∀ j, j < i -> QX l t j = false) (h : QX l t i = true) : KK l t = ZjH (nth l i) (nth l (i + 1)) t := by
 have : (List.range (l.length - 1)).find? (QX l t) = some i := by
  rw [List.find?_eq_some_iff_getElem];refine ⟨h, i, by simp; omega, by simp, fun j hj => ?_⟩;simp [hno j hj]
 rw [KK, this]
theorem J6 {l : List Pt} {t : Int} (hno : ∀ j, j + 1 < l.length -> QX l t j = false) : KK l t = if (nth l 0).t < t then t + (nth l (l.length - 1)).a - (nth l (l.length - 1)).t else t + (nth l 0).a - (nth l 0).t := by
 have : (List.range (l.length - 1)).find? (QX l t) = none := by
  rw [List.find?_eq_none];intro j hj;simp at hj;rw [hno j (by omega)]; simp
 rw [KK, this]
theorem JG {p q : Pt} {t : Int} (h1 : p.t <= t) (h2 : t < q.t) (hp : 0 <= p.t) (hq : q.t <= 4096) (ha : p.a <= q.a) (hpa : 0 <= p.a) (hqa : q.a <= 8192) : 0 <= (t - p.t) * (q.a - p.a) /\ (t - p.t) * (q.a - p.a) <= 33554432 := by
 refine ⟨Int.mul_nonneg (by omega) (by omega), ?_⟩;have : (t - p.t) * (q.a - p.a) <= 4096 * 8192 := Int.mul_le_mul (by omega) (by omega) (by omega) (by omega);omega
theorem Zea (l : List Pt) (c : Bool) (t : Int) (hl : YI l) (ht : 0 <= t /\ t <= 1073741824) : PC 350 [.p (.list c (l.map ePt)), .p (.int .i64 t)] (.int .i64 (KK l t)) := by
 obtain ⟨⟨hl1, hl2⟩, hpt⟩ := hl;refine Za Tryz.func350 rfl ZrA ?_;simp (disch := omega) only [Tryz.f350, go_sem, seval];refine ((Zjp l c (by omega)).frozenE).useV fun m hm => ?_;simp (disch := omega) only [go_sem, seval]
 have hm0 : m.length = 0 := by rw [hm.emp.2 ⟨⟨hl1, hl2⟩, hpt⟩]; rfl
 have e1 : ¬ t < 0 := by omega
 have e2 : ¬ 1073741824 < t := by omega
 simp (disch := omega) only [hm0, e1, e2, go_sem, seval];refine Zf [0, 1] (fun k : Nat => [(5, .p (.int .i64 k))]) (fun _ => []) (fun k => k < l.length /\ ∀ j, j < k -> QX l t j = false) (fun k => l.length - k) 0 (by simp; omega) (Weak.mk ?_) ?_
 ·simp (disch := omega) only [go_sem, seval]
 ·rintro k ⟨hk, hno⟩;simp (disch := omega) only [go_sem, seval];refine cD ?_ ?_ <;> intro h <;> simp (disch := omega) only [Sh.out h, go_sem, seval]
  ·have hk2 : k + 1 < l.length := by omega
   obtain ⟨⟨p1, p2, p3, p4⟩, _⟩ := hpt k hk;obtain ⟨⟨q1, q2, q3, q4⟩, q5⟩ := hpt (k + 1) hk2;obtain ⟨r1, r2⟩ := q5 (by omega);rw [Nat.add_sub_cancel] at r1 r2;refine gT ?_ ?_ <;> intro h2 <;> simp (disch := omega) only [Sh.out h2, go_sem, seval]
   ·refine cD ?_ ?_ <;> intro h3 <;> simp (disch := omega) only [Sh.out h3, go_sem, seval]
    ·have hsg : QX l t k = true := by simp [QX, h2, h3]
     rw [ZbM hk2 hno hsg];obtain ⟨s1, s2⟩ := JG h2 h3 p1 q2 r2 (by omega) (by omega);have d1 : 0 <= ((t - (nth l k).t) * ((nth l (k + 1)).a - (nth l k).a) + (nth l (k + 1)).t - (nth l k).t - 1) / ((nth l (k + 1)).t - (nth l k).t) := Int.ediv_nonneg (by omega) (by omega);have d2 : ((t - (nth l k).t) * ((nth l (k + 1)).a - (nth l k).a) + (nth l (k + 1)).t - (nth l k).t - 1) / ((nth l (k + 1)).t - (nth l k).t) <= 33558528 := Int.le_trans (Int.ediv_le_self _ (by omega)) (by omega)
     have d3 : ¬ (nth l (k + 1)).t - (nth l k).t = 0 := by omega
     simp only [ZjH];refine Zj mixed (by kernel_rfl) (by kernel_rfl) ?_;simp (disch := omega) only [d3, go_sem, seval]
    ·have hsg : QX l t k = false := by simp [QX, h3]
     exact ⟨k + 1, ⟨by omega, Zh.2 ⟨hno, hsg⟩⟩, by omega, wk⟩
   ·have hsg : QX l t k = false := by simp [QX, h2]
    exact ⟨k + 1, ⟨by omega, Zh.2 ⟨hno, hsg⟩⟩, by omega, wk⟩
  ·have hkl : k + 1 = l.length := by omega
   rw [J6 (fun j hj => hno j (by omega))];obtain ⟨⟨p1, p2, p3, p4⟩, _⟩ := hpt 0 (by omega);obtain ⟨⟨q1, q2, q3, q4⟩, _⟩ := hpt (l.length - 1) (by omega)
   have i1 : ((l.length : Int) - 1).toNat = l.length - 1 := by omega
   refine cD ?_ ?_ <;> intro h2 <;> simp (disch := omega) only [Sh.out h2, go_sem, seval]
theorem Xm {α : Type} [Inhabited α] {l : List α} {i : Nat} (h : i < l.length) : nth l i ∈ l := by rw [Ze h]; exact List.getElem_mem h
def Zvl (a : Arc) : Prop := YI a.travel /\ a.slow.length <= 16 /\ ∀ p ∈ a.slow, 0 <= p.t /\ p.t <= 4096 /\ 0 <= p.a /\ p.a <= 4096
def UD (l : List Pt) (t : Int) (k : Nat) : Int := (l.take k).foldl (fun s p => if p.t <= t then s + p.a else s) 0
def Zj0 (a : Arc) (t : Int) : Int := KK a.travel t + UD a.slow t a.slow.length
theorem Uf {l : List Pt} {t : Int} {k : Nat} (h : k < l.length) : UD l t (k + 1) = if (nth l k).t <= t then UD l t k + (nth l k).a else UD l t k := by
 rw [UD, List.take_succ_eq_append_getElem h, List.foldl_append, Ze h]; rfl
theorem Vy {l : List Pt} {t : Int} (hl : ∀ p ∈ l, 0 <= p.a /\ p.a <= 4096) : ∀ k, k <= l.length -> 0 <= UD l t k /\ UD l t k <= 4096 * k
 | 0, _ => by simp [UD]
 | k + 1, h => by
  have ih := Vy (t := t) hl k (by omega);have hp := hl _ (Xm (show k < l.length by omega));rw [Uf (by omega)]
  split <;> omega
theorem JX {l : List Pt} {t : Int} (hl : YI l) (ht : 0 <= t /\ t <= 1073741824) : 0 <= KK l t /\ KK l t <= 1107304448 := by
 obtain ⟨⟨hl1, hl2⟩, hpt⟩ := hl;unfold KK
 split
 ·rename_i i hi;have hm := List.mem_of_find?_eq_some hi;have hs := List.find?_some hi;simp at hm;simp only [QX, Bool.and_eq_true, decide_eq_true_eq] at hs;obtain ⟨⟨p1, p2, p3, p4⟩, _⟩ := hpt i (by omega);obtain ⟨⟨q1, q2, q3, q4⟩, q5⟩ := hpt (i + 1) (by omega);obtain ⟨r1, r2⟩ := q5 (by omega);rw [Nat.add_sub_cancel] at r1 r2;obtain ⟨s1, s2⟩ := JG hs.1 hs.2 p1 q2 r2 (by omega) (by omega);have d1 : 0 <= ((t - (nth l i).t) * ((nth l (i + 1)).a - (nth l i).a) + (nth l (i + 1)).t - (nth l i).t - 1) / ((nth l (i + 1)).t - (nth l i).t) := Int.ediv_nonneg (by omega) (by omega);have d2 : ((t - (nth l i).t) * ((nth l (i + 1)).a - (nth l i).a) + (nth l (i + 1)).t - (nth l i).t - 1) / ((nth l (i + 1)).t - (nth l i).t) <= 33558528 := Int.le_trans (Int.ediv_le_self _ (by omega)) (by omega)
  unfold ZjH;omega
 ·obtain ⟨⟨p1, p2, p3, p4⟩, _⟩ := hpt 0 (by omega);obtain ⟨⟨q1, q2, q3, q4⟩, _⟩ := hpt (l.length - 1) (by omega)
  split <;> omega
theorem ZdS (a : Arc) (t : Int) (ha : Zvl a) (ht : 0 <= t /\ t <= 1073741824) : PC 346 [.p (Jd a), .p (.int .i64 t)] (.int .i64 (Zj0 a t)) := by
 obtain ⟨h1, h2, h3⟩ := ha;have hr := JX h1 ht;have hs := Vy (t := t) (fun p hp => (h3 p hp).2.2);refine Za Tryz.func346 rfl Ztj ?_;simp (disch := omega) only [Tryz.f346, go_sem, seval];refine (Zea a.travel a.travel_c t h1 ht).use ?_;simp (disch := omega) only [go_sem, seval];refine Zf [1, 2] (fun k : Nat => [(5, .p (.int .i64 (KK a.travel t + UD a.slow t k))), (6, .p (.int .i64 k))]) (fun _ => [X4 a]) (fun k => k <= a.slow.length) (fun k => a.slow.length - k) 0 (by simp) (Weak.mk ?_) ?_
 ·simp (disch := omega) only [X4, UD, List.foldl_nil, go_sem, seval];simp
 ·intro k hk;have hsk := hs k hk;simp (disch := omega) only [X4, go_sem, seval];refine cD ?_ ?_ <;> intro h <;> simp (disch := omega) only [Sh.out h, go_sem, seval]
  ·have hk2 : k < a.slow.length := by omega
   have hp := h3 _ (Xm hk2);have hsn := Uf (t := t) hk2;refine cD ?_ ?_ <;> intro h4 <;> simp (disch := omega) only [Sh.out h4, go_sem, seval]
   ·rw [if_pos h4] at hsn;exact ⟨k + 1, by omega, by omega, Weak.mk (by simp (disch := omega) only [X4, hsn, Int.add_assoc, go_sem, seval])⟩
   ·rw [if_neg h4] at hsn;exact ⟨k + 1, by omega, by omega, Weak.mk (by simp (disch := omega) only [X4, hsn, go_sem, seval])⟩
  ·have hkl : k = a.slow.length := by omega
   subst hkl;simp only [Zj0]
theorem J7 {g : FuncId} {args : List V} {a b c : PV} {H : List AM.Obj} {K : V -> List AM.Obj -> Prop} (h : ACalls Tryz.prog g args [] fun x H' => x = .tup [.p a, .p b, .p c] /\ H' = []) (k : K (.tup [.p a, .p b, .p c]) H) (ha : refBs 0 args = true := by rfl) : ACalls Tryz.prog g args H K :=
 (h.behind ha H).mono fun x H' hq => by
  obtain ⟨y, H1, ⟨rfl, rfl⟩, rfl, rfl⟩ := hq;simpa [shV, Ko] using k
theorem Xp {g : FuncId} {args : List V} {a b : PV} {H : List AM.Obj} {K : V -> List AM.Obj -> Prop} (h : ACalls Tryz.prog g args [] fun x H' => x = .tup [.p a, .p b] /\ H' = []) (k : K (.tup [.p a, .p b]) H) (ha : refBs 0 args = true := by rfl) : ACalls Tryz.prog g args H K :=
 (h.behind ha H).mono fun x H' hq => by
  obtain ⟨y, H1, ⟨rfl, rfl⟩, rfl, rfl⟩ := hq;simpa [shV, Ko] using k
def Uz (n : Net) (p : Int) : Bool := decide (0 <= p) && decide (p < (n.places.length : Int))
theorem KB (n : Net) (p : Int) (hn : n.places.length <= 1048576) : PC 344 [.p (ZcY n), .p (.int .i64 p)] (.bool (Uz n p)) := by
 refine Za Tryz.func344 rfl Zob ?_;simp (disch := omega) only [Tryz.f344, go_sem, seval];refine gT ?_ ?_ <;> intro h <;> simp (disch := omega) only [Sh.out h, go_sem, seval]
 ·simp [Uz, h]
 ·simp [Uz, h]
def YJ (pr f t : Int) (a : Arc) : Bool := decide (a.src = f) && decide (a.dst = t) && decide (a.prof = pr)
def XL : Arc := ⟨0, 0, 0, 0, true, [], true, []⟩
def Yu (n : Net) (pr f t : Int) : Arc × Bool := match n.arcs.find? (YJ pr f t) with | some a => (a, true) | none => (XL, false)
theorem Zb0 {n : Net} {pr f t : Int} {k : Nat} (hk : k < n.arcs.length) (hno : ∀ j, j < k -> YJ pr f t (nth n.arcs j) = false) (h : YJ pr f t (nth n.arcs k) = true) : Yu n pr f t = (nth n.arcs k, true) := by
 have : n.arcs.find? (YJ pr f t) = some (nth n.arcs k) := by
  rw [List.find?_eq_some_iff_getElem];refine ⟨h, k, hk, by rw [Ze hk], fun j hj => ?_⟩;have := hno j hj;rw [Ze (by omega)] at this;simp [this]
 rw [Yu, this]
theorem ZcL {n : Net} {pr f t : Int} (hno : ∀ j, j < n.arcs.length -> YJ pr f t (nth n.arcs j) = false) : Yu n pr f t = (XL, false) := by
 have : n.arcs.find? (YJ pr f t) = none := by
  rw [List.find?_eq_none];intro a ha;obtain ⟨j, hj, rfl⟩ := List.mem_iff_getElem.1 ha;have := hno j hj;rw [Ze hj] at this;simp [this]
 rw [Yu, this]
theorem Zhz (n : Net) (pr f t : Int) (hn : n.arcs.length <= 1048576) : PT 345 [.p (ZcY n), .p (.int .i64 pr), .p (.int .i64 f), .p (.int .i64 t)] [.p (Jd (Yu n pr f t).1), .p (.bool (Yu n pr f t).2)] := by
 refine Zc [] Tryz.func345 rfl Zqh ?_;simp (disch := omega) only [Tryz.f345, go_sem, seval];refine Zf [1, 2, 3, 4, 8] (fun k : Nat => [(10, .p (.int .i64 k))]) (fun _ => Zz n ++ [X4 XL]) (fun k => k <= n.arcs.length /\ ∀ j, j < k -> YJ pr f t (nth n.arcs j) = false) (fun k => n.arcs.length - k) 0 (by simp) (Weak.mk ?_) ?_
 ·simp (disch := omega) only [Zz, X4, XL, List.map_nil, List.cons_append, List.nil_append, go_sem, seval]
 ·rintro k ⟨hk, hno⟩;simp (disch := omega) only [Zz, X4, XL, List.map_nil, List.cons_append, List.nil_append, go_sem, seval];refine cD ?_ ?_ <;> intro h <;> simp (disch := omega) only [Sh.out h, go_sem, seval]
  ·have hk2 : k < n.arcs.length := by omega
   have nx : YJ pr f t (nth n.arcs k) = false -> ∀ j, j < k + 1 -> YJ pr f t (nth n.arcs j) = false := fun h => Zh.2 ⟨hno, h⟩;refine gT ?_ ?_ <;> intro h1 <;> simp (disch := omega) only [Sh.out h1, go_sem, seval]
   ·refine gT ?_ ?_ <;> intro h2 <;> simp (disch := omega) only [Sh.out h2, go_sem, seval]
    ·refine cD ?_ ?_ <;> intro h3 <;> simp (disch := omega) only [Sh.out h3, go_sem, seval]
     ·have e := Zb0 hk2 hno (by simp [YJ, h1, h2, h3]);rw [e];exact we
     ·exact ⟨k + 1, ⟨by omega, nx (by simp [YJ, h3])⟩, by omega, Weak.mk (by simp (disch := omega) only [Zz, X4, XL, List.map_nil, List.cons_append, List.nil_append, go_sem, seval])⟩
    ·exact ⟨k + 1, ⟨by omega, nx (by simp [YJ, h2])⟩, by omega, Weak.mk (by simp (disch := omega) only [Zz, X4, XL, List.map_nil, List.cons_append, List.nil_append, go_sem, seval])⟩
   ·exact ⟨k + 1, ⟨by omega, nx (by simp [YJ, h1])⟩, by omega, Weak.mk (by simp (disch := omega) only [Zz, X4, XL, List.map_nil, List.cons_append, List.nil_append, go_sem, seval])⟩
  ·have hkn : k = n.arcs.length := by omega
   subst hkn;rw [ZcL hno];exact we (by simp (disch := omega) only [XL, List.map_nil, go_sem, seval])
def goN (n : Net) (pr f t τ : Int) : Int × Int × Int :=
 if (Uz n f && Uz n t) = false then (0, 0, 11) else if f = t then (τ, 0, 0) else if (Yu n pr f t).2 = true then (Zj0 (Yu n pr f t).1 τ, (Yu n pr f t).1.miles, 0) else (0, 0, 12)
def netR (n : Net) : Prop := n.places.length <= 1048576 /\ n.arcs.length <= 1048576 /\ ∀ a ∈ n.arcs, Zvl a
theorem Qs {n : Net} {pr f t : Int} (h : (Yu n pr f t).2 = true) : (Yu n pr f t).1 ∈ n.arcs := by
 unfold Yu at h ⊢
 cases hf : n.arcs.find? (YJ pr f t) with
 | none => rw [hf] at h; simp at h
 | some a => exact List.mem_of_find?_eq_some hf
theorem Zpt (n : Net) (pr f t τ : Int) (hn : netR n) (hτ : 0 <= τ /\ τ <= 1073741824) : PT 340 [.p (ZcY n), .p (.int .i64 pr), .p (.int .i64 f), .p (.int .i64 t), .p (.int .i64 τ)] [.p (.int .i64 (goN n pr f t τ).1), .p (.int .i64 (goN n pr f t τ).2.1), .p (.int .i64 (goN n pr f t τ).2.2)] := by
 refine Zc [] Tryz.func340 rfl Zsz ?_;simp (disch := omega) only [Tryz.f340, go_sem, seval];refine (KB n f hn.1).use ?_;simp (disch := omega) only [go_sem, seval];refine gF ?_ ?_ <;> intro h1 <;> simp (disch := omega) only [Sh.out h1, go_sem, seval]
 ·have e : goN n pr f t τ = (0, 0, 11) := by simp only [Bool.not_eq_true'] at h1; simp [goN, h1]
  rw [e];exact we
 ·simp only [Bool.not_eq_false'] at h1;refine (KB n t hn.1).use ?_;simp (disch := omega) only [go_sem, seval];refine cD ?_ ?_ <;> intro h2 <;> simp (disch := omega) only [Sh.out h2, go_sem, seval]
  ·have e : goN n pr f t τ = (0, 0, 11) := by simp only [Bool.not_eq_true'] at h2; simp [goN, h2]
   rw [e];exact we
  ·simp only [Bool.not_eq_false'] at h2;refine cD ?_ ?_ <;> intro h3 <;> simp (disch := omega) only [Sh.out h3, go_sem, seval]
   ·have e : goN n pr f t τ = (τ, 0, 0) := by simp [goN, h1, h2, h3]
    rw [e];exact we
   ·have cf := Zhz n pr f t hn.2.1;have hm := @Qs n pr f t
    have e0 : goN n pr f t τ = if (Yu n pr f t).2 = true then (Zj0 (Yu n pr f t).1 τ, (Yu n pr f t).1.miles, 0) else (0, 0, 12) := by simp [goN, h1, h2, h3]
    rw [e0];generalize Yu n pr f t = A at cf hm ⊢;obtain ⟨a, b⟩ := A;simp only at cf hm ⊢;refine Xp cf ?_;simp (disch := omega) only [go_sem, seval];refine cD ?_ ?_ <;> intro h4 <;> simp (disch := omega) only [Sh.out h4, go_sem, seval]
    ·have hb : b = false := by simpa using h4
     subst hb;exact we
    ·have hb : b = true := by simpa using h4
     subst hb;refine Zj mixed (by kernel_rfl) (by kernel_rfl) ?_;simp (disch := omega) only [go_sem, seval];refine Zt (ZdS a τ (hn.2.2 a (hm rfl)) hτ) ?_;simp (disch := omega) only [go_sem, seval];exact we
theorem ZfG {n : Nat} (h : n < 10) : dec n = [UInt8.ofNat (48 + n)] := by rw [dec, dif_pos h]
theorem Zkl {n : Nat} (h : 10 <= n) (h2 : n < 100) : dec n = [UInt8.ofNat (48 + n / 10), UInt8.ofNat (48 + n % 10)] := by
 rw [dec, dif_neg (by omega), ZfG (by omega)]; rfl
theorem Zcc {s : List UInt8} {k k' : IntKind} {a b : Int} (h : 0 <= a /\ a <= b /\ b <= (s.length : Int)) : ZiW (some .string) s (.p (.int k a)) (.p (.int k' b)) = some (.p (.str ((s.take b.toNat).drop a.toNat))) := by
 simp only [ZiW, if_pos h]
def digT : List UInt8 := (List.range 36).map fun i => UInt8.ofNat (if i < 10 then 48 + i else 87 + i)
def smalT : List UInt8 := (List.range 100).flatMap fun i => [UInt8.ofNat (48 + i / 10), UInt8.ofNat (48 + i % 10)]
theorem ZkJ : ∀ n, n < 10 -> (digT.take (n + 1)).drop n = [UInt8.ofNat (48 + n)] := by decide
theorem Zh8 : ∀ n, n < 100 -> (smalT.take (2 * n + 2)).drop (2 * n) = [UInt8.ofNat (48 + n / 10), UInt8.ofNat (48 + n % 10)] := by decide +kernel
theorem Zmt (n : Nat) (hn : n < 100) : PC 354 [.p (.int .i64 (n : Int))] (.str (dec n)) := by
 refine Za Tryz.func354 rfl ZsW ?_;simp (disch := omega) only [Tryz.f354, go_sem, seval];refine cD ?_ ?_ <;> intro h <;> simp (disch := omega) only [Sh.out h, go_sem, seval]
 ·rw [ZfG (by omega), Zcc (by simp; omega)]
  have e1 : ((n : Int) + 1).toNat = n + 1 := by omega
  have e2 : ((n : Int)).toNat = n := by omega
  rw [e1, e2];refine (congrArg (fun z => pst (some (V.p (PV.str z))) _) (ZkJ n (by omega))).mpr ?_;simp (disch := omega) only [go_sem, seval]
 ·rw [Zkl (by omega) hn, Zcc (by simp; omega)]
  have e1 : ((n : Int) * 2 + 2).toNat = 2 * n + 2 := by omega
  have e2 : ((n : Int) * 2).toNat = 2 * n := by omega
  rw [e1, e2];refine (congrArg (fun z => pst (some (V.p (PV.str z))) _) (Zh8 n (by omega))).mpr ?_;simp (disch := omega) only [go_sem, seval]
theorem ZiU (n : Nat) (hn : n < 100) : PC 353 [.p (.int .i64 (n : Int)), .p (.int .i64 10)] (.str (dec n)) := by
 refine Za Tryz.func353 rfl ZqY ?_
 have h0 : (0 : Int) <= (n : Int) := by omega
 have h1 : (n : Int) < 100 := by omega
 simp (disch := omega) only [Tryz.f353, h0, h1, go_sem, seval];refine (Zmt n hn).use ?_;simp (disch := omega) only [go_sem, seval]
theorem Zk8 (n : Nat) (hn : n < 100) : PC 352 [.p (.int .i64 (n : Int))] (.str (dec n)) := by
 refine Za Tryz.func352 rfl ZoU ?_;simp (disch := omega) only [Tryz.f352, go_sem, seval];refine (ZiU n hn).use ?_;simp (disch := omega) only [go_sem, seval]
theorem ZpO (n : Nat) (hn : n < 100) : PC 351 [.p (.int .i64 (n : Int))] (.str (dec n)) := by
 refine Za Tryz.func351 rfl ZsH ?_;simp (disch := omega) only [Tryz.f351, go_sem, seval];refine (Zk8 n hn).use ?_;simp (disch := omega) only [go_sem, seval]
theorem ZcZ (n a b : Int) : PC 341 [.p (.int .i64 n), .p (.int .i64 a), .p (.int .i64 b)] (.bool (decide (a <= n) && decide (n <= b))) := by
 refine Za Tryz.func341 rfl Ztz ?_;simp (disch := omega) only [Tryz.f341, go_sem, seval]
 repeat' (first | (refine ZU (fun hq => ?_) (fun hq => ?_) <;> (try simp only [decide_eq_true_eq, decide_eq_false_iff_not, Classical.not_not] at hq) <;> simp (disch := omega) only [Sh.out hq, go_sem, seval]) | (refine ZT (fun hq => ?_) (fun hq => ?_) <;> (try simp only [decide_eq_true_eq, decide_eq_false_iff_not, Classical.not_not] at hq) <;> simp (disch := omega) only [Sh.out hq, go_sem, seval]) | (refine Z9 (fun hq => ?_) (fun hq => ?_) <;> (try simp only [decide_eq_true_eq, decide_eq_false_iff_not, Classical.not_not] at hq) <;> simp (disch := omega) only [Sh.out hq, go_sem, seval]))
 all_goals (simp; first | done | omega)
theorem ZiN (l : List Pt) (c : Bool) (hl : YI l) : PC 347 [.p (.list c (l.map ePt))] (.list true []) := by
 obtain ⟨⟨hl1, hl2⟩, hpt⟩ := hl;refine Za Tryz.func347 rfl ZrE ?_
 have e1 : ¬ (l.length : Int) = 0 := by omega
 have e2 : ¬ (16 : Int) < (l.length : Int) := by omega
 simp (disch := omega) only [Tryz.f347, e1, e2, go_sem, seval];refine Zf [0, 19, 20] (fun k : Nat => [(3, .p (.list true [])), (21, .p (.int .i64 k))]) (fun _ => []) (fun k => k <= l.length) (fun k => l.length - k) 0 (by simp) (Weak.mk ?_) ?_
 ·simp (disch := omega) only [go_sem, seval]
 ·intro k hk;simp (disch := omega) only [go_sem, seval];refine cD ?_ ?_ <;> intro h <;> simp (disch := omega) only [Sh.out h, go_sem, seval]
  ·have hk2 : k < l.length := by omega
   obtain ⟨⟨p1, p2, p3, p4⟩, q⟩ := hpt k hk2;refine (ZpO k (by omega)).use ?_;simp (disch := omega) only [go_sem, seval];refine (ZcZ (nth l k).t 0 4096).use ?_;simp (disch := omega) only [go_sem, seval];simp (disch := omega) only [p1, p2, go_sem, seval];refine gF ?_ ?_ <;> intro h3 <;> simp (disch := omega) only [Sh.out h3, go_sem, seval]
   ·omega
   ·refine cD ?_ ?_ <;> intro h4 <;> simp (disch := omega) only [Sh.out h4, go_sem, seval]
    ·omega
    ·refine Zj mixed (by kernel_rfl) (by kernel_rfl) ?_;simp (disch := omega) only [go_sem, seval];refine gT ?_ ?_ <;> intro h5 <;> simp (disch := omega) only [Sh.out h5, go_sem, seval]
     ·obtain ⟨r1, r2⟩ := q (by omega);refine gF ?_ ?_ <;> intro h6 <;> simp (disch := omega) only [Sh.out h6, go_sem, seval]
      ·omega
      ·refine cD ?_ ?_ <;> intro h7 <;> simp (disch := omega) only [Sh.out h7, go_sem, seval]
       ·omega
       ·exact ⟨k + 1, by omega, by omega, wk⟩
     ·exact ⟨k + 1, by omega, by omega, wk⟩
theorem ZfA (p : Pt) (t : Int) (h : 0 <= p.t /\ p.t <= 4096) (ht : 0 <= t /\ t <= 1073741824) : PC 349 [.p (ePt p), .p (.int .i64 t)] (.int .i64 (p.t - t)) := by
 refine Za Tryz.func349 rfl Zsf ?_;simp (disch := omega) only [Tryz.f349, go_sem, seval]
theorem Zle (l : List Pt) (c : Bool) (hl : YI l) : PC 342 [.p (.list c (l.map ePt))] (.bool true) := by
 refine Za Tryz.func342 rfl Ztm ?_;simp (disch := omega) only [Tryz.f342, go_sem, seval];refine (ZiN l c hl).use ?_;simp (disch := omega) only [go_sem, seval]
structure PosT (l : List Pt) (t : Int) (i : Nat) : Prop where
 le : i <= l.length
 lo : ∀ j, j < i -> (nth l j).t < t
 hi : ∀ j, i <= j -> j < l.length -> t <= (nth l j).t
theorem ZyS (l : List Pt) (c : Bool) (t : Int) (i : Nat) (hl : YI l) (ht : 0 <= t /\ t <= 1073741824) (hi : PosT l t i) : PT 348 [.p (.list c (l.map ePt)), .p (.int .i64 t), .fn (.func 349) [] []] [.p (.int .i64 (i : Int)), .p (.bool (decide (i < l.length) && decide ((nth l i).t = t)))] := by
 obtain ⟨⟨hl1, hl2⟩, hpt⟩ := hl;obtain ⟨hi1, hi2, hi3⟩ := hi;refine Zc [] Tryz.func348 rfl Zrb ?_;simp (disch := omega) only [Tryz.f348, go_sem, seval];refine Zf [0, 1, 2, 8] (fun q : Nat × Nat => [(9, .p (.int .i64 q.1)), (10, .p (.int .i64 q.2))]) (fun _ => []) (fun q => q.1 <= i /\ i <= q.2 /\ q.2 <= l.length) (fun q => q.2 - q.1) (0, l.length) (by simp; omega) (Weak.mk ?_) ?_
 ·simp (disch := omega) only [go_sem, seval]
 ·rintro ⟨a, b⟩ ⟨h1, h2, h3⟩;simp only at h1 h2 h3;simp (disch := omega) only [go_sem, seval];refine cD ?_ ?_ <;> intro h <;> simp (disch := omega) only [Sh.out h, go_sem, seval]
  ·have hm : (a + b) / 2 < l.length := by omega
   obtain ⟨⟨p1, p2, p3, p4⟩, q⟩ := hpt _ hm
   have hs : ((a : Int) + (b : Int)).fdiv (2 ^ min 1 64) = (((a + b) / 2 : Nat) : Int) := by
    rw [Int.fdiv_eq_ediv_of_nonneg _ (by decide)]; norm_cast
   have em : ((((a + b) / 2 : Nat)) : Int).toNat = (a + b) / 2 := by omega
   have hnb : ((a + b) / 2 < i) ↔ (nth l ((a + b) / 2)).t - t < 0 := by
    constructor
    ·intro hh; have := hi2 _ hh; omega
    ·intro hh
     by_cases g : (a + b) / 2 < i
     ·exact g
     ·have := hi3 _ (by omega) hm; omega
   rw [hs];simp (disch := omega) only [go_sem, seval];refine (ZfA (nth l ((a + b) / 2)) t ⟨p1, p2⟩ ht).use ?_;simp (disch := omega) only [go_sem, seval];refine cD ?_ ?_ <;> intro h4 <;> simp (disch := omega) only [Sh.out h4, go_sem, seval]
   ·exact ⟨((a + b) / 2 + 1, b), ⟨by simp only; have := hnb.2 h4; omega, h2, h3⟩, by simp only; omega, wk⟩
   ·exact ⟨(a, (a + b) / 2), ⟨h1, by simp only; have := fun g => h4 (hnb.1 g); omega, by simp only; omega⟩, by simp only; omega, wk⟩
  ·have : a = i := by omega
   subst this;refine gT ?_ ?_ <;> intro h4 <;> simp (disch := omega) only [Sh.out h4, go_sem, seval]
   ·have hm : a < l.length := by omega
    obtain ⟨⟨p1, p2, p3, p4⟩, q⟩ := hpt _ hm;refine (ZfA (nth l a) t ⟨p1, p2⟩ ht).use ?_;simp (disch := omega) only [go_sem, seval];have e5 : ((nth l a).t - t = 0) = ((nth l a).t = t) := propext (by omega);exact we (by simp (disch := omega) only [e5, hm, go_sem, seval])
   ·have hm : ¬ a < l.length := by omega
    exact we (by simp (disch := omega) only [hm, go_sem, seval])
theorem UY {l : List Pt} (hl : YI l) {k : Nat} (hk : k < l.length) : ∀ j, j < k -> (nth l j).t < (nth l k).t := by
 obtain ⟨_, hpt⟩ := hl
 induction k with
 | zero => intro j hj; omega
 | succ k ih =>
  intro j hj;obtain ⟨_, q⟩ := hpt (k + 1) hk;obtain ⟨r1, _⟩ := q (by omega);rw [Nat.add_sub_cancel] at r1;rcases Nat.lt_succ_iff_lt_or_eq.1 hj with h | h
  ·exact Int.lt_trans (ih (by omega) j h) r1
  ·subst h; exact r1
theorem Zlo {l : List Pt} (hl : YI l) (t : Int) : ∃ i, PosT l t i := by
 have : ∀ n, n <= l.length -> ∃ i, i <= n /\ (∀ j, j < i -> (nth l j).t < t) /\ (i < n -> t <= (nth l i).t) := by
  intro n
  induction n with
  | zero => intro _; exact ⟨0, by omega, fun j hj => by omega, fun h => by omega⟩
  | succ n ih =>
   intro hn;obtain ⟨i, h1, h2, h3⟩ := ih (by omega)
   by_cases g : i < n
   ·exact ⟨i, by omega, h2, fun _ => h3 g⟩
   ·have : i = n := by omega
    subst this
    by_cases g2 : (nth l i).t < t
    ·exact ⟨i + 1, by omega, Zh.2 ⟨h2, g2⟩, fun h => by omega⟩
    ·exact ⟨i, by omega, h2, fun _ => by omega⟩
 obtain ⟨i, h1, h2, h3⟩ := this l.length (Nat.le_refl _);refine ⟨i, h1, h2, fun j hj hjl => ?_⟩;rcases Nat.lt_or_eq_of_le hj with h | h
 ·have := UY hl hjl i h; have := h3 (by omega); omega
 ·subst h; exact h3 hjl
theorem Zkx {l : List Pt} {t : Int} {i : Nat} (hl : YI l) (h : PosT l t i) (hi : i < l.length) (e : (nth l i).t = t) : KK l t = (nth l i).a := by
 by_cases g : i + 1 < l.length
 ·have m := UY hl g i (by omega);rw [ZbM g (fun j hj => ?_) (by simp [QX, e]; omega), ZjH]
  ·rw [e, Int.sub_self, Int.zero_mul, Int.zero_add];rw [Int.ediv_eq_zero_of_lt (by omega) (by omega)]; omega
  ·have : (nth l (j + 1)).t <= t := by
    rcases Nat.lt_or_eq_of_le (show j + 1 <= i by omega) with h1 | h1
    ·have := h.lo _ h1; omega
    ·rw [h1, e]; exact Int.le_refl _
   simp [QX]; omega
 ·have hi1 : i = l.length - 1 := by omega
  rw [J6 (fun j hj => ?_)]
  ·split
   ·rw [<- hi1]; omega
   ·have : i = 0 := by
     by_cases g2 : i = 0
     ·exact g2
     ·have := h.lo 0 (by omega); omega
    subst this; omega
  ·have : (nth l (j + 1)).t <= t := by
    rcases Nat.lt_or_eq_of_le (show j + 1 <= i by omega) with h1 | h1
    ·have := h.lo _ h1; omega
    ·rw [h1, e]; exact Int.le_refl _
   simp [QX]; omega
theorem ZlZ {l : List Pt} {t : Int} (hl : YI l) (h : PosT l t 0) (e : ¬ (nth l 0).t = t) : KK l t = t + (nth l 0).a - (nth l 0).t := by
 have h0 := h.hi 0 (Nat.le_refl _) hl.1.1;rw [J6 (fun j hj => ?_), if_neg (by omega)]
 have : t < (nth l j).t := by
  by_cases g : j = 0
  ·subst g; omega
  ·have := UY hl (show j < l.length by omega) 0 (by omega); omega
 simp [QX]; omega
theorem ZlC {l : List Pt} {t : Int} (h : PosT l t l.length) (hl : 0 < l.length) : KK l t = t + (nth l (l.length - 1)).a - (nth l (l.length - 1)).t := by
 rw [J6 (fun j hj => ?_), if_pos (h.lo 0 hl)];have := h.lo (j + 1) hj;simp [QX]; omega
theorem ZhJ {l : List Pt} {t : Int} {i : Nat} (h : PosT l t i) (h0 : 0 < i) (hi : i < l.length) (e : ¬ (nth l i).t = t) : KK l t = ZjH (nth l (i - 1)) (nth l i) t := by
 have e1 : i - 1 + 1 = i := by omega
 have h1 := h.lo (i - 1) (by omega);have h2 := h.hi i (Nat.le_refl _) hi;have := ZbM (l := l) (t := t) (i := i - 1) (by omega) (fun j hj => by have := h.lo (j + 1) (by omega); simp [QX]; omega) (by rw [QX, e1]; simp; omega);rw [this, e1]
theorem KA {p q : Pt} {t : Int} (h1 : p.t <= t) (h2 : t < q.t) (hp : 0 <= p.t) (hq : q.t <= 4096) (ha : p.a <= q.a) (hpa : 0 <= p.a) (hqa : q.a <= 8192) :
  IntKind.i64.wrap (p.a + IntKind.i64.wrap ((IntKind.i64.wrap (IntKind.i64.wrap (IntKind.i64.wrap ((t - p.t) * (q.a - p.a)) + (q.t - p.t)) - 1)).tdiv (q.t - p.t))) = ZjH p q t := by
 have hm := JG h1 h2 hp hq ha hpa hqa;unfold ZjH;generalize hM : (t - p.t) * (q.a - p.a) = m at hm
 have hd : 0 <= (m + (q.t - p.t) - 1) / (q.t - p.t) /\ (m + (q.t - p.t) - 1) / (q.t - p.t) <= m + (q.t - p.t) - 1 := by
  refine ⟨Int.ediv_nonneg (by omega) (by omega), Int.ediv_le_self _ (by omega)⟩
 rw [IntWalk.i64_in m (by omega), IntWalk.i64_in (m + (q.t - p.t)) (by omega), IntWalk.i64_in (m + (q.t - p.t) - 1) (by omega), Int.tdiv_eq_ediv_of_nonneg (by omega), IntWalk.i64_in ((m + (q.t - p.t) - 1) / (q.t - p.t)) (by omega), IntWalk.i64_in _ (by omega)]
 congr 2
 omega
theorem Zdj (l : List Pt) (c : Bool) (t : Int) (hl : YI l) (ht : 0 <= t /\ t <= 1073741824) : PC 343 [.p (.list c (l.map ePt)), .p (.int .i64 t)] (.int .i64 (KK l t)) := by
 obtain ⟨i, hi⟩ := Zlo hl t;have hl' := hl;obtain ⟨⟨hl1, hl2⟩, hpt⟩ := hl';refine Za Tryz.func343 rfl Zpz ?_;simp (disch := omega) only [Tryz.f343, go_sem, seval];refine Xp (ZyS l c t i hl ht hi) ?_;simp (disch := omega) only [go_sem, seval];obtain ⟨i1, i2, i3⟩ := id hi;refine cD ?_ ?_ <;> intro h <;> simp (disch := omega) only [Sh.out h, go_sem, seval]
 ·obtain ⟨h1, h2⟩ := h;have := hpt i h1;rw [Zkx hl hi h1 h2]
 ·refine cD ?_ ?_ <;> intro h0 <;> simp (disch := omega) only [Sh.out h0, go_sem, seval]
  ·have : i = 0 := by omega
   subst this;obtain ⟨p1, p2⟩ := hpt 0 (by omega);rw [ZlZ hl hi (fun g => h ⟨by omega, g⟩)];refine Zj mixed (by kernel_rfl) (by kernel_rfl) ?_;simp (disch := omega) only [go_sem, seval]
  ·refine cD ?_ ?_ <;> intro h1 <;> simp (disch := omega) only [Sh.out h1, go_sem, seval]
   ·have : i = l.length := by omega
    subst this;obtain ⟨p1, p2⟩ := hpt (l.length - 1) (by omega);rw [ZlC hi (by omega)]
    have e1 : ((l.length : Int) - 1).toNat = l.length - 1 := by omega
    refine Zj mixed (by kernel_rfl) (by kernel_rfl) ?_;simp (disch := omega) only [go_sem, seval]
   ·have g1 : i < l.length := by omega
    rw [ZhJ hi (by omega) g1 (fun g => h ⟨g1, g⟩)];have g2 := UY hl g1 (i - 1) (by omega);obtain ⟨p1, p2⟩ := hpt i g1;obtain ⟨p3, p4⟩ := hpt (i - 1) (by omega)
    have e1 : ((i : Int) - 1).toNat = i - 1 := by omega
    have q1 := i2 (i - 1) (by omega);have q2 := i3 i (Nat.le_refl _) g1;have q3 : ¬ (nth l i).t = t := fun g => h ⟨g1, g⟩;have q4 := p2 (by omega);refine Jq [9, 10, 11] 12 mixed (by kernel_rfl) (by kernel_rfl) (by kernel_rfl) (by simp) ?_;simp (disch := omega) only [e1, go_sem, seval];refine ZaS 9 10 _ _ _ _ (by kernel_rfl) (by simp (disch := omega) only [go_sem, seval]; exact ⟨rfl, rfl⟩) (by simp (disch := omega) only [go_sem, seval]; exact ⟨rfl, rfl⟩) ?_ ?_
    ·refine YX 10 _ _ (by kernel_rfl) (by simp (disch := omega) only [go_sem, seval]; exact ⟨rfl, rfl⟩) (YX 11 _ _ (by kernel_rfl) (by simp (disch := omega) only [go_sem, seval]; exact ⟨rfl, rfl⟩) (JO ?_));simp (disch := omega) only [go_sem, seval];refine Zj mixed (by kernel_rfl) (by kernel_rfl) ?_;simp (disch := omega) only [go_sem, seval];exact congrArg (fun z => V.p (PV.int IntKind.i64 z)) (KA (by omega) (by omega) (by omega) (by omega) (by omega) (by omega) (by omega))
    ·refine YX 9 _ _ (by kernel_rfl) (by simp (disch := omega) only [go_sem, seval]; exact ⟨rfl, rfl⟩) (YX 11 _ _ (by kernel_rfl) (by simp (disch := omega) only [go_sem, seval]; exact ⟨rfl, rfl⟩) (JO ?_));simp (disch := omega) only [go_sem, seval];refine Zj mixed (by kernel_rfl) (by kernel_rfl) ?_;simp (disch := omega) only [go_sem, seval];exact congrArg (fun z => V.p (PV.int IntKind.i64 z)) (KA (by omega) (by omega) (by omega) (by omega) (by omega) (by omega) (by omega))
theorem Zgk (l : List Pt) (c : Bool) (t : Int) (hl : YI l) (ht : 0 <= t /\ t <= 1073741824) : PC 339 [.p (.list c (l.map ePt)), .p (.int .i64 t)] (.int .i64 (KK l t)) := by
 refine Za Tryz.func339 rfl Zqy ?_;simp (disch := omega) only [Tryz.f339, go_sem, seval];refine (ZcZ t 0 1073741824).use ?_;simp (disch := omega) only [go_sem, seval];simp (disch := omega) only [ht, go_sem, seval];refine (Zle l c hl).use ?_;simp (disch := omega) only [go_sem, seval];refine (Zdj l c t hl ht).use ?_;simp (disch := omega) only [go_sem, seval]
theorem Zcf (n : Net) (p : Int) (hn : n.places.length <= 1048576) : PC 321 [.p (ZcY n), .p (.int .i64 p)] (.bool (Uz n p)) := by
 refine Za Tryz.func321 rfl ZoO ?_;simp (disch := omega) only [Tryz.f321, go_sem, seval];refine gT ?_ ?_ <;> intro h <;> simp (disch := omega) only [Sh.out h, go_sem, seval]
 ·simp [Uz, h]
 ·simp [Uz, h]
theorem ZkA (a : Arc) : PC 338 [.p (Jd a)] (.agg [.int .i64 a.src, .int .i64 a.dst, .int .i64 a.prof]) := by
 refine Za Tryz.func338 rfl ZoV ?_;simp (disch := omega) only [Tryz.f338, go_sem, seval]
theorem ZlH (a : Arc) (t : Int) (ha : Zvl a) (ht : 0 <= t /\ t <= 1073741824) : PC 323 [.p (Jd a), .p (.int .i64 t)] (.int .i64 (Zj0 a t)) := by
 obtain ⟨h1, h2, h3⟩ := ha;have hr := JX h1 ht;have hs := Vy (t := t) (fun p hp => (h3 p hp).2.2);refine Za Tryz.func323 rfl Ztp ?_;simp (disch := omega) only [Tryz.f323, go_sem, seval];refine (Zgk a.travel a.travel_c t h1 ht).use ?_;simp (disch := omega) only [go_sem, seval];refine Zf [1, 13, 14] (fun k : Nat => [(5, .p (.int .i64 (KK a.travel t + UD a.slow t k))), (15, .p (.int .i64 k))]) (fun _ => [X4 a]) (fun k => k <= a.slow.length) (fun k => a.slow.length - k) 0 (by simp) (Weak.mk ?_) ?_
 ·simp (disch := omega) only [X4, UD, List.foldl_nil, go_sem, seval];simp
 ·intro k hk;have hsk := hs k hk;simp (disch := omega) only [X4, go_sem, seval];refine cD ?_ ?_ <;> intro h <;> simp (disch := omega) only [Sh.out h, go_sem, seval]
  ·have hk2 : k < a.slow.length := by omega
   have hp := h3 _ (Xm hk2);have hsn := Uf (t := t) hk2;refine cD ?_ ?_ <;> intro h4 <;> simp (disch := omega) only [Sh.out h4, go_sem, seval]
   ·rw [if_pos h4] at hsn;exact ⟨k + 1, by omega, by omega, Weak.mk (by simp (disch := omega) only [X4, hsn, Int.add_assoc, go_sem, seval])⟩
   ·rw [if_neg h4] at hsn;exact ⟨k + 1, by omega, by omega, Weak.mk (by simp (disch := omega) only [X4, hsn, go_sem, seval])⟩
  ·have hkl : k = a.slow.length := by omega
   subst hkl;simp only [Zj0]
theorem ZlB (n : Net) (pr f t : Int) (hn : n.arcs.length <= 1048576) : PT 322 [.p (ZcY n), .p (.int .i64 pr), .p (.int .i64 f), .p (.int .i64 t)] [.p (Jd (Yu n pr f t).1), .p (.bool (Yu n pr f t).2)] := by
 refine Zc [] Tryz.func322 rfl Zoc ?_;simp (disch := omega) only [Tryz.f322, go_sem, seval];refine Zf [8, 10, 18, 19] (fun k : Nat => [(20, .p (.int .i64 k))]) (fun _ => Zz n ++ [X4 XL, .cells [.p (.int .i64 f), .p (.int .i64 t), .p (.int .i64 pr)]]) (fun k => k <= n.arcs.length /\ ∀ j, j < k -> YJ pr f t (nth n.arcs j) = false) (fun k => n.arcs.length - k) 0 (by simp) (Weak.mk ?_) ?_
 ·simp (disch := omega) only [Zz, X4, XL, List.map_nil, List.cons_append, List.nil_append, go_sem, seval]
 ·rintro k ⟨hk, hno⟩;simp (disch := omega) only [Zz, X4, XL, List.map_nil, List.cons_append, List.nil_append, go_sem, seval];refine cD ?_ ?_ <;> intro h <;> simp (disch := omega) only [Sh.out h, go_sem, seval]
  ·have hk2 : k < n.arcs.length := by omega
   have nx : YJ pr f t (nth n.arcs k) = false -> ∀ j, j < k + 1 -> YJ pr f t (nth n.arcs j) = false := fun h => Zh.2 ⟨hno, h⟩;refine Zj mixed (by kernel_rfl) (by kernel_rfl) ?_;simp (disch := omega) only [go_sem, seval];refine Zt (ZkA (nth n.arcs k)) ?_;simp (disch := omega) only [go_sem, seval];refine cD ?_ ?_ <;> intro h1 <;> simp (disch := omega) only [Sh.out h1, go_sem, seval]
   ·have e := Zb0 hk2 hno (by simp [YJ, h1]);obtain ⟨rfl, rfl, rfl⟩ := h1;rw [e];exact we
   ·have e2 : YJ pr f t (nth n.arcs k) = false := by
     cases hq : YJ pr f t (nth n.arcs k) with
     | false => rfl
     | true => simp only [YJ, Bool.and_eq_true, decide_eq_true_eq] at hq; exact absurd ⟨hq.1.1, hq.1.2, hq.2⟩ h1
    exact ⟨k + 1, ⟨by omega, nx e2⟩, by omega, Weak.mk (by simp (disch := omega) only [Zz, X4, XL, List.map_nil, List.cons_append, List.nil_append, go_sem, seval])⟩
  ·have hkn : k = n.arcs.length := by omega
   subst hkn;rw [ZcL hno];exact we (by simp (disch := omega) only [XL, List.map_nil, go_sem, seval])
theorem Zx6 (n : Net) (pr f t τ : Int) (hn : netR n) (hτ : 0 <= τ /\ τ <= 1073741824) : PT 294 [.p (ZcY n), .p (.int .i64 pr), .p (.int .i64 f), .p (.int .i64 t), .p (.int .i64 τ)] [.p (.int .i64 (goN n pr f t τ).1), .p (.int .i64 (goN n pr f t τ).2.1), .p (.int .i64 (goN n pr f t τ).2.2)] := by
 refine Zc [] Tryz.func294 rfl Zpi ?_;simp (disch := omega) only [Tryz.f294, go_sem, seval];refine (Zcf n f hn.1).use ?_;simp (disch := omega) only [go_sem, seval];refine gF ?_ ?_ <;> intro h1 <;> simp (disch := omega) only [Sh.out h1, go_sem, seval]
 ·have e : goN n pr f t τ = (0, 0, 11) := by simp only [Bool.not_eq_true'] at h1; simp [goN, h1]
  rw [e];exact we
 ·simp only [Bool.not_eq_false'] at h1;refine (Zcf n t hn.1).use ?_;simp (disch := omega) only [go_sem, seval];refine cD ?_ ?_ <;> intro h2 <;> simp (disch := omega) only [Sh.out h2, go_sem, seval]
  ·have e : goN n pr f t τ = (0, 0, 11) := by simp only [Bool.not_eq_true'] at h2; simp [goN, h2]
   rw [e];exact we
  ·simp only [Bool.not_eq_false'] at h2;refine cD ?_ ?_ <;> intro h3 <;> simp (disch := omega) only [Sh.out h3, go_sem, seval]
   ·have e : goN n pr f t τ = (τ, 0, 0) := by simp [goN, h1, h2, h3]
    rw [e];exact we
   ·have cf := ZlB n pr f t hn.2.1;have hm := @Qs n pr f t
    have e0 : goN n pr f t τ = if (Yu n pr f t).2 = true then (Zj0 (Yu n pr f t).1 τ, (Yu n pr f t).1.miles, 0) else (0, 0, 12) := by simp [goN, h1, h2, h3]
    rw [e0];generalize Yu n pr f t = A at cf hm ⊢;obtain ⟨a, b⟩ := A;simp only at cf hm ⊢;refine Xp cf ?_;simp (disch := omega) only [go_sem, seval];refine cD ?_ ?_ <;> intro h4 <;> simp (disch := omega) only [Sh.out h4, go_sem, seval]
    ·have hb : b = false := by simpa using h4
     subst hb;exact we
    ·have hb : b = true := by simpa using h4
     subst hb;refine Zj mixed (by kernel_rfl) (by kernel_rfl) ?_;simp (disch := omega) only [go_sem, seval];refine Zt (ZlH a τ (hn.2.2 a (hm rfl)) hτ) ?_;simp (disch := omega) only [go_sem, seval];exact we
theorem ZkU (x : Inst) (pr f t τ : Int) (hn : netR x.net) (hτ : 0 <= τ /\ τ <= 1073741824) : PT 336 [.p (Zy x), .p (.int .i64 pr), .p (.int .i64 f), .p (.int .i64 t), .p (.int .i64 τ)] [.p (.int .i64 (goN x.net pr f t τ).1), .p (.int .i64 (goN x.net pr f t τ).2.1), .p (.bool (decide ((goN x.net pr f t τ).2.2 = 0)))] := by
 refine Zc [] Tryz.func336 rfl Zrs ?_;simp (disch := omega) only [Tryz.f336, go_sem, seval];refine J7 (Zpt x.net pr f t τ hn hτ) ?_;simp (disch := omega) only [go_sem, seval];exact we
structure StD where
 place : Int
 time : Int
 driven : Int
 miles : Int
def ZnP (s : StD) : PV := .agg [.int .i64 s.place, .int .i64 s.time, .int .i64 s.driven, .int .i64 s.miles]
@[go_sem] theorem Zyl (s : StD) : ZnP s = .agg [.int .i64 s.place, .int .i64 s.time, .int .i64 s.driven, .int .i64 s.miles] := Eq.trans rfl rfl
def Zba (t : Typ) (s : StD) (b : Bool) : StD := if b = true then { s with time := s.time + t.rest, driven := 0 } else s
theorem ZcP (t : Typ) (s : StD) (b : Bool) (hb : -1099511627776 <= s.time /\ s.time <= 1099511627776 /\ -1099511627776 <= t.rest /\ t.rest <= 1099511627776) : PC 316 [.p (Jk t), .p (ZnP s), .p (.bool b)] (ZnP (Zba t s b)) := by
 refine Za Tryz.func316 rfl Zsk ?_
 cases b with
 | true => simp (disch := omega) only [Tryz.f316, Zba, go_sem, seval]
 | false => simp (disch := omega) only [Tryz.f316, Zba, Bool.false_eq_true, go_sem, seval]
def V4 (x : Inst) (t : Typ) (s : StD) (to cl late : Int) : StD × Int :=
 if ¬ (goN x.net t.prof s.place to s.time).2.2 = 0 then (s, 12)
 else if cl < (goN x.net t.prof s.place to s.time).1 then (s, late)
 else if t.drive < s.driven + (goN x.net t.prof s.place to s.time).1 - s.time then (s, 16)
 else (⟨to, (goN x.net t.prof s.place to s.time).1, s.driven + (goN x.net t.prof s.place to s.time).1 - s.time, s.miles + (goN x.net t.prof s.place to s.time).2.1⟩, 0)
def Sml (n : Int) : Prop := -1099511627776 <= n /\ n <= 1099511627776
theorem ZcM (x : Inst) (t : Typ) (s : StD) (to cl late : Int) (hn : netR x.net) (hs : 0 <= s.time /\ s.time <= 1073741824) (hd : Sml s.driven) (hm : Sml s.miles) (hg : Sml (goN x.net t.prof s.place to s.time).1 /\ Sml (goN x.net t.prof s.place to s.time).2.1) :
  PT 317 [.p (Zy x), .p (Jk t), .p (ZnP s), .p (.int .i64 to), .p (.int .i64 cl), .p (.int .i64 late)] [.p (ZnP (V4 x t s to cl late).1), .p (.int .i64 (V4 x t s to cl late).2)] := by
 have cw := ZkU x t.prof s.place to s.time hn hs;unfold V4;generalize goN x.net t.prof s.place to s.time = g at cw hg ⊢;obtain ⟨a, m, e⟩ := g;unfold Sml at hd hm hg;simp only at cw hg ⊢;refine Zc [] Tryz.func317 rfl ZpS ?_;simp (disch := omega) only [Tryz.f317, go_sem, seval];refine J7 cw ?_;simp (disch := omega) only [go_sem, seval];refine cD ?_ ?_ <;> intro h1 <;> simp (disch := omega) only [Sh.out h1, go_sem, seval]
 ·exact we
 ·rw [if_neg h1];refine cD ?_ ?_ <;> intro h2 <;> simp (disch := omega) only [Sh.out h2, go_sem, seval]
  ·exact we
  ·rw [if_neg h2];refine cD ?_ ?_ <;> intro h3 <;> simp (disch := omega) only [Sh.out h3, go_sem, seval]
   ·exact we
   ·exact we
structure Lab where
 ready : Int
 since : Int
 she : She
 deriving Inhabited
def zShe : She := ⟨false, 0, true, [], 0, 0⟩
def WJ : Lab := ⟨0, 0, zShe⟩
def ZX (t : Typ) (L : Lab) (b : Bool) : Int := if b = true then L.ready + t.rest else L.ready
def Vm (L : Lab) (b : Bool) : Int := if b = true then 0 else L.since
def ZhZ (l : List Tim) (k : Nat) (d : Int) (b : Bool) : List Tim := l.set k { nth l k with dep := d, rest := b }
def Xu (k : Nat) (d : Int) (b : Bool) (s : She) : She := if k = 0 then { s with rest := b, dep := d } else { s with times := ZhZ s.times (k - 1) d b }
def Kn (t : Typ) (sp : List Stp) (k : Nat) : Int := if k = 0 then t.src else (nth sp (k - 1)).place
def toF (t : Typ) (sp : List Stp) (k : Nat) : Int := if k = sp.length then t.dst else (nth sp k).place
def goL (x : Inst) (t : Typ) (sp : List Stp) (k : Nat) (d : Int) : Int × Int × Int := goN x.net t.prof (Kn t sp k) (toF t sp k) d
def Vk (t : Typ) (sp : List Stp) (k : Nat) (g : Int × Int × Int) (d s : Int) (h : She) : Lab × Int :=
 if ¬ g.2.2 = 0 then (WJ, 12)
 else if k = sp.length then
  if t.cls < g.1 then (WJ, 15) else if t.drive < s + g.1 - d then (WJ, 16)
  else (⟨g.1, s + g.1 - d, { h with fin := g.1, miles := h.miles + g.2.1 }⟩, 0)
 else if (nth sp k).cls < max g.1 (nth sp k).opn then (WJ, 14)
 else if t.drive < s + g.1 - d then (WJ, 16)
 else (⟨max g.1 (nth sp k).opn + (nth sp k).serv, s + g.1 - d, { h with times_c := false, times := h.times ++ [⟨g.1, max g.1 (nth sp k).opn, 0, false⟩], miles := h.miles + g.2.1 }⟩, 0)
def Y8 (x : Inst) (t : Typ) (sp : List Stp) (k : Nat) (L : Lab) (b : Bool) : Lab × Int :=
 Vk t sp k (goL x t sp k (ZX t L b)) (ZX t L b) (Vm L b) (Xu k (ZX t L b) b L.she)
def X6 (x : Inst) (t : Typ) (sp : List Stp) (k : Nat) (L : Lab) (b : Bool) : Option Lab := if (Y8 x t sp k L b).2 = 0 then some (Y8 x t sp k L b).1 else none
def X9 (x : Inst) (t : Typ) (sp : List Stp) : Nat -> Lab -> List Bool -> Lab × Int
 | _, L, [] => (L, 0)
 | k, L, b :: bs => if (Y8 x t sp k L b).2 = 0 then X9 x t sp (k + 1) (Y8 x t sp k L b).1 bs else (WJ, (Y8 x t sp k L b).2)
def X1 (t : Typ) (st : Int) : Lab := ⟨max t.opn st, 0, zShe⟩
theorem WE {x : Inst} {t : Typ} {sp : List Stp} : ∀ (bs : List Bool) (k : Nat) (L : Lab), Ur (X6 x t sp) k L bs = if (X9 x t sp k L bs).2 = 0 then some (X9 x t sp k L bs).1 else none
 | [], k, L => by simp [Ur, X9]
 | b :: bs, k, L => by
  rw [Ur, X9, X6]
  by_cases h : (Y8 x t sp k L b).2 = 0
  ·simp only [h, if_true];exact WE bs (k + 1) _
  ·simp [h]
structure TrpOk (x : Inst) (t : Typ) (sp : List Stp) : Prop where
 net : netR x.net
 mil : ∀ a ∈ x.net.arcs, 0 <= a.miles /\ a.miles <= 10000
 opn : 0 <= t.opn /\ t.opn <= t.cls /\ t.cls <= 4096
 drv : 1 <= t.drive /\ t.drive <= 4096
 rst : 0 <= t.rest /\ t.rest <= 4096
 stp : ∀ s ∈ sp, 0 <= s.opn /\ s.opn <= s.cls /\ s.cls <= 4096 /\ 0 <= s.serv /\ s.serv <= 4096
 len : sp.length <= 20
structure LabR (k : Nat) (L : Lab) : Prop where
 rdy : 0 <= L.ready /\ L.ready <= 8192
 snc : -(12288 * (k : Int)) <= L.since /\ L.since <= 4096
 mil : 0 <= L.she.miles /\ L.she.miles <= 10000 * (k : Int)
theorem Zme {n : Net} {pr f t τ : Int} (hn : netR n) (hm : ∀ a ∈ n.arcs, 0 <= a.miles /\ a.miles <= 10000) (hτ : 0 <= τ /\ τ <= 1073741824) : (0 <= (goN n pr f t τ).1 /\ (goN n pr f t τ).1 <= 1107369984) /\ (0 <= (goN n pr f t τ).2.1 /\ (goN n pr f t τ).2.1 <= 10000) := by
 unfold goN
 split
 ·simp
 ·split
  ·simp only; omega
  ·split
   ·rename_i h;have hA := Qs h;have h1 := JX (hn.2.2 _ hA).1 hτ;have h2 := Vy (t := τ) (fun p hp => ((hn.2.2 _ hA).2.2 p hp).2.2) _ (Nat.le_refl _);have h3 := (hn.2.2 _ hA).2.1;have h4 := hm _ hA;simp only [Zj0];omega
   ·simp
theorem Vn {x t sp k L} (h : TrpOk x t sp) (hl : LabR k L) (b : Bool) : 0 <= ZX t L b /\ ZX t L b <= 12288 := by
 have := h.rst;have := hl.rdy;unfold ZX
 split <;> omega
theorem J8 {k L} (hl : LabR k L) (b : Bool) : -(12288 * (k : Int)) <= Vm L b /\ Vm L b <= 4096 := by
 have := hl.snc;unfold Vm
 split <;> omega
theorem Zbf {x t sp k L} (h : TrpOk x t sp) (hl : LabR k L) (b : Bool) : (0 <= (goL x t sp k (ZX t L b)).1 /\ (goL x t sp k (ZX t L b)).1 <= 1107369984) /\ (0 <= (goL x t sp k (ZX t L b)).2.1 /\ (goL x t sp k (ZX t L b)).2.1 <= 10000) := by
 have := Vn h hl b;exact Zme h.net h.mil (by omega)
theorem Vc {k d b s} : (Xu k d b s).miles = s.miles := by unfold Xu; split <;> rfl
theorem Zag {k d b s} : (Xu k d b s).fin = s.fin := by unfold Xu; split <;> rfl
theorem Vv {k d b s} : (Xu k d b s).times.length = s.times.length := by unfold Xu; split <;> simp [ZhZ]
theorem Zby {x t sp k L b} (h : TrpOk x t sp) (hk : k <= sp.length) (hl : LabR k L) (he : (Y8 x t sp k L b).2 = 0) : LabR (k + 1) (Y8 x t sp k L b).1 := by
 have h1 := Vn h hl b;have h2 := J8 hl b;obtain ⟨h3, h4⟩ := Zbf h hl b;have h5 := hl.mil;have h6 := h.opn;have h7 := h.drv;have hm : (Xu k (ZX t L b) b L.she).miles = L.she.miles := Vc;unfold Y8 at he ⊢
 generalize goL x t sp k (ZX t L b) = g at *
 generalize ZX t L b = d at *
 generalize Vm L b = s at *
 generalize Xu k d b L.she = m at *
 unfold Vk at he ⊢
 split at he
 ·simp at he
 ·rename_i c1;rw [if_neg c1]
  split at he
  ·rename_i c2;rw [if_pos c2]
   split at he
   ·simp at he
   ·rename_i c3;rw [if_neg c3]
    split at he
    ·simp at he
    ·rename_i c4;rw [if_neg c4];exact ⟨by simp only; omega, by simp only; omega, by simp only; omega⟩
  ·rename_i c2;rw [if_neg c2];have h8 := h.stp _ (Xm (show k < sp.length by omega))
   split at he
   ·simp at he
   ·rename_i c3;rw [if_neg c3]
    split at he
    ·simp at he
    ·rename_i c4;rw [if_neg c4];exact ⟨by simp only; omega, by simp only; omega, by simp only; omega⟩
theorem Jm {x t sp k L b} (hl : L.she.times.length = k) (he : (Y8 x t sp k L b).2 = 0) (hk : k < sp.length) : (Y8 x t sp k L b).1.she.times.length = k + 1 := by
 have hm : (Xu k (ZX t L b) b L.she).times.length = L.she.times.length := Vv;unfold Y8 at he ⊢
 generalize goL x t sp k (ZX t L b) = g at *
 generalize ZX t L b = d at *
 generalize Vm L b = s at *
 generalize Xu k d b L.she = m at *
 have hk2 : ¬ k = sp.length := by omega
 unfold Vk at he ⊢;simp only [if_neg hk2] at he ⊢
 split at he
 ·simp at he
 ·rename_i c1;rw [if_neg c1]
  split at he
  ·simp at he
  ·rename_i c3;rw [if_neg c3]
   split at he
   ·simp at he
   ·rename_i c4;rw [if_neg c4];simp [hm, hl]
def ZK (m x : Lab) : Bool := decide (m.ready = x.ready) && decide (m.since <= x.since)
theorem Zdy {x t sp k} {m y z : Lab} {b : Bool} (hb : ZK m y = true) (hn : X6 x t sp k y b = some z) : ∃ u, X6 x t sp k m b = some u /\ ZK u z = true := by
 simp only [ZK, Bool.and_eq_true, decide_eq_true_eq] at hb;obtain ⟨hb1, hb2⟩ := hb
 have hd : ZX t m b = ZX t y b := by simp [ZX, hb1]
 have hs : Vm m b <= Vm y b := by unfold Vm; split <;> omega
 unfold X6 at hn ⊢;unfold Y8 at hn ⊢;rw [hd]
 generalize goL x t sp k (ZX t y b) = g at *
 generalize ZX t y b = d at *
 generalize Vm y b = s at *
 generalize Vm m b = s2 at *
 generalize Xu k d b y.she = h1 at *
 generalize Xu k d b m.she = h2 at *
 unfold Vk at hn ⊢
 by_cases c1 : g.2.2 = 0
 ·by_cases c2 : k = sp.length
  ·simp only [c1, c2, not_true, if_true, if_false] at hn ⊢
   by_cases c3 : t.cls < g.1
   ·simp [c3] at hn
   ·by_cases c4 : t.drive < s + g.1 - d
    ·simp [c3, c4] at hn
    ·have c5 : ¬ t.drive < s2 + g.1 - d := by omega
     simp only [c3, c4, if_false, if_true, Option.some.injEq] at hn;subst hn;refine ⟨_, by simp only [c3, c5, if_false, if_true]; rfl, ?_⟩;simp [ZK]; omega
  ·simp only [c1, c2, not_true, if_true, if_false] at hn ⊢
   by_cases c3 : (nth sp k).cls < max g.1 (nth sp k).opn
   ·simp [c3] at hn
   ·by_cases c4 : t.drive < s + g.1 - d
    ·simp [c3, c4] at hn
    ·have c5 : ¬ t.drive < s2 + g.1 - d := by omega
     simp only [c3, c4, if_false, if_true, Option.some.injEq] at hn;subst hn;refine ⟨_, by simp only [c3, c5, if_false, if_true]; rfl, ?_⟩;simp [ZK]; omega
 ·simp [c1] at hn
def WP (L : Lab) : Int := L.she.fin
theorem Zct {x t sp} {y z : Lab} {b : Bool} (hn : X6 x t sp sp.length y b = some z) : z.she.fin = z.ready := by
 unfold X6 Y8 Vk at hn
 by_cases c1 : (goL x t sp sp.length (ZX t y b)).2.2 = 0
 ·by_cases c3 : t.cls < (goL x t sp sp.length (ZX t y b)).1
  ·simp [c1, c3] at hn
  ·by_cases c4 : t.drive < Vm y b + (goL x t sp sp.length (ZX t y b)).1 - ZX t y b
   ·simp [c1, c3, c4] at hn
   ·simp only [c1, c3, c4, not_true, if_true, if_false, Option.some.injEq] at hn;subst hn; rfl
 ·simp [c1] at hn
theorem ZaK {x t sp} (ch : Nat -> List Bool) (L : Lab) : fmL WP none (UE ZK (X6 x t sp) ch (sp.length + 1) 0 [L]) = fmL WP none (YB (X6 x t sp) ch (sp.length + 1) 0 L) := by
 have h := ZeR WP ZK (X6 x t sp) ch (n := sp.length + 1) (Inv := fun k y => k = sp.length + 1 -> y.she.fin = y.ready)
  (fun k y b z _ hn hk => by
   have : k = sp.length := by omega
   subst this
   exact Zct hn) (fun k m y b z _ _ hb hn => Zdy hb hn)
  (fun m y h1 h2 hb => by
   simp only [ZK, Bool.and_eq_true, decide_eq_true_eq] at hb
   rw [WP, WP, h1 rfl, h2 rfl]; omega) (sp.length + 1) 0 [L] (by omega) (fun y _ hk => by omega)
 rw [h]; simp
def chF (r : List Bool) (k : Nat) : List Bool := match r[k]? with | some b => [b] | none => [false, true]
theorem Ze4 (r : List Bool) (n : Nat) (hn : r.length <= n) : ∀ (j k : Nat), k + j = r.length -> Zib (chF r) (n - k) k = (Yf (List.replicate (n - r.length) false)).map (r.drop k ++ ·)
 | 0, k, h => by
  have hk : k = r.length := by omega
  subst hk;rw [Zb6 (n := n) _ _ _ (fun q hq => by simp [chF, List.getElem?_eq_none hq])];simp
 | j + 1, k, h => by
  have e : n - k = (n - (k + 1)) + 1 := by omega
  have hlt : k < r.length := by omega
  rw [e, Zib, Ze4 r n hn j (k + 1) (by omega)]
  have : chF r k = [r[k]] := by simp [chF, hlt]
  rw [this, List.flatMap_cons, List.flatMap_nil, List.append_nil, List.map_map, List.drop_eq_getElem_cons hlt]
  rfl
theorem KO (r : List Bool) (n : Nat) (hn : r.length <= n) : Zib (chF r) n 0 = (Yf (List.replicate (n - r.length) false)).map (r ++ ·) := by
 have := Ze4 r n hn r.length 0 (by omega);simpa using this
def YY (r : List Bool) (n : Nat) : List (List Bool) := (Yf (List.replicate (n - r.length) false)).map (r ++ ·)
def W4 (r : List Bool) (n : Nat) : List Bool := r ++ List.replicate (n - r.length) false
def UB (x : Inst) (t : Typ) (sp : List Stp) (st : Int) (r : List Bool) : She × Int :=
 match fmL WP none ((YY r (sp.length + 1)).filterMap (Ur (X6 x t sp) 0 (X1 t st))) with
 | some L => (L.she, 0)
 | none => (zShe, (X9 x t sp 0 (X1 t st) (W4 r (sp.length + 1))).2)
theorem Zaq {x t sp} {st : Int} {r : List Bool} (hr : r.length <= sp.length + 1) : UB x t sp st r = match fmL WP none (UE ZK (X6 x t sp) (chF r) (sp.length + 1) 0 [X1 t st]) with
 | some L => (L.she, 0)
 | none => (zShe, (X9 x t sp 0 (X1 t st) (W4 r (sp.length + 1))).2) := by
 rw [ZaK, YB, KO r _ hr]; rfl
theorem Zce {x t sp} : ∀ (bs : List Bool) (k : Nat) (L : Lab), L.she.times.length = k -> k + bs.length = sp.length + 1 -> 0 < bs.length -> (X9 x t sp k L bs).2 = 0 -> (X9 x t sp k L bs).1.she.times.length = sp.length
 | [], k, L, h1, h2, h3, h => by simp at h3
 | b :: bs, k, L, h1, h2, _, h => by
  rw [X9] at h ⊢
  by_cases h4 : (Y8 x t sp k L b).2 = 0
  ·simp only [h4, if_true] at h ⊢
   cases bs with
   | nil =>
    simp at h2;subst h2;rw [X9];unfold Y8 at h4 ⊢;unfold Vk at h4 ⊢
    split at h4
    ·simp at h4
    ·rename_i c1;rw [if_neg c1];simp only [if_true] at h4 ⊢
     split at h4
     ·simp at h4
     ·rename_i c2;rw [if_neg c2]
      split at h4
      ·simp at h4
      ·rename_i c3;rw [if_neg c3];simp [Vv, h1]
   | cons b2 bs =>
    simp at h2;exact Zce (b2 :: bs) (k + 1) _ (Jm h1 h4 (by omega)) (by simp; omega) (by simp) h
  ·simp [h4] at h
theorem bestF_len {x t sp} {st : Int} {r : List Bool} (hr : r.length <= sp.length + 1) (h : (UB x t sp st r).2 = 0) : (UB x t sp st r).1.times.length = sp.length := by
 unfold UB at h ⊢
 cases hf : fmL WP none ((YY r (sp.length + 1)).filterMap (Ur (X6 x t sp) 0 (X1 t st))) with
 | none =>
  rw [hf] at h;simp only at h ⊢;exfalso
  have hm : W4 r (sp.length + 1) ∈ YY r (sp.length + 1) := by
   unfold YY W4;rw [fromB_next];simp
  have h2 : Ur (X6 x t sp) 0 (X1 t st) (W4 r (sp.length + 1)) = some (X9 x t sp 0 (X1 t st) (W4 r (sp.length + 1))).1 := by rw [WE, if_pos h]
  have h3 : (X9 x t sp 0 (X1 t st) (W4 r (sp.length + 1))).1 ∈ (YY r (sp.length + 1)).filterMap (Ur (X6 x t sp) 0 (X1 t st)) := List.mem_filterMap.2 ⟨_, hm, h2⟩;generalize (YY r (sp.length + 1)).filterMap (Ur (X6 x t sp) 0 (X1 t st)) = l at hf h3
  cases l with
  | nil => simp at h3
  | cons a l =>
   rw [fmL] at hf;obtain ⟨z, e, _⟩ := VQ WP l a;rw [e] at hf
   cases hf
 | some L =>
  simp only;have hm := fmL_mem _ _ hf;obtain ⟨bs, hbs, hrun⟩ := List.mem_filterMap.1 hm;rw [WE] at hrun
  split at hrun
  ·rename_i h5;simp at hrun;subst hrun;obtain ⟨q, hq, rfl⟩ := List.mem_map.1 hbs;have hql := fromB_len _ _ hq;simp at hql;exact Zce _ 0 _ rfl (by simp [hql]; omega) (by simp [hql]; omega) h5
  ·cases hrun
where
 fmL_mem : ∀ (l : List Lab) (L : Lab), fmL WP none l = some L -> L ∈ l
 | [], L, h => by simp [fmL] at h
 | a :: l, L, h => by
  rw [fmL] at h;exact fmL_mem2 l a L h
 fmL_mem2 : ∀ (l : List Lab) (a L : Lab), fmL WP (some a) l = some L -> L ∈ a :: l
 | [], a, L, h => by simp [fmL] at h; subst h; simp
 | y :: l, a, L, h => by
  rw [fmL] at h
  split at h
  ·have := fmL_mem2 l y L h; simp only [List.mem_cons] at this ⊢; rcases this with h | h <;> simp [h]
  ·have := fmL_mem2 l a L h; simp only [List.mem_cons] at this ⊢; rcases this with h | h <;> simp [h]
 fromB_len : ∀ (l q : List Bool), q ∈ Yf l -> q.length = l.length
 | [], q, h => by simp [Yf] at h; subst h; rfl
 | b :: bs, q, h => by
  rw [Yf] at h
  split at h
  ·obtain ⟨q', hq, rfl⟩ := List.mem_map.1 h;simp [fromB_len bs q' hq]
  ·rcases List.mem_append.1 h with h | h
   ·obtain ⟨q', hq, rfl⟩ := List.mem_map.1 h;simp [fromB_len bs q' hq]
   ·obtain ⟨q', hq, rfl⟩ := List.mem_map.1 h;simp [fromB_len (List.replicate bs.length false) q' hq]
 termination_by l => l.length
 decreasing_by all_goals simp
def XH (x : Inst) (v : Vis) : Stp := if v.drp = true then (nth x.orders v.order.toNat).drp else (nth x.orders v.order.toNat).pick
def ZY (x : Inst) (l : List Vis) : List Stp := l.map (XH x)
def Ym (t : Typ) (s : Int) : Bool := decide (0 <= t.skills) && decide (0 <= s) && (List.range 63).all fun i => !s.toNat.testBit i || t.skills.toNat.testBit i
def YT (a c : List Int) : Bool := decide (a.length = c.length) && (List.range a.length).all fun i => decide (nth a i <= nth c i)
def VH (x : Inst) (c : List Int) (l : List Vis) : Bool := (List.range (l.length + 1)).all fun n => YT (Wi x l n) c
def Z2 (x : Inst) (r : Rte) : Typ := nth x.types r.typ.toNat
def Wc (l : List Vis) (i : Nat) : Bool := !((l.take i).any fun v => decide (v.order = (nth l i).order))
def ZJ (k t : Int) : Bool := decide (k ≠ -1) && decide (k ≠ t)
def chgF (x : Inst) (l : List Vis) (t : Int) : Nat -> Int × Int
 | 0 => (0, 0)
 | n + 1 => if Wc l n = true then ((chgF x l t n).1 + (if ZJ (nth x.orders (nth l n).order.toNat).now t = true then 1 else 0), (chgF x l t n).2 + (if ZJ (nth x.orders (nth l n).order.toNat).last t = true then 1 else 0)) else chgF x l t n
def Zjw (x : Inst) (r : Rte) (s : She) : Sco :=
 ⟨(Z2 x r).fixed + (Z2 x r).perMile * s.miles + (Z2 x r).perTick * (s.fin - (Z2 x r).opn), (chgF x r.visits r.typ r.visits.length).1, (chgF x r.visits r.typ r.visits.length).2, (s.fin - (Z2 x r).opn).tdiv 64 * (s.fin - (Z2 x r).opn).tdiv 64⟩
def XM (x : Inst) (r : Rte) : Int :=
 if ¬ (0 <= r.typ /\ r.typ < (x.types.length : Int)) then 2
 else if ¬ ZW x r.visits = 0 then ZW x r.visits
 else if (r.visits.any fun v => !Ym (Z2 x r) (nth x.orders v.order.toNat).skills) = true then 18
 else if VH x (Z2 x r).cap r.visits = false then 17
 else if ¬ (0 <= r.start /\ r.start <= 4096 /\ r.rests.length <= r.visits.length + 1) then 2
 else 0
def Xf (x : Inst) (r : Rte) : She × Int := UB x (Z2 x r) (ZY x r.visits) r.start r.rests
def XO (x : Inst) (r : Rte) : Int := if XM x r = 0 then (Xf x r).2 else XM x r
def Vi (x : Inst) (r : Rte) : She := if XO x r = 0 then (Xf x r).1 else zShe
def Qj (x : Inst) (r : Rte) : Sco := if XO x r = 0 then Zjw x r (Xf x r).1 else zSco
def ZyH : Stp := ⟨0, 0, 0, 0⟩
def inB (x : Inst) (v : Vis) : Bool := decide (0 <= v.order) && decide (v.order < (x.orders.length : Int))
def Kj (x : Inst) (v : Vis) : Bool := inB x v && decide (0 <= (XH x v).place)
def JL (x : Inst) (v : Vis) : Stp := if inB x v = true then XH x v else ZyH
theorem ZcJ (x : Inst) (v : Vis) (ho : x.orders.length <= 1048576) : PT 287 [.p (Zy x), .p (eVis v)] [.p (ZiY (JL x v)), .p (.bool (Kj x v))] := by
 refine Zc [] Tryz.func287 rfl ZsT ?_;simp (disch := omega) only [Tryz.f287, go_sem, seval];refine gF ?_ ?_ <;> intro h1 <;> simp (disch := omega) only [Sh.out h1, go_sem, seval]
 ·have e : inB x v = false := by
   have : ¬ 0 <= v.order := by omega
   simp [inB, this]
  simp only [JL, Kj, e, Bool.false_and, Bool.false_eq_true, if_false, ZyH];exact we
 ·refine cD ?_ ?_ <;> intro h2 <;> simp (disch := omega) only [Sh.out h2, go_sem, seval]
  ·have e : inB x v = false := by
    have : ¬ v.order < (x.orders.length : Int) := by omega
    simp [inB, this]
   simp only [JL, Kj, e, Bool.false_and, Bool.false_eq_true, if_false, ZyH];exact we
  ·have e : inB x v = true := by simp [inB]; omega
   have hi : v.order.toNat < x.orders.length := by omega
   refine cD ?_ ?_ <;> intro hd <;> simp (disch := omega) only [Sh.out hd, go_sem, seval]
   ·have hG : JL x v = (nth x.orders v.order.toNat).drp := by simp [JL, e, XH, hd]
    have hV : Kj x v = decide (0 <= (nth x.orders v.order.toNat).drp.place) := by simp [Kj, e, XH, hd]
    rw [hG, hV];refine Zca (.cons 0 (.cons 1 (.cons 2 (.cons 3 (.cons 4 (.cons 5 .nil .nil) .nil) (.cons 4 (.cons 3 (.cons 5 .nil .nil) .nil) .nil)) (.cons 4 (.cons 2 (.cons 3 (.cons 5 .nil .nil) .nil) .nil) .nil)) (.cons 4 (.cons 1 (.cons 2 (.cons 3 (.cons 5 .nil .nil) .nil) .nil) .nil) .nil)) (.cons 1 (.cons 0 (.cons 2 (.cons 3 (.cons 4 (.cons 5 .nil .nil) .nil) (.cons 4 (.cons 3 (.cons 5 .nil .nil) .nil) .nil)) (.cons 4 (.cons 2 (.cons 3 (.cons 5 .nil .nil) .nil) .nil) .nil)) (.cons 2 (.cons 0 (.cons 3 (.cons 4 (.cons 5 .nil .nil) .nil) (.cons 4 (.cons 3 (.cons 5 .nil .nil) .nil) .nil)) (.cons 3 (.cons 0 (.cons 4 (.cons 5 .nil .nil) .nil) .nil) .nil)) .nil)) .nil)) mixed (by kernel_rfl) ?_
    simp (disch := omega) only [go_sem, seval]
    repeat' first
     | refine KQ ?_ ?_
     | exact we
     | simp (disch := omega) only [go_sem, seval]
   ·have hG : JL x v = (nth x.orders v.order.toNat).pick := by simp [JL, e, XH, hd]
    have hV : Kj x v = decide (0 <= (nth x.orders v.order.toNat).pick.place) := by simp [Kj, e, XH, hd]
    rw [hG, hV];refine Zca (.cons 0 (.cons 1 (.cons 2 (.cons 3 (.cons 4 (.cons 5 .nil .nil) .nil) (.cons 4 (.cons 3 (.cons 5 .nil .nil) .nil) .nil)) (.cons 4 (.cons 2 (.cons 3 (.cons 5 .nil .nil) .nil) .nil) .nil)) (.cons 4 (.cons 1 (.cons 2 (.cons 3 (.cons 5 .nil .nil) .nil) .nil) .nil) .nil)) (.cons 1 (.cons 0 (.cons 2 (.cons 3 (.cons 4 (.cons 5 .nil .nil) .nil) (.cons 4 (.cons 3 (.cons 5 .nil .nil) .nil) .nil)) (.cons 4 (.cons 2 (.cons 3 (.cons 5 .nil .nil) .nil) .nil) .nil)) (.cons 2 (.cons 0 (.cons 3 (.cons 4 (.cons 5 .nil .nil) .nil) (.cons 4 (.cons 3 (.cons 5 .nil .nil) .nil) .nil)) (.cons 3 (.cons 0 (.cons 4 (.cons 5 .nil .nil) .nil) .nil) .nil)) .nil)) .nil)) mixed (by kernel_rfl) ?_
    simp (disch := omega) only [go_sem, seval]
    repeat' first
     | refine KQ ?_ ?_
     | exact we
     | simp (disch := omega) only [go_sem, seval]
def Wu (x : Inst) (r : Rte) : Bool := (decide (0 <= r.typ) && decide (r.typ < (x.types.length : Int)) && decide (0 <= r.start) && decide (r.start <= 4096) && decide (r.visits.length <= 20)) && r.visits.all (Kj x)
theorem Kh (x : Inst) (r : Rte) (ho : x.orders.length <= 1048576) (ht : x.types.length <= 1048576) (hl : r.visits.length <= 1048576) : PC 228 [.p (Zy x), .p (Yq r)] (.bool (Wu x r)) := by
 refine Za Tryz.func228 rfl Zqg ?_;simp (disch := omega) only [Tryz.f228, go_sem, seval];refine gF ?_ ?_ <;> intro h1 <;> simp (disch := omega) only [Sh.out h1, go_sem, seval]
 ·simp [Wu]; omega
 ·refine gF ?_ ?_ <;> intro h2 <;> simp (disch := omega) only [Sh.out h2, go_sem, seval]
  ·simp [Wu]; omega
  ·refine gF ?_ ?_ <;> intro h3 <;> simp (disch := omega) only [Sh.out h3, go_sem, seval]
   ·simp [Wu]; omega
   ·refine gF ?_ ?_ <;> intro h4 <;> simp (disch := omega) only [Sh.out h4, go_sem, seval]
    ·simp [Wu]; omega
    ·refine cD ?_ ?_ <;> intro h5 <;> simp (disch := omega) only [Sh.out h5, go_sem, seval]
     ·simp [Wu]; omega
     ·refine Zf [2, 3] (fun k : Nat => [(5, .p (.int .i64 k))]) (fun _ => [Zb x, Zw r]) (fun k => k <= r.visits.length /\ ∀ j, j < k -> Kj x (nth r.visits j) = true) (fun k => r.visits.length - k) 0 (by simp) (Weak.mk ?_) ?_
      ·simp (disch := omega) only [Zb, Zw, go_sem, seval]
      ·rintro k ⟨hk, hno⟩;simp (disch := omega) only [Zb, Zw, go_sem, seval];refine cD ?_ ?_ <;> intro h <;> simp (disch := omega) only [Sh.out h, go_sem, seval]
       ·have hk2 : k < r.visits.length := by omega
        refine Xl [10, 11] 12 mixed (by kernel_rfl) (by kernel_rfl) (by kernel_rfl) (by simp) ?_;simp (disch := omega) only [go_sem, seval];refine Qf (ZcJ x (nth r.visits k) ho) ?_;simp (disch := omega) only [go_sem, seval];refine Z0 _ _ (by simp (disch := omega) only [go_sem, seval]; exact ⟨rfl, rfl⟩) ?_;simp (disch := omega) only [go_sem, seval];refine Z0 _ _ (by simp (disch := omega) only [go_sem, seval]; exact ⟨rfl, rfl⟩) ?_;simp (disch := omega) only [go_sem, seval];refine cD ?_ ?_ <;> intro h6 <;> simp (disch := omega) only [Sh.out h6, go_sem, seval]
        ·have : r.visits.all (Kj x) = false := by
          rw [List.all_eq_false]; exact ⟨nth r.visits k, Zi hk2, by simpa using h6⟩
         simp [Wu, this]
        ·exact ⟨k + 1, ⟨by omega, Zh.2 ⟨hno, by simpa using h6⟩⟩, by omega, Weak.mk (by simp (disch := omega) only [Zb, Zw, go_sem, seval])⟩
       ·have hkl : k = r.visits.length := by omega
        subst hkl
        have : r.visits.all (Kj x) = true := by
         rw [List.all_eq_true];intro v hv;obtain ⟨j, hj, rfl⟩ := List.mem_iff_getElem.1 hv;rw [<- Ze hj]; exact hno j hj
        simp [Wu, this]; omega
@[go_sem high] theorem Zx8 {k k' : IntKind} {a b : Int} : Zat false [.p (.int k a), .p (.int k' b)] = some (.int k (max a b)) := by
 simp only [Zat]
 by_cases h : a < b
 ·simp [h]; omega
 ·simp [h]; omega
theorem Zd7 {l : List Tim} {m : Tim} {d : Int} {b : Bool} : ZhZ (l ++ [m]) l.length d b = l ++ [{ m with dep := d, rest := b }] := by
 have : nth (l ++ [m]) l.length = m := by rw [Ze (by simp)]; simp
 rw [ZhZ, this];simp
theorem Zgy {x : Inst} {t : Typ} {sp : List Stp} {k : Nat} {d s m : Int} {h : She} (hk : k < sp.length) (ho : (nth sp k).opn <= (nth sp k).cls) (hm : h.miles = m) :
  (V4 x t ⟨Kn t sp k, d, s, m⟩ (nth sp k).place (nth sp k).cls 14).2 = (Vk t sp k (goL x t sp k d) d s h).2 /\
  ((Vk t sp k (goL x t sp k d) d s h).2 = 0 -> (V4 x t ⟨Kn t sp k, d, s, m⟩ (nth sp k).place (nth sp k).cls 14).1 = ⟨(nth sp k).place, (goL x t sp k d).1, s + (goL x t sp k d).1 - d, m + (goL x t sp k d).2.1⟩ /\
   (Vk t sp k (goL x t sp k d) d s h).1 = ⟨max (goL x t sp k d).1 (nth sp k).opn + (nth sp k).serv, s + (goL x t sp k d).1 - d, { h with times_c := false, times := h.times ++ [⟨(goL x t sp k d).1, max (goL x t sp k d).1 (nth sp k).opn, 0, false⟩], miles := m + (goL x t sp k d).2.1 }⟩) := by
 have hne : ¬ k = sp.length := by omega
 have e : goN x.net t.prof (Kn t sp k) (nth sp k).place d = goL x t sp k d := by simp [goL, toF, hne]
 unfold V4 Vk;simp only [e, if_neg hne];subst hm;generalize goL x t sp k d = g
 by_cases c1 : g.2.2 = 0
 ·by_cases c2 : (nth sp k).cls < g.1
  ·have c3 : (nth sp k).cls < max g.1 (nth sp k).opn := by omega
   simp [c1, c2, c3]
  ·have c3 : ¬ (nth sp k).cls < max g.1 (nth sp k).opn := by omega
   by_cases c4 : t.drive < s + g.1 - d
   ·simp [c1, c2, c3, c4]
   ·simp [c1, c2, c3, c4]
 ·simp [c1]
theorem ZgP {x : Inst} {t : Typ} {sp : List Stp} {d s m : Int} {h : She} (hm : h.miles = m) :
  (V4 x t ⟨Kn t sp sp.length, d, s, m⟩ t.dst t.cls 15).2 = (Vk t sp sp.length (goL x t sp sp.length d) d s h).2 /\
  ((Vk t sp sp.length (goL x t sp sp.length d) d s h).2 = 0 -> (V4 x t ⟨Kn t sp sp.length, d, s, m⟩ t.dst t.cls 15).1 = ⟨t.dst, (goL x t sp sp.length d).1, s + (goL x t sp sp.length d).1 - d, m + (goL x t sp sp.length d).2.1⟩ /\
   (Vk t sp sp.length (goL x t sp sp.length d) d s h).1 = ⟨(goL x t sp sp.length d).1, s + (goL x t sp sp.length d).1 - d, { h with fin := (goL x t sp sp.length d).1, miles := m + (goL x t sp sp.length d).2.1 }⟩) := by
 have e : goN x.net t.prof (Kn t sp sp.length) t.dst d = goL x t sp sp.length d := by simp [goL, toF]
 unfold V4 Vk;simp only [e, if_true];subst hm;generalize goL x t sp sp.length d = g
 by_cases c1 : g.2.2 = 0
 ·by_cases c2 : t.cls < g.1
  ·simp [c1, c2]
  ·by_cases c4 : t.drive < s + g.1 - d
   ·simp [c1, c2, c4]
   ·simp [c1, c2, c4]
 ·simp [c1]
def Zuu (s : StD) : AM.Obj := .cells [.p (.int .i64 s.place), .p (.int .i64 s.time), .p (.int .i64 s.driven), .p (.int .i64 s.miles)]
def Ja (t : Typ) (sp : List Stp) (k : Nat) (L : Lab) (b : Bool) : StD := ⟨Kn t sp k, ZX t L b, Vm L b, L.she.miles⟩
theorem ZxS {g : FuncId} {args : List V} {a c : PV} {H : List AM.Obj} {K : V -> List AM.Obj -> Prop} (h : ACalls Tryz.prog g args [] fun x H' => ∃ b : PV, x = .tup [.p a, .p b, .p c] /\ H' = []) (k : ∀ b : PV, K (.tup [.p a, .p b, .p c]) H) (ha : refBs 0 args = true := by rfl) : ACalls Tryz.prog g args H K :=
 (h.behind ha H).mono fun x H' hq => by
  obtain ⟨y, H1, ⟨b, rfl, rfl⟩, rfl, rfl⟩ := hq;simpa [shV, Ko] using k b
theorem Xe {x : Inst} {l : List Vis} : (ZY x l).length = l.length := by simp [ZY]
theorem Jr {x : Inst} {l : List Vis} {k : Nat} (h : k < l.length) : nth (ZY x l) k = XH x (nth l k) := by
 rw [Ze (by simpa [ZY] using h), Ze h]; simp [ZY]
theorem Zl3 (x : Inst) (r : Rte) (rests : List Bool) (c : Bool) (hok : TrpOk x (Z2 x r) (ZY x r.visits)) (ho : x.orders.length <= 1048576) (ht : x.types.length <= 1048576) (hne : 0 < r.visits.length) (hp : Wu x r = true) (hl : rests.length = r.visits.length + 1) :
  ACalls Tryz.prog 288 [.p (Zy x), .p (Yq r), .p (.list c (rests.map eB))] [] fun y H' => ∃ d : PV, y = .tup [.p (ZfE (X9 x (Z2 x r) (ZY x r.visits) 0 (X1 (Z2 x r) r.start) rests).1.she), .p d, .p (.int .i64 (X9 x (Z2 x r) (ZY x r.visits) 0 (X1 (Z2 x r) r.start) rests).2)] /\ H' = [] := by
 have hp2 := hp;simp only [Wu, Bool.and_eq_true, decide_eq_true_eq] at hp2;obtain ⟨⟨⟨⟨⟨p1, p2⟩, p3⟩, p4⟩, p5⟩, p6⟩ := hp2;have hvis : ∀ k, k < r.visits.length -> Kj x (nth r.visits k) = true := fun k hk => List.all_eq_true.1 p6 _ (Zi hk)
 have hstop : ∀ k, k < r.visits.length -> JL x (nth r.visits k) = nth (ZY x r.visits) k := fun k hk => by
  have := hvis k hk;simp only [Kj, Bool.and_eq_true] at this;rw [JL, if_pos this.1, Jr hk]
 have hti : r.typ.toNat < x.types.length := by omega
 have hopn := hok.opn;have hrst := hok.rst;have htd : Z2 x r = nth x.types r.typ.toNat := rfl
 generalize hT : Z2 x r = t at *
 have hsl : (ZY x r.visits).length = r.visits.length := Xe
 generalize hS : ZY x r.visits = sp at *
 refine Zc [26] Tryz.func288 rfl Zql ?_;simp (disch := omega) only [Tryz.f288, go_sem, seval];refine (Kh x r ho ht (by omega)).use ?_;simp (disch := omega) only [go_sem, seval];rw [hp];simp (disch := omega) only [go_sem, seval];refine cD ?_ ?_ <;> intro h0 <;> simp (disch := omega) only [Sh.out h0, <- htd, go_sem, seval]
 ·omega
 ·refine Xl [13] 14 mixed (by kernel_rfl) (by kernel_rfl) (by kernel_rfl) (by simp) ?_;simp (disch := omega) only [go_sem, seval];refine Zt (ZcP t ⟨t.src, max t.opn r.start, 0, 0⟩ (nth rests 0) (by simp only; omega)) ?_;simp (disch := omega) only [go_sem, seval];refine Z0 _ _ (by simp (disch := omega) only [go_sem, seval]; exact ⟨rfl, rfl⟩) ?_;simp (disch := omega) only [go_sem, seval];refine Xl [6] 7 mixed (by kernel_rfl) (by kernel_rfl) (by kernel_rfl) (by simp) ?_;simp (disch := omega) only [go_sem, seval];refine Z0 _ _ (by simp (disch := omega) only [go_sem, seval]; exact ⟨rfl, rfl⟩) ?_
  simp (disch := omega) only [go_sem, seval];have hL0 : LabR 0 (X1 t r.start) := ⟨by simp only [X1]; omega, by simp [X1], by simp [X1, zShe]⟩
  have hS0 : Zba t ⟨t.src, max t.opn r.start, 0, 0⟩ (nth rests 0) = Ja t sp 0 (X1 t r.start) (nth rests 0) := by
   simp only [Zba, Ja, Kn, ZX, Vm, X1, zShe, if_true]
   split <;> rfl
  simp (disch := omega) only [hS0, go_sem, seval]
  refine ZI [26] [2, 3, 4, 6, 9, 10, 11] (fun q : Nat × Lab × List Int => [(12, .sl 7 0 q.2.2.length q.2.2.length), (13, .p (.int .i64 q.1))])
   (fun q => [Zb x, Zw r, .cells [.p (.bool false), .p (.int .i64 0), .p (.list true []), .p (.int .i64 0), .p (.int .i64 0)], Xj t, Zuu (Ja t sp q.1 q.2.1 (nth rests q.1)),
    .cells [.p (.bool (Xu q.1 (ZX t q.2.1 (nth rests q.1)) (nth rests q.1) q.2.1.she).rest), .p (.int .i64 (Xu q.1 (ZX t q.2.1 (nth rests q.1)) (nth rests q.1) q.2.1.she).dep), .sl 6 0 (Xu q.1 (ZX t q.2.1 (nth rests q.1)) (nth rests q.1) q.2.1.she).times.length (Xu q.1 (ZX t q.2.1 (nth rests q.1)) (nth rests q.1) q.2.1.she).times.length, .p (.int .i64 0), .p (.int .i64 0)],
    .elems 4 ((Xu q.1 (ZX t q.2.1 (nth rests q.1)) (nth rests q.1) q.2.1.she).times.map eTim), .elems 1 (q.2.2.map eI)])
   (fun q => q.1 <= r.visits.length /\ X9 x t sp 0 (X1 t r.start) rests = X9 x t sp q.1 q.2.1 (rests.drop q.1) /\ LabR q.1 q.2.1 /\ q.2.1.she.times.length = q.1 /\ q.2.1.she.fin = 0 /\ (0 < q.1 -> q.2.1.she.times_c = false) /\ q.2.2.length = q.1) (fun q => r.visits.length - q.1) (0, X1 t r.start, [])
   ⟨by simp, by simp, hL0, by simp [X1, zShe], by simp [X1, zShe], by simp, by simp⟩ ((Weak.nilC (o := 5) (j := 2) 4 rfl rfl (by simp)).trans (Weak.ofNil 12 1 rfl (by simp) (Weak.mk ?_))) ?_
  ·simp (disch := omega) only [Zb, Zw, Xj, Zuu, Ja, Kn, Xu, X1, zShe, List.map_nil, List.length_nil, List.set_cons_succ, List.set_cons_zero, List.cons_append, List.nil_append, go_sem, seval]
  ·rintro ⟨k, L, ds⟩ ⟨hk, hrun, hL, hlen, hfin, hclip, hds⟩;simp only at hk hrun hL hlen hfin hclip hds
   have hmlen : (Xu k (ZX t L (nth rests k)) (nth rests k) L.she).times.length = k := by rw [Vv]; exact hlen
   have hd := Vn hok hL (nth rests k);have hs := J8 hL (nth rests k);have hg := Zbf hok hL (nth rests k);have hmi := hL.mil
   generalize hm : Xu k (ZX t L (nth rests k)) (nth rests k) L.she = m at *
   have hmm : m.miles = L.she.miles := by rw [<- hm, Vc]
   have hmf : m.fin = 0 := by rw [<- hm, Zag, hfin]
   have hdrop : rests.drop k = nth rests k :: rests.drop (k + 1) := by rw [List.drop_eq_getElem_cons (by omega), Ze (by omega)]
   have hnx : Y8 x t sp k L (nth rests k) = Vk t sp k (goL x t sp k (ZX t L (nth rests k))) (ZX t L (nth rests k)) (Vm L (nth rests k)) m := by rw [Y8, hm]
   rw [hdrop, X9] at hrun;simp (disch := omega) only [Zb, Zw, Xj, Zuu, go_sem, seval];refine cD ?_ ?_ <;> intro h <;> simp (disch := omega) only [Sh.out h, go_sem, seval]
   ·have hk2 : k < r.visits.length := by omega
    have hsp := hok.stp _ (Xm (show k < sp.length by omega));refine Xl [10, 11] 12 mixed (by kernel_rfl) (by kernel_rfl) (by kernel_rfl) (by simp) ?_;simp (disch := omega) only [go_sem, seval];refine Qf (ZcJ x (nth r.visits k) ho) ?_;simp (disch := omega) only [go_sem, seval];refine Z0 _ _ (by simp (disch := omega) only [go_sem, seval]; exact ⟨rfl, rfl⟩) ?_;simp (disch := omega) only [go_sem, seval];refine Z0 _ _ (by simp (disch := omega) only [go_sem, seval]; exact ⟨rfl, rfl⟩) ?_;simp (disch := omega) only [hstop k hk2, go_sem, seval];obtain ⟨f1, f2⟩ := Zgy (x := x) (t := t) (d := ZX t L (nth rests k)) (s := Vm L (nth rests k)) (h := m) (show k < sp.length by omega) hsp.2.1 hmm
    have he2 : goN x.net t.prof (Kn t sp k) (nth sp k).place (ZX t L (nth rests k)) = goL x t sp k (ZX t L (nth rests k)) := by
     have hne : ¬ k = sp.length := by omega
     simp [goL, toF, hne]
    refine Xp (ZcM x t (Ja t sp k L (nth rests k)) (nth sp k).place (nth sp k).cls 14 hok.net ?_ ?_ ?_ ?_) ?_
    ·simp only [Ja]; omega
    ·simp only [Ja, Sml]; omega
    ·simp only [Ja, Sml]; omega
    ·simp only [Ja, Sml]; rw [he2]; omega
    have f1' : (V4 x t (Ja t sp k L (nth rests k)) (nth sp k).place (nth sp k).cls 14).2 = (Y8 x t sp k L (nth rests k)).2 := by rw [hnx, <- f1]; rfl
    simp (disch := omega) only [go_sem, seval];rw [f1'];refine cD ?_ ?_ <;> intro h3 <;> simp (disch := omega) only [Sh.out h3, go_sem, seval]
    ·rw [if_neg h3] at hrun;rw [hrun];simp only [WJ, zShe];exact ⟨_, _, Weak.mk (by simp (disch := omega) only [List.map_nil, go_sem, seval]), .list true [], rfl, rfl⟩
    ·have h3' : (Y8 x t sp k L (nth rests k)).2 = 0 := Classical.not_not.1 h3;rw [if_pos h3'] at hrun;have hL' := Zby hok (by omega) hL h3';rw [hnx] at h3';obtain ⟨f3, f4⟩ := f2 h3';have f3' : (V4 x t (Ja t sp k L (nth rests k)) (nth sp k).place (nth sp k).cls 14).1 = ⟨(nth sp k).place, (goL x t sp k (ZX t L (nth rests k))).1, Vm L (nth rests k) + (goL x t sp k (ZX t L (nth rests k))).1 - ZX t L (nth rests k), L.she.miles + (goL x t sp k (ZX t L (nth rests k))).2.1⟩ := f3
     have hL2 : (Y8 x t sp k L (nth rests k)).1 = ⟨max (goL x t sp k (ZX t L (nth rests k))).1 (nth sp k).opn + (nth sp k).serv, Vm L (nth rests k) + (goL x t sp k (ZX t L (nth rests k))).1 - ZX t L (nth rests k), { m with times_c := false, times := m.times ++ [⟨(goL x t sp k (ZX t L (nth rests k))).1, max (goL x t sp k (ZX t L (nth rests k))).1 (nth sp k).opn, 0, false⟩], miles := L.she.miles + (goL x t sp k (ZX t L (nth rests k))).2.1 }⟩ := by rw [hnx]; exact f4
     simp (disch := omega) only [f3', go_sem, seval];refine Xl [13] 14 mixed (by kernel_rfl) (by kernel_rfl) (by kernel_rfl) (by simp) ?_;simp (disch := omega) only [go_sem, seval];refine Z0 _ _ (by simp (disch := omega) only [go_sem, seval]; exact ⟨rfl, rfl⟩) ?_;simp (disch := omega) only [go_sem, seval]
     generalize (Y8 x t sp k L (nth rests k)).1 = L2 at *
     have hS1 : Zba t ⟨(nth sp k).place, max (goL x t sp k (ZX t L (nth rests k))).1 (nth sp k).opn + (nth sp k).serv, Vm L (nth rests k) + (goL x t sp k (ZX t L (nth rests k))).1 - ZX t L (nth rests k), L.she.miles + (goL x t sp k (ZX t L (nth rests k))).2.1⟩ (nth rests (k + 1)) = Ja t sp (k + 1) L2 (nth rests (k + 1)) := by
      rw [hL2];simp only [Zba, Ja, Kn, ZX, Vm, Nat.add_sub_cancel, if_neg (show ¬ k + 1 = 0 by omega)]
      split <;> rfl
     have hM : Xu (k + 1) (ZX t L2 (nth rests (k + 1))) (nth rests (k + 1)) L2.she = { m with times_c := false, times := m.times ++ [⟨(goL x t sp k (ZX t L (nth rests k))).1, max (goL x t sp k (ZX t L (nth rests k))).1 (nth sp k).opn, ZX t L2 (nth rests (k + 1)), nth rests (k + 1)⟩], miles := L.she.miles + (goL x t sp k (ZX t L (nth rests k))).2.1 } := by
      have he : L2.she = { m with times_c := false, times := m.times ++ [⟨(goL x t sp k (ZX t L (nth rests k))).1, max (goL x t sp k (ZX t L (nth rests k))).1 (nth sp k).opn, 0, false⟩], miles := L.she.miles + (goL x t sp k (ZX t L (nth rests k))).2.1 } := by rw [hL2]
      rw [he, Xu, if_neg (by omega), Nat.add_sub_cancel];simp only [<- hmlen, Zd7]
     have hd2 := Vn hok hL' (nth rests (k + 1));refine ZG 8 mixed (by kernel_rfl) (by kernel_rfl) ?_;simp (disch := omega) only [go_sem, seval];refine Zt (ZcP t ⟨(nth sp k).place, max (goL x t sp k (ZX t L (nth rests k))).1 (nth sp k).opn + (nth sp k).serv, Vm L (nth rests k) + (goL x t sp k (ZX t L (nth rests k))).1 - ZX t L (nth rests k), L.she.miles + (goL x t sp k (ZX t L (nth rests k))).2.1⟩ (nth rests (k + 1)) (by simp only; omega)) ?_;simp (disch := omega) only [go_sem, seval];simp (disch := omega) only [hS1, go_sem, seval];refine ⟨(k + 1, L2, ds ++ [L2.since]), ⟨by simp only; omega, hrun, hL', by rw [hL2]; simp [hmlen], by rw [hL2]; exact hmf, by rw [hL2]; simp, by simp [hds]⟩, by simp only; omega, Weak.mk ?_⟩
     simp (disch := omega) only [hM, Zb, Zw, Xj, Zuu, hmlen, List.length_append, List.length_cons, List.length_nil, List.map_append, List.map_cons, List.map_nil, go_sem, seval];exact ⟨rfl, by rw [show L2.since = Vm L (nth rests k) + (goL x t sp k (ZX t L (nth rests k))).1 - ZX t L (nth rests k) by rw [hL2]]⟩
   ·have hkl : k = sp.length := by omega
    subst hkl;obtain ⟨f1, f2⟩ := ZgP (x := x) (t := t) (sp := sp) (d := ZX t L (nth rests sp.length)) (s := Vm L (nth rests sp.length)) (h := m) hmm
    have he2 : goN x.net t.prof (Kn t sp sp.length) t.dst (ZX t L (nth rests sp.length)) = goL x t sp sp.length (ZX t L (nth rests sp.length)) := by simp [goL, toF]
    refine Xp (ZcM x t (Ja t sp sp.length L (nth rests sp.length)) t.dst t.cls 15 hok.net ?_ ?_ ?_ ?_) ?_
    ·simp only [Ja]; omega
    ·simp only [Ja, Sml]; omega
    ·simp only [Ja, Sml]; omega
    ·simp only [Ja, Sml]; rw [he2]; omega
    have f1' : (V4 x t (Ja t sp sp.length L (nth rests sp.length)) t.dst t.cls 15).2 = (Y8 x t sp sp.length L (nth rests sp.length)).2 := by rw [hnx, <- f1]; rfl
    simp (disch := omega) only [go_sem, seval];rw [f1'];have hdl : rests.drop (sp.length + 1) = [] := List.drop_eq_nil_of_le (by omega);rw [hdl, X9] at hrun;refine cD ?_ ?_ <;> intro h3 <;> simp (disch := omega) only [Sh.out h3, go_sem, seval]
    ·rw [if_neg h3] at hrun;rw [hrun];simp only [WJ, zShe];exact ⟨_, _, Weak.mk (by simp (disch := omega) only [List.map_nil, go_sem, seval]), .list true [], rfl, rfl⟩
    ·have h3' : (Y8 x t sp sp.length L (nth rests sp.length)).2 = 0 := Classical.not_not.1 h3;rw [if_pos h3'] at hrun;rw [hnx] at h3';obtain ⟨f3, f4⟩ := f2 h3';have f3' : (V4 x t (Ja t sp sp.length L (nth rests sp.length)) t.dst t.cls 15).1 = ⟨t.dst, (goL x t sp sp.length (ZX t L (nth rests sp.length))).1, Vm L (nth rests sp.length) + (goL x t sp sp.length (ZX t L (nth rests sp.length))).1 - ZX t L (nth rests sp.length), L.she.miles + (goL x t sp sp.length (ZX t L (nth rests sp.length))).2.1⟩ := f3;rw [hrun, hnx, f4];simp (disch := omega) only [f3', go_sem, seval];refine Zm (Weak.fz (o := 6) (by rfl)) ?_
     refine Zm (Weak.fz (o := 7) (by rfl)) ?_;refine Zd [] _ _ _ _ ?_;simp (disch := omega) only [List.map_cons, List.map_nil, List.set_cons_succ, List.set_cons_zero, go_sem, seval]
     have hmc : m.times_c = false := by
      rw [<- hm, <- hclip (by omega)];unfold Xu
      split <;> rfl
     exact ⟨_, _, Weak.mk (by simp (disch := omega) only [hmc, go_sem, seval]), .list false (ds.map eI ++ [.int .i64 (Vm L (nth rests sp.length) + (goL x t sp sp.length (ZX t L (nth rests sp.length))).1 - ZX t L (nth rests sp.length))]), rfl, rfl⟩
theorem ZlX (x : Inst) (r : Rte) (rests : List Bool) (c : Bool) (hok : TrpOk x (Z2 x r) (ZY x r.visits)) (ho : x.orders.length <= 1048576) (ht : x.types.length <= 1048576) (hne : 0 < r.visits.length) (hp : Wu x r = true) (hl : rests.length = r.visits.length + 1) :
  PT 229 [.p (Zy x), .p (Yq r), .p (.list c (rests.map eB))] [.p (ZfE (X9 x (Z2 x r) (ZY x r.visits) 0 (X1 (Z2 x r) r.start) rests).1.she), .p (.int .i64 (X9 x (Z2 x r) (ZY x r.visits) 0 (X1 (Z2 x r) r.start) rests).2)] := by
 have cr := Zl3 x r rests c hok ho ht hne hp hl;generalize (X9 x (Z2 x r) (ZY x r.visits) 0 (X1 (Z2 x r) r.start) rests) = q at cr ⊢;obtain ⟨L, e⟩ := q;refine Zc [] Tryz.func229 rfl ZqV ?_;simp (disch := omega) only [Tryz.f229, go_sem, seval];refine ZxS cr fun d => ?_;simp (disch := omega) only [go_sem, seval];exact we
def KV (l : List Bool) (n : Nat) : Option (List Bool) := (Xt (l.drop n)).map (l.take n ++ ·)
def ZkG : Option (List Bool) -> PV
 | some l => .list false (l.map eB)
 | none => .list true []
theorem W6 : ∀ m : Nat, Xt (List.replicate m true) = none
 | 0 => rfl
 | m + 1 => by rw [List.replicate_succ, Xt, W6 m]; rfl
theorem ZaH : ∀ (a b r : List Bool), Xt b = some r -> Xt (a ++ b) = some (a ++ r)
 | [], b, r, h => h
 | x :: a, b, r, h => by rw [List.cons_append, Xt, ZaH a b r h]; rfl
theorem Zi6 (a : List Bool) (m : Nat) : Xt (a ++ false :: List.replicate m true) = some (a ++ true :: List.replicate m false) := by
 refine ZaH _ _ _ ?_;rw [Xt, W6];simp
theorem Zcp {o : List Bool} {i : Nat} {b : Bool} : (o.map eB).set i (.bool b) = (o.set i b).map eB := by rw [List.map_set]; rfl
theorem Zi4 (l : List Bool) (c : Bool) (n : Nat) (hn : n <= l.length) (h0 : 0 < l.length) (hl : l.length <= 1048576) : PT 230 [.p (.list c (l.map eB)), .p (.int .i64 (n : Nat))] [.p (ZkG (KV l n)), .p (.bool (KV l n).isSome)] := by
 refine Zc [8] Tryz.func230 rfl Zr3 ?_;simp (disch := omega) only [Tryz.f230, go_sem, seval];rw [if_pos ⟨by omega, by omega⟩];simp (disch := omega) only [go_sem, seval];refine ZI [8] [1] (fun q : Nat × List Bool => [(6, .sl 0 0 q.2.length q.2.length), (7, .p (.int .i64 ((q.1 : Int) - 1)))]) (fun q => [.elems 1 (q.2.map eB)]) (fun q => n <= q.1 /\ q.1 <= l.length /\ q.2 = l.take q.1 ++ List.replicate (l.length - q.1) false /\ l.drop q.1 = List.replicate (l.length - q.1) true) (fun q => q.1) (l.length, l) (by simp; omega) (Weak.mk ?_) ?_
 ·simp (disch := omega) only [go_sem, seval]
 ·rintro ⟨j, o⟩ ⟨hj1, hj2, ho, hjt⟩;simp only at hj1 hj2 ho hjt
  have hol : o.length = l.length := by rw [ho]; simp; omega
  simp (disch := omega) only [go_sem, seval];refine cD ?_ ?_ <;> intro h <;> simp (disch := omega) only [Sh.out h, go_sem, seval]
  ·obtain ⟨i, rfl⟩ : ∃ i, j = i + 1 := ⟨j - 1, by omega⟩
   have hij : (((i + 1 : Nat) : Int) - 1) = (i : Int) := by omega
   have hat : nth o i = nth l i := by
    rw [Ze (by omega), Ze (by omega)];simp only [ho];rw [List.getElem_append_left (by simp; omega)]; simp
   have hdr : l.drop i = nth l i :: List.replicate (l.length - (i + 1)) true := by
    rw [List.drop_eq_getElem_cons (by omega), hjt, Ze (by omega)]
   have hio : i < o.length := by omega
   simp (disch := first | omega | (simp only [List.length_cons, List.length_nil, List.length_append, List.length_map, List.length_take, List.length_drop] <;> omega)) only [Int.add_sub_cancel, Xb, hat, hio, go_sem, seval];refine cD ?_ ?_ <;> intro h2 <;> simp (disch := omega) only [Sh.out h2, go_sem, seval]
   ·have hf : nth l i = false := by simpa using h2
    have hres : KV l n = some (o.set i true) := by
     rw [hf] at hdr
     have e : l.drop n = (l.drop n).take (i - n) ++ false :: List.replicate (l.length - (i + 1)) true := by
      rw [<- hdr, show l.drop i = (l.drop n).drop (i - n) by rw [List.drop_drop]; congr 1; omega, List.take_append_drop]
     rw [KV, e, Zi6, ho];simp only [Option.map_some, Option.some.injEq]
     have e2 : l.take (i + 1) = l.take n ++ (l.drop n).take (i - n) ++ [nth l i] := by
      rw [List.take_succ_eq_append_getElem (by omega), Ze (by omega)]
      congr 1
      have : l.take i = l.take (n + (i - n)) := by congr 1; omega
      rw [this, List.take_add]
     rw [e2, hf]
     have el : (l.take n ++ (l.drop n).take (i - n)).length = i := by simp; omega
     rw [List.append_assoc (l.take n ++ (l.drop n).take (i - n)), List.set_append_right _ _ (by omega), el];simp
    rw [hres];simp (disch := first | omega | (simp only [List.length_cons, List.length_nil, List.length_append, List.length_map, List.length_take, List.length_drop] <;> omega)) only [hio, Zcp, go_sem, seval];refine Zm (Weak.fz (o := 0) (by rfl)) ?_;refine Zd [] _ _ _ _ ?_;simp (disch := omega) only [List.map_cons, List.map_nil, List.set_cons_succ, List.set_cons_zero, go_sem, seval];simp only [List.length_set, List.length_map, if_true];exact we (by simp (disch := omega) only [ZkG, Option.isSome_some, go_sem, seval])
   ·have hf : nth l i = true := by simpa using h2
    simp (disch := first | omega | (simp only [List.length_cons, List.length_nil, List.length_append, List.length_map, List.length_take, List.length_drop] <;> omega)) only [hio, Zcp, go_sem, seval];refine ⟨(i, o.set i false), ⟨by simp only; omega, by simp only; omega, ?_, ?_⟩, by simp only; omega, Weak.mk (by simp (disch := first | omega | (simp only [List.length_cons, List.length_nil, List.length_append, List.length_map, List.length_take, List.length_drop] <;> omega)) only [List.length_set, Int.add_sub_cancel, go_sem, seval])⟩
    ·simp only;rw [ho, show l.length - i = (l.length - (i + 1)) + 1 by omega, List.replicate_succ, List.take_succ_eq_append_getElem (by omega), List.append_assoc, List.set_append_right _ _ (by simp; omega), show i - (l.take i).length = 0 by simp; omega];simp
    ·simp only;rw [hdr, hf, show l.length - i = (l.length - (i + 1)) + 1 by omega, List.replicate_succ]
  ·have hjn : j = n := by omega
   have hres : KV l n = none := by rw [KV, <- hjn, hjt, W6]; rfl
   rw [hres];exact we (by simp (disch := omega) only [ZkG, Option.isSome_none, go_sem, seval])
theorem ZfP {r q : List Bool} : KV (r ++ q) r.length = (Xt q).map (r ++ ·) := by simp [KV]
theorem ZfB {l : List Bool} : ZkG (some l) = .list false (l.map eB) := rfl
theorem ZfV : ZkG none = .list true [] := rfl
def Zeh (b : Option Lab) : She := match b with | some L => L.she | none => zShe
def Zg1 (r : List Bool) (cur : Option (List Bool)) : List (List Bool) := match cur with | some q => (Yf q).map (r ++ ·) | none => []
theorem Qd {r s : List Bool} : Zg1 r (some s) = (r ++ s) :: Zg1 r (Xt s) := by
 unfold Zg1;simp only;rw [fromB_next s, List.map_cons]
 cases Xt s <;> rfl
theorem Zcv {x : Inst} {t : Typ} {sp : List Stp} : ∀ (bs : List Bool) (k : Nat) (L : Lab), ¬ (X9 x t sp k L bs).2 = 0 -> (X9 x t sp k L bs).1 = WJ
 | [], k, L, h => by simp [X9] at h
 | b :: bs, k, L, h => by
  rw [X9] at h ⊢
  split
  ·rename_i c; rw [if_pos c] at h; exact Zcv bs _ _ h
  ·rfl
theorem Zin (x : Inst) (r : Rte) (hok : TrpOk x (Z2 x r) (ZY x r.visits)) (ho : x.orders.length <= 1048576) (ht : x.types.length <= 1048576) (hne : 0 < r.visits.length) (hp : Wu x r = true) (hl : r.rests.length <= r.visits.length + 1) :
  PT 176 [.p (Zy x), .p (Yq r)] [.p (ZfE (Xf x r).1), .p (.int .i64 (Xf x r).2)] := by
 have hsl : (ZY x r.visits).length = r.visits.length := Xe;have hp2 := hp;simp only [Wu, Bool.and_eq_true, decide_eq_true_eq] at hp2;have hv20 := hp2.1.2;have hrun := fun rests (c : Bool) (h : rests.length = r.visits.length + 1) => ZlX x r rests c hok ho ht hne hp h;have hopt := fun bs => WE (x := x) (t := Z2 x r) (sp := ZY x r.visits) bs 0 (X1 (Z2 x r) r.start);unfold Xf UB
 generalize hS : ZY x r.visits = sp at *
 generalize Z2 x r = t at *
 generalize X1 t r.start = L0 at *
 refine Zc [5, 6] Tryz.func176 rfl Zjs ?_;simp (disch := omega) only [Tryz.f176, go_sem, seval];refine (Kh x r ho ht (by omega)).use ?_;simp (disch := omega) only [go_sem, seval];rw [hp];simp (disch := omega) only [go_sem, seval];refine cD ?_ ?_ <;> intro h0 <;> simp (disch := omega) only [Sh.out h0, go_sem, seval]
 ·omega
 ·refine XA (Zgt 3 rfl rfl ?_);simp (disch := omega) only [go_sem, seval];refine ⟨_, _, Zc6 (e := 4) rfl Tryz.underlying41 (by kernel_rfl) rfl rfl rfl ?_ ?_ ?_, ?_⟩
  ·simp
  ·simp; omega
  ·intro q hq;obtain ⟨b, _, rfl⟩ := List.mem_map.1 hq
   rfl
  ·have hpl : (W4 r.rests (sp.length + 1)).length = r.visits.length + 1 := by simp [W4]; omega
   have hpad : r.rests.map eB ++ (PV.bool false :: List.replicate r.visits.length (PV.bool false)).drop (r.rests.map eB).length = (W4 r.rests (sp.length + 1)).map eB := by
    rw [W4, List.map_append, <- List.replicate_succ, List.drop_replicate, List.map_replicate, hsl, List.length_map]; rfl
   simp only [List.set_cons_succ, List.set_cons_zero];rw [hpad];have h0r := hopt (W4 r.rests (sp.length + 1))
   have cn : ∀ s : List Bool, (r.rests ++ s).length = r.visits.length + 1 -> PT 230 [.p (.list false ((r.rests ++ s).map eB)), .p (.int .i64 (r.rests.length : Nat))] [.p (ZkG ((Xt s).map (r.rests ++ ·))), .p (.bool ((Xt s).map (r.rests ++ ·)).isSome)] := fun s hs => by
    have := Zi4 (r.rests ++ s) false r.rests.length (by simp) (by omega) (by omega);rwa [ZfP] at this
   have e1 : (X9 x t sp 0 L0 (W4 r.rests (sp.length + 1))).1.she = Zeh (Ur (X6 x t sp) 0 L0 (W4 r.rests (sp.length + 1))) := by
    rw [h0r]
    split
    ·rfl
    ·rename_i c; rw [Zcv _ _ _ c]; rfl
   have e2 : decide ((X9 x t sp 0 L0 (W4 r.rests (sp.length + 1))).2 = 0) = (Ur (X6 x t sp) 0 L0 (W4 r.rests (sp.length + 1))).isSome := by
    rw [h0r]
    split
    ·rename_i c; simp [c]
    ·rename_i c; simp [c]
   have hrp := hrun (W4 r.rests (sp.length + 1)) false hpl;have XI : YY r.rests (sp.length + 1) = Zg1 r.rests (some (List.replicate (sp.length + 1 - r.rests.length) false)) := rfl;refine Zm (Weak.fz (o := 3) (by rfl)) ?_;refine Zd [] _ _ _ _ ?_;simp (disch := omega) only [List.map_cons, List.map_nil, List.set_cons_succ, List.set_cons_zero, go_sem, seval];rw [if_pos hpl];refine Xp hrp ?_;simp (disch := omega) only [go_sem, seval];refine Xp (cn (List.replicate (sp.length + 1 - r.rests.length) false) hpl) ?_;simp (disch := omega) only [e1, e2, go_sem, seval]
   have hfm : fmL WP none ((YY r.rests (sp.length + 1)).filterMap (Ur (X6 x t sp) 0 L0)) = fmL WP (Ur (X6 x t sp) 0 L0 (W4 r.rests (sp.length + 1))) ((Zg1 r.rests (Xt (List.replicate (sp.length + 1 - r.rests.length) false))).filterMap (Ur (X6 x t sp) 0 L0)) := by
    rw [XI, Qd, List.filterMap_cons];rw [show r.rests ++ List.replicate (sp.length + 1 - r.rests.length) false = W4 r.rests (sp.length + 1) from rfl]
    cases Ur (X6 x t sp) 0 L0 (W4 r.rests (sp.length + 1)) with
    | none => rfl
    | some L => rfl
   clear XI;generalize fmL WP none ((YY r.rests (sp.length + 1)).filterMap (Ur (X6 x t sp) 0 L0)) = res at hfm ⊢;generalize (X9 x t sp 0 L0 (W4 r.rests (sp.length + 1))).2 = err0
   refine Zf [2, 3, 4, 8, 9] (fun q : Option (List Bool) × Option Lab => [(7, .p (ZkG (q.1.map (r.rests ++ ·)))), (10, .p (.bool q.2.isSome)), (11, .p (.bool (q.1.map (r.rests ++ ·)).isSome))])
    (fun q => [Zb x, Zw r, .cells [.p (.bool false), .p (.int .i64 0), .p (.list true []), .p (.int .i64 0), .p (.int .i64 0)], .dead, .cells [.p (.bool (Zeh q.2).rest), .p (.int .i64 (Zeh q.2).dep), .p (.list (Zeh q.2).times_c ((Zeh q.2).times.map eTim)), .p (.int .i64 (Zeh q.2).fin), .p (.int .i64 (Zeh q.2).miles)]])
    (fun q => res = fmL WP q.2 ((Zg1 r.rests q.1).filterMap (Ur (X6 x t sp) 0 L0)) /\ ∀ s, q.1 = some s -> s.length = sp.length + 1 - r.rests.length) (fun q => (Zg1 r.rests q.1).length)
    (Xt (List.replicate (sp.length + 1 - r.rests.length) false), Ur (X6 x t sp) 0 L0 (W4 r.rests (sp.length + 1))) ⟨hfm, fun s hs => by have := fromB_next.nlen _ _ hs; simpa using this⟩ (Weak.mk ?_) ?_
   ·simp (disch := omega) only [Zb, Zw, go_sem, seval]
   ·rintro ⟨cur, b⟩ ⟨hR, hcl⟩;simp only at hR hcl
    cases cur with
    | none =>
     simp only [Zg1, List.filterMap_nil] at hR;simp (disch := omega) only [Option.map_none, Option.isSome_none, ZfV, Zb, Zw, go_sem, seval]
     cases b with
     | none =>
      rw [fmL] at hR;subst hR;simp (disch := omega) only [Option.isSome_none, Bool.not_false, go_sem, seval];exact we (by simp (disch := omega) only [zShe, List.map_nil, go_sem, seval])
     | some m =>
      rw [fmL] at hR;subst hR;simp (disch := omega) only [Option.isSome_some, Bool.not_true, Zeh, go_sem, seval];exact we
    | some s =>
     have hsl2 := hcl s rfl;rw [Qd, List.filterMap_cons, hopt] at hR
     have hmu : (Zg1 r.rests (Xt s)).length < (Zg1 r.rests (some s)).length := by rw [Qd]; simp
     have hnl : ∀ s', Xt s = some s' -> s'.length = sp.length + 1 - r.rests.length := fun s' hs' => by rw [fromB_next.nlen _ _ hs', hsl2]
     have hlen : (r.rests ++ s).length = r.visits.length + 1 := by simp; omega
     have hr1 := hrun (r.rests ++ s) false hlen;have cn1 := cn s hlen;rw [List.map_append] at hr1 cn1;simp (disch := omega) only [Option.map_some, Option.isSome_some, ZfB, Zb, Zw, go_sem, seval];generalize X9 x t sp 0 L0 (r.rests ++ s) = g at hR hr1;obtain ⟨Lg, eg⟩ := g;simp only at hR hr1;refine Xp hr1 ?_;simp (disch := omega) only [go_sem, seval];refine gT ?_ ?_ <;> intro h1 <;> simp (disch := omega) only [Sh.out h1, go_sem, seval]
     ·subst h1
      cases b with
      | none =>
       simp (disch := omega) only [Option.isSome_none, Bool.not_false, go_sem, seval];refine Xp cn1 ?_;simp (disch := omega) only [go_sem, seval];exact ⟨(Xt s, some Lg), ⟨hR, hnl⟩, hmu, Weak.mk (by simp (disch := omega) only [Zb, Zw, Zeh, Option.isSome_some, go_sem, seval])⟩
      | some m =>
       simp (disch := omega) only [Option.isSome_some, Bool.not_true, Zeh, go_sem, seval];refine cD ?_ ?_ <;> intro h2 <;> simp (disch := omega) only [Sh.out h2, go_sem, seval]
       ·refine Xp cn1 ?_;simp (disch := omega) only [go_sem, seval];exact ⟨(Xt s, some Lg), ⟨by rw [hR]; simp only [if_true, fmL, WP, h2], hnl⟩, hmu, Weak.mk (by simp (disch := omega) only [Zb, Zw, Zeh, Option.isSome_some, go_sem, seval])⟩
       ·refine Xp cn1 ?_;simp (disch := omega) only [go_sem, seval];exact ⟨(Xt s, some m), ⟨by rw [hR]; simp only [if_true, fmL, WP, h2, if_false], hnl⟩, hmu, Weak.mk (by simp (disch := omega) only [Zb, Zw, Zeh, Option.isSome_some, go_sem, seval])⟩
     ·rw [if_neg h1] at hR;refine Xp cn1 ?_;simp (disch := omega) only [go_sem, seval];exact ⟨(Xt s, b), ⟨hR, hnl⟩, hmu, Weak.mk (by simp (disch := omega) only [Zb, Zw, go_sem, seval])⟩
def eR (p : Bool × List Int) : PV := .list p.1 (p.2.map eI)
@[go_sem] theorem ZBR (p : Bool × List Int) : eR p = .list p.1 (p.2.map eI) := Eq.trans rfl rfl
theorem ZhL (L : List (Bool × List Int)) (c : Bool) (d : Nat) (hd : d <= 3) (hL : L.length <= 1048576) (h : ∀ p ∈ L, p.2.length = d) : PC 335 [.p (.list c (L.map eR)), .p (.int .i64 (d : Nat))] (.bool true) := by
 refine Za Tryz.func335 rfl Ztb ?_
 have e1 : ¬ (d : Int) < 0 := by omega
 have e2 : ¬ (3 : Int) < d := by omega
 simp (disch := omega) only [Tryz.f335, e1, e2, go_sem, seval];refine Zf [0, 1] (fun k : Nat => [(5, .p (.int .i64 k))]) (fun _ => []) (fun k => k <= L.length) (fun k => L.length - k) 0 (by simp) (Weak.mk ?_) ?_
 ·simp (disch := omega) only [go_sem, seval]
 ·intro k hk;simp (disch := omega) only [go_sem, seval];refine cD ?_ ?_ <;> intro h1 <;> simp (disch := omega) only [Sh.out h1, go_sem, seval]
  ·have hk2 : k < L.length := by omega
   have hp := h _ (Zi hk2);simp (disch := omega) only [hp, go_sem, seval];exact ⟨k + 1, by omega, by omega, wk⟩
def Zdp (L : List (Bool × List Int)) (k j : Nat) : Int := ((L.take k).map fun p => nth p.2 j).sum
theorem ZaD {L : List (Bool × List Int)} {k j : Nat} (h : k < L.length) : Zdp L (k + 1) j = Zdp L k j + nth (nth L k).2 j := by
 rw [Zdp, Zdp, List.take_succ_eq_append_getElem h, List.map_append, List.sum_append, Ze h]; simp
theorem ZcC {L : List (Bool × List Int)} {d j : Nat} (h : ∀ p ∈ L, p.2.length = d /\ ∀ n ∈ p.2, 0 <= n /\ n <= 1000) (hj : j < d) : ∀ k, k <= L.length -> 0 <= Zdp L k j /\ Zdp L k j <= 1000 * (k : Int)
 | 0, _ => by simp [Zdp]
 | k + 1, hk => by
  have ih := ZcC h hj k (by omega);obtain ⟨h1, h2⟩ := h _ (Zi (show k < L.length by omega));have := h2 _ (Zi (show j < (nth L k).2.length by omega));rw [ZaD (by omega)];omega
def ZuN (L : List (Bool × List Int)) (d : Nat) : List Int := (List.range d).map fun j => Zdp L L.length j
theorem ZlP (L : List (Bool × List Int)) (c : Bool) (d : Nat) (hd : 1 <= d /\ d <= 3) (hL : L.length <= 1048576) (h : ∀ p ∈ L, p.2.length = d /\ ∀ n ∈ p.2, 0 <= n /\ n <= 1000) :
  PT 314 [.p (.list c (L.map eR)), .p (.int .i64 (d : Nat))] [.p (.list false ((ZuN L d).map eI)), .p (.int .i64 0)] := by
 refine Zc [13] Tryz.func314 rfl Zrd ?_;simp (disch := omega) only [Tryz.f314, go_sem, seval];refine (ZhL L c d hd.2 hL fun p hp => (h p hp).1).use ?_;simp (disch := omega) only [go_sem, seval];refine ZI [13] [0, 1] (fun q : Nat × List Int => [(6, .sl 0 0 q.2.length q.2.length), (7, .p (.int .i64 q.1))]) (fun q => [.elems 1 (q.2.map eI)]) (fun q => q.1 <= d /\ q.2 = (List.range q.1).map fun j => Zdp L L.length j) (fun q => d - q.1) (0, []) (by simp) (Weak.ofNil 6 1 rfl (by simp) (Weak.mk ?_)) ?_
 ·simp (disch := omega) only [List.map_nil, List.length_nil, go_sem, seval]
 ·rintro ⟨j, o⟩ ⟨hj, ho⟩;simp only at hj ho
  have hol : o.length = j := by rw [ho]; simp
  simp (disch := omega) only [go_sem, seval];refine cD ?_ ?_ <;> intro h1 <;> simp (disch := omega) only [Sh.out h1, go_sem, seval]
  ·have hj2 : j < d := by omega
   refine Zf [0, 1, 6, 7] (fun k : Nat => [(8, .p (.int .i64 (Zdp L k j))), (9, .p (.int .i64 k))]) (fun _ => [.elems 1 (o.map eI)]) (fun k => k <= L.length) (fun k => L.length - k) 0 (by simp) (Weak.mk ?_) ?_
   ·simp (disch := omega) only [Zdp, List.take_zero, List.map_nil, List.sum_nil, go_sem, seval]
   ·intro k hk;simp (disch := omega) only [go_sem, seval];refine cD ?_ ?_ <;> intro h2 <;> simp (disch := omega) only [Sh.out h2, go_sem, seval]
    ·have hk2 : k < L.length := by omega
     obtain ⟨g1, g2⟩ := h _ (Zi hk2);have g3 := g2 _ (Zi (show j < (nth L k).2.length by omega));have g4 := ZcC h hj2 k hk;have g5 := ZaD (j := j) hk2
     have g6 : j < (nth L k).2.length := by omega
     simp (disch := omega) only [go_sem, seval];exact ⟨k + 1, by omega, by omega, Weak.mk (by simp (disch := omega) only [g5, go_sem, seval])⟩
    ·have hkl : k = L.length := by omega
     subst hkl;refine ⟨(j + 1, o ++ [Zdp L L.length j]), ⟨by simp only; omega, by simp only; rw [ho, List.range_succ, List.map_append]; rfl⟩, by simp only; omega, Weak.mk (by simp (disch := omega) only [List.length_append, List.length_cons, List.length_nil, List.map_append, List.map_cons, List.map_nil, go_sem, seval])⟩
  ·have hjd : j = d := by omega
   subst hjd;refine Zm (Weak.fz (o := 0) (by rfl)) ?_;refine Zd [] _ _ _ _ ?_;simp (disch := omega) only [List.map_cons, List.map_nil, List.set_cons_succ, List.set_cons_zero, go_sem, seval];rw [ZuN, <- ho];exact we
theorem Zid (a b : List Int) (c d : Bool) (ha : a.length <= 1048576) (hb : b.length <= 1048576) : PC 227 [.p (.list c (a.map eI)), .p (.list d (b.map eI))] (.bool (YT a b)) := by
 refine Za Tryz.func227 rfl ZoZ ?_;simp (disch := omega) only [Tryz.f227, go_sem, seval];refine cD ?_ ?_ <;> intro h1 <;> simp (disch := omega) only [Sh.out h1, go_sem, seval]
 ·have : ¬ a.length = b.length := by omega
  simp [YT, this]
 ·have h1' : a.length = b.length := by omega
  refine Zf [0, 1] (fun k : Nat => [(5, .p (.int .i64 k))]) (fun _ => []) (fun k => k <= a.length /\ ∀ j, j < k -> nth a j <= nth b j) (fun k => a.length - k) 0 (by simp) (Weak.mk ?_) ?_
  ·simp (disch := omega) only [go_sem, seval]
  ·rintro k ⟨hk, hno⟩;simp (disch := omega) only [go_sem, seval];refine cD ?_ ?_ <;> intro h2 <;> simp (disch := omega) only [Sh.out h2, go_sem, seval]
   ·have hk2 : k < a.length := by omega
    refine Zj mixed (by kernel_rfl) (by kernel_rfl) ?_;simp (disch := omega) only [go_sem, seval];refine cD ?_ ?_ <;> intro h3 <;> simp (disch := omega) only [Sh.out h3, go_sem, seval]
    ·have : YT a b = false := by
      cases hf : YT a b with
      | false => rfl
      | true => simp [YT, List.all_eq_true] at hf; have := hf.2 k hk2; omega
     rw [this]
    ·exact ⟨k + 1, ⟨by omega, Zh.2 ⟨hno, by omega⟩⟩, by omega, wk⟩
   ·have hkl : k = a.length := by omega
    subst hkl
    have : YT a b = true := by
     simp only [YT, Bool.and_eq_true, decide_eq_true_eq, List.all_eq_true, List.mem_range];exact ⟨h1', fun i hi => hno i hi⟩
    rw [this]
theorem ZhE (x : Inst) (ht : x.types.length <= 1048576) : PC 315 [.p (Zy x)] (.int .i64 (dimsOf x.types)) := by
 refine Za Tryz.func315 rfl ZsE ?_;simp (disch := omega) only [Tryz.f315, go_sem, seval];refine cD ?_ ?_ <;> intro h1 <;> simp (disch := omega) only [Sh.out h1, go_sem, seval]
 ·have : x.types.length = 0 := by omega
  simp [dimsOf, this]
 ·have h2 : ¬ x.types.length = 0 := by omega
  simp only [dimsOf, h2, if_false]
structure LdOk (x : Inst) : Prop where
 ord : x.orders.length <= 10
 typ : x.types.length <= 1048576
 dim : 1 <= dimsOf x.types /\ dimsOf x.types <= 3
 load : ∀ o ∈ x.orders, (o.load.length : Int) = dimsOf x.types /\ ∀ n ∈ o.load, 0 <= n /\ n <= 1000
theorem Wo {x : Inst} (h : InstOk x) : LdOk x := by
 have ht := h.types.1;simp only [rng, decide_eq_true_eq] at ht;have ho := h.orders
 have h0 : 0 < x.types.length := by omega
 have hcap := h.types.2 0 h0;unfold QT at hcap;obtain ⟨⟨⟨⟨⟨⟨⟨⟨_, _⟩, _⟩, _⟩, hcap⟩, _⟩, _⟩, _⟩, _⟩ := hcap;simp only [W7, Bool.and_eq_true, decide_eq_true_eq, rng] at hcap;refine ⟨ho.1, by omega, by omega, fun o hm => ?_⟩;obtain ⟨i, hi, rfl⟩ := List.mem_iff_getElem.1 hm;have := (ho.2 i hi).load;rw [Ze hi] at this;simp only [loadOk, Bool.and_eq_true, decide_eq_true_eq, List.all_eq_true, rng] at this;exact ⟨this.1, this.2⟩
def ZgY (x : Inst) (l : List Vis) (n k : Nat) : List (Bool × List Int) := ((List.range k).filter fun i => onB x l n i && We l i).map fun i => ((nth x.orders i).load_c, (nth x.orders i).load)
theorem Zf0 {x : Inst} {l : List Vis} {n k : Nat} : ZgY x l n (k + 1) = ZgY x l n k ++ if (onB x l n k && We l k) = true then [((nth x.orders k).load_c, (nth x.orders k).load)] else [] := by
 unfold ZgY;rw [List.range_succ, List.filter_append, List.map_append]
 congr 1
 simp only [List.filter_cons, List.filter_nil]
 split <;> rfl
theorem ZhU {x : Inst} {l : List Vis} {n : Nat} : ∀ k, (ZgY x l n k).length <= k := fun k => by
 unfold ZgY;have := List.length_filter_le (fun i => onB x l n i && We l i) (List.range k);simp only [List.length_map, List.length_range] at this ⊢;exact this
theorem ZlE {x : Inst} {l : List Vis} {n k : Nat} (h : LdOk x) (hk : k <= x.orders.length) : ∀ p ∈ ZgY x l n k, p.2.length = (dimsOf x.types).toNat /\ ∀ m ∈ p.2, 0 <= m /\ m <= 1000 := fun p hp => by
 obtain ⟨i, hi, rfl⟩ := List.mem_map.1 hp;have hi2 := List.mem_range.1 (List.mem_filter.1 hi).1;have := h.load _ (Zi (show i < x.orders.length by omega));exact ⟨by simp only; omega, this.2⟩
theorem ZhK {x : Inst} {l : List Vis} {n : Nat} : ZuN (ZgY x l n x.orders.length) (dimsOf x.types).toNat = Wi x l n := by
 unfold ZuN Wi;refine List.map_congr_left fun j _ => ?_;rw [Zdp, List.take_length, ZgY, List.map_map, Zek, <- WN]
 rfl
def onK (x : Inst) (l : List Vis) (n i k : Nat) : Bool := (l.take (min k n)).foldl (fun on v => if v.order = (i : Int) then !v.drp else on) (decide ((nth x.orders i).pick.place < 0))
def ZkR (l : List Vis) (i k : Nat) : Bool := (l.take k).any fun v => decide (v.order = (i : Int))
theorem ZhA {x : Inst} {l : List Vis} {n i k : Nat} (h : k < l.length) : onK x l n i (k + 1) = if (nth l k).order = (i : Int) then (if k < n then !(nth l k).drp else onK x l n i k) else onK x l n i k := by
 unfold onK
 by_cases hn : k < n
 ·rw [show min (k + 1) n = min k n + 1 by omega, show min k n = k by omega, List.take_succ_eq_append_getElem h, List.foldl_append, Ze h];simp [hn]
 ·rw [show min (k + 1) n = min k n by omega];simp [hn]
theorem Zfm {l : List Vis} {i k : Nat} (h : k < l.length) : ZkR l i (k + 1) = if (nth l k).order = (i : Int) then true else ZkR l i k := by
 unfold ZkR;rw [List.take_succ_eq_append_getElem h, List.any_append, Ze h]
 by_cases hc : (l[k]).order = (i : Int) <;> simp [hc]
theorem ZlG {x : Inst} {l : List Vis} {n i : Nat} (h : n <= l.length) : onK x l n i l.length = onB x l n i := by
 unfold onK onB;rw [show min l.length n = n by omega]
theorem ZiV {l : List Vis} {i : Nat} : ZkR l i l.length = We l i := by unfold ZkR We; rw [List.take_length]
theorem Zgc (x : Inst) (l : List Vis) (c : Bool) (n : Nat) (hx : LdOk x) (hl : l.length <= 1048576) (hn : n <= l.length) :
  PT 286 [.p (Zy x), .p (.list c (l.map eVis)), .p (.int .i64 (n : Nat))] [.p (.list false ((Wi x l n).map eI)), .p (.int .i64 0)] := by
 have ho := hx.ord;refine Zc [15] Tryz.func286 rfl Ztt ?_;simp (disch := omega) only [Tryz.f286, go_sem, seval];refine ZI [15] [1, 2, 3] (fun q : Nat × List (Bool × List Int) => [(8, .sl 1 0 q.2.length q.2.length), (9, .p (.int .i64 q.1))]) (fun q => [Zb x, .elems 1 (q.2.map eR)]) (fun q => q.1 <= x.orders.length /\ q.2 = ZgY x l n q.1) (fun q => x.orders.length - q.1) (0, []) (by simp [ZgY]) (Weak.ofNil 8 1 rfl (by simp) (Weak.mk ?_)) ?_
 ·simp (disch := omega) only [Zb, List.map_nil, List.length_nil, List.cons_append, List.nil_append, go_sem, seval]
 ·rintro ⟨i, o⟩ ⟨hi, hob⟩;simp only at hi hob
  have hol : o.length <= i := by rw [hob]; exact ZhU i
  simp (disch := omega) only [Zb, go_sem, seval];refine cD ?_ ?_ <;> intro h1 <;> simp (disch := omega) only [Sh.out h1, go_sem, seval]
  ·have hi2 : i < x.orders.length := by omega
   refine Zf [1, 2, 3, 8, 9] (fun k : Nat => [(10, .p (.bool (onK x l n i k))), (11, .p (.bool (ZkR l i k))), (12, .p (.int .i64 k))]) (fun _ => [Zb x, .elems 1 (o.map eR)]) (fun k => k <= l.length) (fun k => l.length - k) 0 (by simp) (Weak.mk ?_) ?_
   ·simp (disch := omega) only [Zb, onK, ZkR, Nat.zero_min, List.take_zero, List.foldl_nil, List.any_nil, go_sem, seval]
   ·intro k hk;simp (disch := omega) only [Zb, go_sem, seval];refine cD ?_ ?_ <;> intro h2 <;> simp (disch := omega) only [Sh.out h2, go_sem, seval]
    ·have hk2 : k < l.length := by omega
     have s1 := ZhA (x := x) (n := n) (i := i) hk2;have s2 := Zfm (i := i) hk2;refine cD ?_ ?_ <;> intro h3 <;> simp (disch := omega) only [Sh.out h3, go_sem, seval]
     ·rw [if_neg h3] at s1 s2;exact ⟨k + 1, by omega, by omega, Weak.mk (by simp (disch := omega) only [Zb, s1, s2, go_sem, seval])⟩
     ·have h3' := Classical.not_not.1 h3;rw [if_pos h3'] at s1 s2;refine cD ?_ ?_ <;> intro h4 <;> simp (disch := omega) only [Sh.out h4, go_sem, seval]
      ·rw [if_pos (by omega)] at s1;exact ⟨k + 1, by omega, by omega, Weak.mk (by simp (disch := omega) only [Zb, s1, s2, go_sem, seval])⟩
      ·rw [if_neg (by omega)] at s1;exact ⟨k + 1, by omega, by omega, Weak.mk (by simp (disch := omega) only [Zb, s1, s2, go_sem, seval])⟩
    ·have hkl : k = l.length := by omega
     subst hkl;have s3 := Zf0 (x := x) (l := l) (n := n) (k := i);rw [ZlG hn, ZiV];refine gT ?_ ?_ <;> intro h5 <;> simp (disch := omega) only [Sh.out h5, go_sem, seval]
     ·refine cD ?_ ?_ <;> intro h6 <;> simp (disch := omega) only [Sh.out h6, go_sem, seval]
      ·rw [h5, h6, Bool.and_self, if_pos rfl] at s3;exact ⟨(i + 1, o ++ [((nth x.orders i).load_c, (nth x.orders i).load)]), ⟨by simp only; omega, by simp only; rw [s3, hob]⟩, by simp only; omega, Weak.mk (by simp (disch := omega) only [Zb, List.length_append, List.length_cons, List.length_nil, List.map_append, List.map_cons, List.map_nil, go_sem, seval])⟩
      ·rw [h5, h6, Bool.and_false, if_neg (by simp), List.append_nil] at s3;exact ⟨(i + 1, o), ⟨by simp only; omega, by simp only; rw [s3, hob]⟩, by simp only; omega, Weak.mk (by simp (disch := omega) only [Zb, go_sem, seval])⟩
     ·have h5' : onB x l n i = false := by simpa using h5
      rw [h5', Bool.false_and, if_neg (by simp), List.append_nil] at s3;exact ⟨(i + 1, o), ⟨by simp only; omega, by simp only; rw [s3, hob]⟩, by simp only; omega, Weak.mk (by simp (disch := omega) only [Zb, go_sem, seval])⟩
  ·have hik : i = x.orders.length := by omega
   subst hik
   have hD : dimsOf x.types = ((dimsOf x.types).toNat : Int) := by have := hx.dim; omega
   have hok := ZlE (l := l) (n := n) hx (Nat.le_refl _);rw [<- hob] at hok;have hs := ZhK (x := x) (l := l) (n := n);rw [<- hob] at hs;refine Zm (Weak.fz (o := 1) (by rfl)) ?_;refine Zd [] _ _ _ _ ?_;simp (disch := omega) only [List.map_cons, List.map_nil, List.set_cons_succ, List.set_cons_zero, go_sem, seval];refine (ZhE x hx.typ).use ?_;simp (disch := omega) only [go_sem, seval];rw [hD];refine Xp (ZlP o false (dimsOf x.types).toNat (by have := hx.dim; omega) (by omega) hok) ?_;simp (disch := omega) only [go_sem, seval];rw [<- hs];exact we
def eIL (l : List Int) : PV := .list false (l.map eI)
@[go_sem] theorem Zof (l : List Int) : eIL l = .list false (l.map eI) := Eq.trans rfl rfl
def VK (x : Inst) (l : List Vis) : List (List Int) := (List.range (l.length + 1)).map (Wi x l)
theorem ZeD (x : Inst) (r : Rte) (hx : InstOk x) (hl : r.visits.length <= 1048576) (h0 : ZW x r.visits = 0) (hchk : PC 173 [.p (Zy x), .p (Yq r)] (.int .i64 (ZW x r.visits))) :
  PT 226 [.p (Zy x), .p (Yq r)] [.p (.list false ((VK x r.visits).map eIL)), .p (.int .i64 0)] := by
 have hd := Wo hx;refine Zc [12] Tryz.func226 rfl Zpv ?_;simp (disch := omega) only [Tryz.f226, go_sem, seval];refine (hchk).use ?_;simp (disch := omega) only [go_sem, seval];simp (disch := omega) only [h0, go_sem, seval];refine ZI [12] [2, 3] (fun q : Nat × List (List Int) => [(7, .sl 2 0 q.2.length q.2.length), (8, .p (.int .i64 q.1))]) (fun q => [Zb x, Zw r, .elems 1 (q.2.map eIL)]) (fun q => q.1 <= r.visits.length + 1 /\ q.2 = (List.range q.1).map (Wi x r.visits)) (fun q => r.visits.length + 1 - q.1) (0, []) (by simp) (Weak.ofNil 7 1 rfl (by simp) (Weak.mk ?_)) ?_
 ·simp (disch := omega) only [Zb, Zw, List.map_nil, List.length_nil, List.cons_append, List.nil_append, go_sem, seval]
 ·rintro ⟨k, o⟩ ⟨hk, ho⟩;simp only at hk ho
  have hol : o.length = k := by rw [ho]; simp
  simp (disch := omega) only [Zb, Zw, go_sem, seval];refine cD ?_ ?_ <;> intro h1 <;> simp (disch := omega) only [Sh.out h1, go_sem, seval]
  ·refine Xp (Zgc x r.visits r.visits_c k hd hl (by omega)) ?_;simp (disch := omega) only [go_sem, seval];exact ⟨(k + 1, o ++ [Wi x r.visits k]), ⟨by simp only; omega, by simp only; rw [ho, List.range_succ, List.map_append]; rfl⟩, by simp only; omega, Weak.mk (by simp (disch := omega) only [Zb, Zw, List.length_append, List.length_cons, List.length_nil, List.map_append, List.map_cons, List.map_nil, go_sem, seval])⟩
  ·have hkl : k = r.visits.length + 1 := by omega
   subst hkl;refine Zm (Weak.fz (o := 2) (by rfl)) ?_;refine Zd [] _ _ _ _ ?_;simp (disch := omega) only [List.map_cons, List.map_nil, List.set_cons_succ, List.set_cons_zero, go_sem, seval];rw [VK, <- ho];exact we
theorem ZiL (x : Inst) (r : Rte) (hx : InstOk x) (hl : r.visits.length <= 1048576) (hty : 0 <= r.typ /\ r.typ < (x.types.length : Int)) (h0 : ZW x r.visits = 0) (hchk : PC 173 [.p (Zy x), .p (Yq r)] (.int .i64 (ZW x r.visits))) :
  PC 175 [.p (Zy x), .p (Yq r)] (.int .i64 (if VH x (Z2 x r).cap r.visits = true then 0 else 17)) := by
 have hd := Wo hx;have htl := hd.typ
 have hti : r.typ.toNat < x.types.length := by omega
 have hcp : (nth x.types r.typ.toNat).cap.length <= 3 := by
  have hcap := hx.types.2 _ hti;unfold QT at hcap;obtain ⟨⟨⟨⟨⟨⟨⟨⟨_, _⟩, _⟩, _⟩, hcap⟩, _⟩, _⟩, _⟩, _⟩ := hcap;simp only [W7, Bool.and_eq_true, decide_eq_true_eq, rng] at hcap;omega
 have hll : (VK x r.visits).length = r.visits.length + 1 := by simp [VK]
 have hln : ∀ k, k < r.visits.length + 1 -> nth (VK x r.visits) k = Wi x r.visits k := fun k hk => by
  rw [Ze (by omega)]; simp [VK]
 have hal : ∀ k, (Wi x r.visits k).length <= 3 := fun k => by rw [VF]; have := hd.dim; omega
 have cl := ZeD x r hx hl h0 hchk;unfold Z2
 generalize hL : VK x r.visits = L at *
 refine Za Tryz.func175 rfl ZnS ?_
 have e1 : ¬ r.typ < 0 := by omega
 have e2 : ¬ (x.types.length : Int) <= r.typ := by omega
 simp (disch := omega) only [Tryz.f175, e1, e2, go_sem, seval];refine Xp cl ?_;simp (disch := omega) only [go_sem, seval];refine Zf [2, 3, 5] (fun k : Nat => [(7, .p (.int .i64 k))]) (fun _ => [Zb x, Zw r]) (fun k => k <= r.visits.length + 1 /\ ∀ j, j < k -> YT (Wi x r.visits j) (nth x.types r.typ.toNat).cap = true) (fun k => r.visits.length + 1 - k) 0 (by simp) (Weak.mk ?_) ?_
 ·simp (disch := omega) only [Zb, Zw, go_sem, seval]
 ·rintro k ⟨hk, hno⟩;simp (disch := omega) only [Zb, Zw, hll, go_sem, seval];refine cD ?_ ?_ <;> intro h1 <;> simp (disch := omega) only [Sh.out h1, go_sem, seval]
  ·have hk2 : k < r.visits.length + 1 := by omega
   have hk3 : k < L.length := by omega
   have hk4 := hal k;refine Zj mixed (by kernel_rfl) (by kernel_rfl) ?_;simp (disch := omega) only [hln k hk2, go_sem, seval];refine Zt (Zid (Wi x r.visits k) (nth x.types r.typ.toNat).cap false (nth x.types r.typ.toNat).cap_c (by omega) (by omega)) ?_;simp (disch := omega) only [go_sem, seval];refine cD ?_ ?_ <;> intro h2 <;> simp (disch := omega) only [Sh.out h2, go_sem, seval]
   ·have h2' : YT (Wi x r.visits k) (nth x.types r.typ.toNat).cap = false := by simpa using h2
    have : ¬ VH x (nth x.types r.typ.toNat).cap r.visits = true := fun h => by
     rw [VH, List.all_eq_true] at h;have := h k (List.mem_range.2 hk2);rw [h2'] at this; cases this
    rw [if_neg this]
   ·exact ⟨k + 1, ⟨by omega, Zh.2 ⟨hno, by simpa using h2⟩⟩, by omega, Weak.mk (by simp (disch := omega) only [Zb, Zw, go_sem, seval])⟩
  ·have : VH x (nth x.types r.typ.toNat).cap r.visits = true := by
    rw [VH, List.all_eq_true];intro j hj;exact hno j (by have := List.mem_range.1 hj; omega)
   rw [if_pos this]
def Zka (j : Nat) : Int := if j = 63 then -9223372036854775808 else ((pw j : Nat) : Int)
theorem ZbS {j : Nat} (h : j < 63) : Zka j = ((pw j : Nat) : Int) := by rw [Zka, if_neg (by omega)]
theorem Zp6 {j : Nat} (h : j <= 62) : pw j <= 4611686018427387904 := by have := ZS h; rwa [Ud] at this
theorem ZcK {j : Nat} (h : j <= 63) : 0 < Zka j ↔ j < 63 := by
 unfold Zka
 split
 ·omega
 ·have := Vq j; omega
theorem Zsm {S q : Nat} (hS : S < 9223372036854775808) (h : q <= S) : IntKind.i64.wrap (q : Int) = (q : Int) := by rw [IntKind.wrap_i64]; omega
theorem Zck {P : Program} {t : TypeId} {S j : Nat} (hS : S < 9223372036854775808) : Ye P .quo t (.p (.int .i64 (S : Int))) (.p (.int .i64 ((pw j : Nat) : Int))) = some (.int .i64 ((S / pw j : Nat) : Int)) := by
 have hp := Vq j;rw [Zh3 (by omega)]
 have e : (S : Int).tdiv ((pw j : Nat) : Int) = ((S / pw j : Nat) : Int) := by
  rw [Int.tdiv_eq_ediv_of_nonneg (by omega)]; exact (Int.natCast_ediv _ _).symm
 have hle := Nat.div_le_self S (pw j);rw [e, Zsm hS hle]
theorem ZeA {P : Program} {t : TypeId} {S : Nat} : Ye P .rem t (.p (.int .i64 (S : Int))) (.p (.int .i64 2)) = some (.int .i64 ((S % 2 : Nat) : Int)) := by
 rw [Zhp (by omega), Int.tmod_eq_emod_of_nonneg (by omega)]
 rfl
theorem Zvv {S j : Nat} (hS : S < 9223372036854775808) : (IntKind.i64.wrap ((S : Int) / ((pw j : Nat) : Int))).tmod 2 = ((S / pw j % 2 : Nat) : Int) := by
 have hle := Nat.div_le_self S (pw j);rw [<- Int.natCast_ediv, Zsm hS hle, Int.tmod_eq_emod_of_nonneg (Int.natCast_nonneg _)]
 rfl
theorem Zet {P : Program} {t : TypeId} {j : Nat} (h : j < 63) : Ye P .mul t (.p (.int .i64 ((pw j : Nat) : Int))) (.p (.int .i64 2)) = some (.int .i64 (Zka (j + 1))) := by
 rw [Zg3]
 congr 2
 have hs := Vf j;unfold Zka
 split
 ·have hj : j = 62 := by omega
  subst hj;rw [Ud]; decide
 ·have := Zp6 (show j + 1 <= 62 by omega)
  have e : ((pw j : Nat) : Int) * 2 = ((pw (j + 1) : Nat) : Int) := by omega
  rw [e]
  exact by rw [IntKind.wrap_i64]; omega
theorem Zjb (t : Typ) (s : Int) (h1 : t.skills < 9223372036854775808) (h2 : s < 9223372036854775808) : PC 174 [.p (Jk t), .p (.int .i64 s)] (.bool (Ym t s)) := by
 refine Za Tryz.func174 rfl ZqA ?_;simp (disch := omega) only [Tryz.f174, go_sem, seval];refine gF ?_ ?_ <;> intro c1 <;> simp (disch := omega) only [Sh.out c1, go_sem, seval]
 ·have : Ym t s = false := by
   have : ¬ 0 <= t.skills := by omega
   simp [Ym, this]
  rw [this]
 ·refine cD ?_ ?_ <;> intro c2 <;> simp (disch := omega) only [Sh.out c2, go_sem, seval]
  ·have : Ym t s = false := by
    have : ¬ 0 <= s := by omega
    simp [Ym, this]
   rw [this]
  ·obtain ⟨M, hM⟩ : ∃ M : Nat, t.skills = (M : Int) := ⟨t.skills.toNat, by omega⟩;obtain ⟨S, rfl⟩ : ∃ S : Nat, s = (S : Int) := ⟨s.toNat, by omega⟩
   have hMl : M < 9223372036854775808 := by omega
   have hSl : S < 9223372036854775808 := by omega
   have hab : ∀ b : Bool, ((List.range 63).all fun i => !S.testBit i || M.testBit i) = b -> Ym t (S : Int) = b := fun b hb => by
    have g1 : 0 <= t.skills := by omega
    have g2 : (0 : Int) <= (S : Int) := by omega
    simp only [Ym, g1, g2, decide_true, Bool.true_and, hM, Int.toNat_natCast];exact hb
   refine Zf [1, 2] (fun j : Nat => [(5, .p (.int .i64 (Zka j)))]) (fun _ => [Xj t]) (fun j => j <= 63 /\ ∀ i, i < j -> (!S.testBit i || M.testBit i) = true) (fun j => 63 - j) 0 (by simp) (Weak.mk ?_) ?_
   ·simp (disch := omega) only [Xj, hM, show Zka 0 = 1 from rfl, go_sem, seval]
   ·rintro j ⟨hj, hno⟩;simp (disch := omega) only [Xj, hM, go_sem, seval];refine cD ?_ ?_ <;> intro c3 <;> simp (disch := omega) only [Sh.out c3, go_sem, seval]
    ·have hj2 : j < 63 := (ZcK hj).1 c3;simp (disch := omega) only [ZbS hj2, Zck hSl, Zck hMl, Zvv hSl, Zvv hMl, ZeA, Zet hj2, Zbq, ZeS, go_sem, seval];refine gT ?_ ?_ <;> intro c4 <;> simp (disch := omega) only [Sh.out c4, ZbS hj2, Zck hSl, Zck hMl, Zvv hSl, Zvv hMl, ZeA, Zet hj2, Zbq, ZeS, go_sem, seval]
     ·refine cD ?_ ?_ <;> intro c5 <;> simp (disch := omega) only [Sh.out c5, ZbS hj2, Zet hj2, go_sem, seval]
      ·rw [hab false (by rw [List.all_eq_false]; exact ⟨j, List.mem_range.2 hj2, by simp [c4, c5]⟩)]
      ·exact ⟨j + 1, ⟨by omega, Zh.2 ⟨hno, by simp [c4] at c5 ⊢; exact c5⟩⟩, by omega, Weak.mk (by simp (disch := omega) only [Xj, hM, go_sem, seval])⟩
     ·exact ⟨j + 1, ⟨by omega, Zh.2 ⟨hno, by simp at c4; simp [c4]⟩⟩, by omega, Weak.mk (by simp (disch := omega) only [Xj, hM, go_sem, seval])⟩
    ·have hj63 : j = 63 := by
      rcases Nat.lt_or_ge j 63 with h | h
      ·exact absurd ((ZcK hj).2 h) c3
      ·omega
     subst hj63;rw [hab true (by rw [List.all_eq_true]; intro i hi; exact hno i (List.mem_range.1 hi))]
def Zln (s : Stp) (a : Int) : Int × Int := if max a s.opn > s.cls then (0, 14) else (max a s.opn, 0)
theorem Zlj (s : Stp) (a : Int) : PT 324 [.p (ZiY s), .p (.int .i64 a)] [.p (.int .i64 (Zln s a).1), .p (.int .i64 (Zln s a).2)] := by
 refine Zc [] Tryz.func324 rfl Zs5 ?_;simp (disch := omega) only [Tryz.f324, go_sem, seval];refine cD ?_ ?_ <;> intro h <;> simp (disch := omega) only [Sh.out h, go_sem, seval]
 ·have e : Zln s a = (0, 14) := by rw [Zln, if_pos (by omega)]
  rw [e];exact we
 ·have e : Zln s a = (max a s.opn, 0) := by rw [Zln, if_neg (by omega)]
  rw [e];exact we
theorem Ziw (l : List Ord) (c : Bool) (p : Int) (hl : l.length <= 1048576) : PC 246 [.p (.list c (l.map UP)), .p (.int .i64 p)] (.bool (decide (0 <= p) && decide (p < (l.length : Int)))) := by
 refine Za Tryz.func246 rfl Zju ?_;simp (disch := omega) only [Tryz.f246, go_sem, seval];refine gT ?_ ?_ <;> intro h <;> simp (disch := omega) only [Sh.out h, go_sem, seval]
 all_goals simp [h]
theorem ZgG (x : Inst) (v : Vis) (ho : x.orders.length <= 1048576) (hv : inB x v = true) (hp : 0 <= (XH x v).place) : PT 218 [.p (.list x.orders_c (x.orders.map UP)), .p (eVis v)] [.p (ZiY (XH x v)), .p (.int .i64 0)] := by
 refine Zc [] Tryz.func218 rfl ZsG ?_;simp (disch := omega) only [Tryz.f218, go_sem, seval];have hv' := hv;rw [inB] at hv';have ct := Ziw x.orders x.orders_c v.order ho;rw [hv'] at ct;refine ct.use ?_;simp only [Bool.and_eq_true, decide_eq_true_eq] at hv';obtain ⟨h1, h2⟩ := hv'
 have hi : v.order.toNat < x.orders.length := by omega
 simp (disch := omega) only [go_sem, seval];refine cD ?_ ?_ <;> intro hd <;> simp (disch := omega) only [Sh.out hd, go_sem, seval]
 ·have e : XH x v = (nth x.orders v.order.toNat).drp := by simp [XH, hd]
  rw [e] at hp ⊢
  have e3 : ¬ (nth x.orders v.order.toNat).drp.place < 0 := by omega
  simp (disch := omega) only [e3, go_sem, seval];exact we
 ·have e : XH x v = (nth x.orders v.order.toNat).pick := by simp [XH, hd]
  rw [e] at hp ⊢
  have e3 : ¬ (nth x.orders v.order.toNat).pick.place < 0 := by omega
  simp (disch := omega) only [e3, go_sem, seval];exact we
theorem ZlL (l : List Typ) (c : Bool) (ht : l.length <= 1048576) : PC 304 [.p (.list c (l.map Jk))] (.int .i64 (dimsOf l)) := by
 refine Za Tryz.func304 rfl Zqw ?_;simp (disch := omega) only [Tryz.f304, go_sem, seval];refine cD ?_ ?_ <;> intro h1 <;> simp (disch := omega) only [Sh.out h1, go_sem, seval]
 ·have : l.length = 0 := by omega
  simp [dimsOf, this]
 ·have h2 : ¬ l.length = 0 := by omega
  simp only [dimsOf, h2, if_false]
theorem Zkj (a b : List Int) (c d : Bool) (ha : a.length <= 1048576) (hb : b.length <= 1048576) : PC 271 [.p (.list c (a.map eI)), .p (.list d (b.map eI))] (.bool (YT a b)) := by
 refine Za Tryz.func271 rfl Zqx ?_;simp (disch := omega) only [Tryz.f271, go_sem, seval];refine cD ?_ ?_ <;> intro h1 <;> simp (disch := omega) only [Sh.out h1, go_sem, seval]
 ·have : ¬ a.length = b.length := by omega
  simp [YT, this]
 ·have h1' : a.length = b.length := by omega
  refine Zf [1, 12, 13] (fun k : Nat => [(14, .p (.int .i64 k))]) (fun _ => []) (fun k => k <= a.length /\ ∀ j, j < k -> nth a j <= nth b j) (fun k => a.length - k) 0 (by simp) (Weak.mk ?_) ?_
  ·simp (disch := omega) only [go_sem, seval]
  ·rintro k ⟨hk, hno⟩;simp (disch := omega) only [go_sem, seval];refine cD ?_ ?_ <;> intro h2 <;> simp (disch := omega) only [Sh.out h2, go_sem, seval]
   ·have hk2 : k < a.length := by omega
    refine cD ?_ ?_ <;> intro h3 <;> simp (disch := omega) only [Sh.out h3, go_sem, seval]
    ·have : YT a b = false := by
      cases hf : YT a b with
      | false => rfl
      | true => simp [YT, List.all_eq_true] at hf; have := hf.2 k hk2; omega
     rw [this]
    ·exact ⟨k + 1, ⟨by omega, Zh.2 ⟨hno, by omega⟩⟩, by omega, wk⟩
   ·have hkl : k = a.length := by omega
    subst hkl
    have : YT a b = true := by
     simp only [YT, Bool.and_eq_true, decide_eq_true_eq, List.all_eq_true, List.mem_range];exact ⟨h1', fun i hi => hno i hi⟩
    rw [this]
theorem ZbU {S M : Nat} (hS : S < 9223372036854775808) : (IntKind.i64.wrap ((BitVec.ofInt 64 (S : Int) &&& ~~~BitVec.ofInt 64 (M : Int)).toNat : Int) = 0) ↔ ((List.range 63).all fun i => !S.testBit i || M.testBit i) = true := by
 rw [BitVec.ofInt_natCast, BitVec.ofInt_natCast]
 have hz : (BitVec.ofNat 64 S &&& ~~~BitVec.ofNat 64 M).toNat <= S := by
  rw [BitVec.toNat_and];exact Nat.le_trans Nat.and_le_left (by simp [Nat.mod_le])
 have hw : IntKind.i64.wrap ((BitVec.ofNat 64 S &&& ~~~BitVec.ofNat 64 M).toNat : Int) = ((BitVec.ofNat 64 S &&& ~~~BitVec.ofNat 64 M).toNat : Int) := by rw [IntKind.wrap_i64]; omega
 rw [hw]
 constructor
 ·intro h;have h0 : BitVec.ofNat 64 S &&& ~~~BitVec.ofNat 64 M = 0#64 := BitVec.eq_of_toNat_eq (by rw [BitVec.toNat_ofNat]; omega);rw [List.all_eq_true];intro i hi;have hi := List.mem_range.1 hi;have := congrArg (fun b => b.getLsbD i) h0;simp only [BitVec.getLsbD_and, BitVec.getLsbD_not, BitVec.getLsbD_ofNat, show i < 64 by omega, decide_true, Bool.true_and, BitVec.getLsbD_zero] at this
  cases h1 : S.testBit i <;> cases h2 : M.testBit i <;> simp [h1, h2] at this ⊢
 ·intro h
  have h0 : BitVec.ofNat 64 S &&& ~~~BitVec.ofNat 64 M = 0#64 := by
   apply BitVec.eq_of_getLsbD_eq;intro i hi;simp only [BitVec.getLsbD_and, BitVec.getLsbD_not, BitVec.getLsbD_ofNat, hi, decide_true, Bool.true_and, BitVec.getLsbD_zero]
   by_cases g : i < 63
   ·have := List.all_eq_true.1 h i (List.mem_range.2 g)
    cases h1 : S.testBit i <;> cases h2 : M.testBit i <;> simp [h1, h2] at this ⊢
   ·have hi63 : i = 63 := by omega
    subst hi63;rw [Nat.testBit_lt_two_pow (by simpa using hS)]; rfl
  rw [h0]; rfl
theorem Zk2 (t : Typ) (s : Int) (h1 : t.skills < 9223372036854775808) (h2 : s < 9223372036854775808) : PC 267 [.p (Jk t), .p (.int .i64 s)] (.bool (Ym t s)) := by
 refine Za Tryz.func267 rfl Zqj ?_;simp (disch := omega) only [Tryz.f267, go_sem, seval];refine gT ?_ ?_ <;> intro c1 <;> simp (disch := omega) only [Sh.out c1, go_sem, seval]
 ·refine gT ?_ ?_ <;> intro c2 <;> simp (disch := omega) only [Sh.out c2, go_sem, seval]
  ·obtain ⟨M, hM⟩ : ∃ M : Nat, t.skills = (M : Int) := ⟨t.skills.toNat, by omega⟩;obtain ⟨S, rfl⟩ : ∃ S : Nat, s = (S : Int) := ⟨s.toNat, by omega⟩;have hb := ZbU (S := S) (M := M) (by omega)
   have e : Ym t (S : Int) = (List.range 63).all fun i => !S.testBit i || M.testBit i := by
    have g1 : (0 : Int) <= (M : Int) := by omega
    have g2 : (0 : Int) <= (S : Int) := c2;simp only [Ym, hM, g1, g2, decide_true, Bool.true_and, Int.toNat_natCast]
   have hd : decide (IntKind.i64.wrap ((BitVec.ofInt 64 (S : Int) &&& ~~~BitVec.ofInt 64 (M : Int)).toNat : Int) = 0) = ((List.range 63).all fun i => !S.testBit i || M.testBit i) := by
    rw [Bool.eq_iff_iff];simp only [decide_eq_true_eq];exact hb
   rw [e, hM];exact congrArg (fun b => V.p (PV.bool b)) hd
  ·have : ¬ 0 <= s := by omega
   simp [Ym, this]
 ·have : ¬ 0 <= t.skills := by omega
  simp [Ym, this]
theorem ZoF (a b : Int) (h : -1073741824 <= a /\ a <= 1073741824 /\ -1073741824 <= b /\ b <= 1073741824) : PC 329 [.p (.int .i64 a), .p (.int .i64 b)] (.int .i64 (a + b)) := by
 refine Za Tryz.func329 rfl Zoe ?_;simp (disch := omega) only [Tryz.f329, go_sem, seval]
theorem ZkM (a b : Int) (h : -1073741824 <= a /\ a <= 1073741824 /\ -1073741824 <= b /\ b <= 1073741824) : PC 330 [.p (.int .i64 a), .p (.int .i64 b)] (.int .i64 (a - b)) := by
 refine Za Tryz.func330 rfl Zo2 ?_;simp (disch := omega) only [Tryz.f330, go_sem, seval]
def mkR (f : Nat -> Int) (n k : Nat) : List Int := (List.range n).map fun j => if j < k then f j else 0
theorem ZmG {f : Nat -> Int} {n k : Nat} : (mkR f n k).length = n := by simp [mkR]
theorem ZiJ {f : Nat -> Int} {n : Nat} : mkR f n 0 = List.replicate n 0 := by
 apply List.ext_getElem (by simp [mkR]); intro i h1 h2; simp [mkR]
theorem Zhr {f : Nat -> Int} {n : Nat} : mkR f n n = (List.range n).map f := by
 apply List.ext_getElem (by simp [mkR]); intro i h1 h2;simp [mkR] at h1 ⊢; omega
theorem ZlV {f : Nat -> Int} {n k : Nat} (h : k < n) : (mkR f n k).set k (f k) = mkR f n (k + 1) := by
 apply List.ext_getElem (by simp [mkR]); intro i h1 h2;rw [List.getElem_set];simp [mkR] at h1 ⊢
 split
 ·rename_i e; subst e; simp
 ·rename_i e
  have : (i < k) ↔ (i < k + 1) := by omega
  simp only [this]
theorem ZaC (a b : List Int) (c d : Bool) (g : FuncId) (f : Int -> Int -> Int) (hl : a.length = b.length) (ha : a.length <= 1048576)
  (hf : ∀ j, j < a.length -> ACalls Tryz.prog g [.p (.int .i64 (nth a j)), .p (.int .i64 (nth b j))] [] fun x H' => x = .p (.int .i64 (f (nth a j) (nth b j))) /\ H' = []) :
  PT 328 [.p (.list c (a.map eI)), .p (.list d (b.map eI)), .fn (.func g) [] []] [.p (.list false (((List.range a.length).map fun j => f (nth a j) (nth b j)).map eI)), .p (.int .i64 0)] := by
 refine Zc [9] Tryz.func328 rfl Zs7 ?_;simp (disch := omega) only [Tryz.f328, go_sem, seval];refine cD ?_ ?_ <;> intro h0 <;> simp (disch := omega) only [Sh.out h0, go_sem, seval]
 ·omega
 ·have hz := ZiJ (f := fun j => f (nth a j) (nth b j)) (n := a.length);have hml := fun k => ZmG (f := fun j => f (nth a j) (nth b j)) (n := a.length) (k := k);refine ZI [9] [0, 1, 2, 8, 19] (fun k : Nat => [(20, .p (.int .i64 k))]) (fun k => [.elems 1 ((mkR (fun j => f (nth a j) (nth b j)) a.length k).map eI)]) (fun k => k <= a.length) (fun k => a.length - k) 0 (by simp) (Weak.mk ?_) ?_
  ·simp (disch := omega) only [hz, go_sem, seval];rw [List.map_replicate]; rfl
  ·intro k hk;simp (disch := omega) only [go_sem, seval];refine cD ?_ ?_ <;> intro h1 <;> simp (disch := omega) only [Sh.out h1, go_sem, seval]
   ·have hk2 : k < a.length := by omega
    have hs := ZlV (f := fun j => f (nth a j) (nth b j)) (n := a.length) hk2;have hk3 := hml k;refine ZG 12 mixed (by kernel_rfl) (by kernel_rfl) ?_;simp (disch := omega) only [go_sem, seval];refine Zt (hf k hk2) ?_;simp (disch := omega) only [go_sem, seval];simp (disch := first | omega | (simp only [List.length_cons, List.length_nil, List.length_append, List.length_map, List.length_take, List.length_drop] <;> omega)) only [go_sem, seval];refine ⟨k + 1, by omega, by omega, Weak.mk ?_⟩;simp (disch := omega) only [<- hs, go_sem, seval];rw [List.map_set]; rfl
   ·have hkl : k = a.length := by omega
    subst hkl;rw [<- Zhr];have hk3 := hml a.length;refine Zm (Weak.fz (o := 0) (by rfl)) ?_;refine Zd [] _ _ _ _ ?_;simp (disch := omega) only [List.map_cons, List.map_nil, List.set_cons_succ, List.set_cons_zero, go_sem, seval];rw [if_pos hk3];exact we
theorem Zke (a b : List Int) (c d : Bool) (hl : a.length = b.length) (ha : a.length <= 1048576) (h : ∀ j, j < a.length -> -1073741824 <= nth a j /\ nth a j <= 1073741824 /\ -1073741824 <= nth b j /\ nth b j <= 1073741824) : PT 305 [.p (.list c (a.map eI)), .p (.list d (b.map eI))] [.p (.list false ((Zex a b).map eI)), .p (.int .i64 0)] := by
 refine Zc [] Tryz.func305 rfl Zn9 ?_;simp (disch := omega) only [Tryz.f305, go_sem, seval];refine Xp (ZaC a b c d 329 (fun m n => m + n) hl ha fun j hj => ZoF _ _ (h j hj)) ?_;simp (disch := omega) only [Zex, go_sem, seval];exact we
theorem Zn2 (a b : List Int) (c d : Bool) (hl : a.length = b.length) (ha : a.length <= 1048576) (h : ∀ j, j < a.length -> -1073741824 <= nth a j /\ nth a j <= 1073741824 /\ -1073741824 <= nth b j /\ nth b j <= 1073741824) : PT 306 [.p (.list c (a.map eI)), .p (.list d (b.map eI))] [.p (.list false ((Zux a b).map eI)), .p (.int .i64 0)] := by
 refine Zc [] Tryz.func306 rfl Zr5 ?_;simp (disch := omega) only [Tryz.f306, go_sem, seval];refine Xp (ZaC a b c d 330 (fun m n => m - n) hl ha fun j hj => ZkM _ _ (h j hj)) ?_;simp (disch := omega) only [Zux, go_sem, seval];exact we
theorem Zh4 (x : Inst) (r : Rte) (ht : 0 <= r.typ /\ r.typ < (x.types.length : Int)) (hv : ∀ v ∈ r.visits, inB x v = true) (hl : r.visits.length <= 1048576) (hxl : x.types.length <= 1048576) (hol : x.orders.length <= 1048576)
  (hs : (Z2 x r).skills < 9223372036854775808) (ho : ∀ o ∈ x.orders, o.skills < 9223372036854775808) :
  PC 195 [.p (Zy x), .p (Yq r)] (.int .i64 (if (r.visits.any fun v => !Ym (Z2 x r) (nth x.orders v.order.toNat).skills) = true then 18 else 0)) := by
 refine Za Tryz.func195 rfl Zr6 ?_;simp (disch := omega) only [Tryz.f195, go_sem, seval];refine Zf [2, 3, 8, 9] (fun k : Nat => [(10, .p (.int .i64 k))]) (fun _ => [Zb x, .cells [.p (.int .i64 r.typ), .p (.int .i64 r.start), .p (.list r.rests_c (r.rests.map eB)), .p (.list r.visits_c (r.visits.map eVis))]]) (fun k => k <= r.visits.length /\ ∀ j, j < k -> Ym (Z2 x r) (nth x.orders (nth r.visits j).order.toNat).skills = true) (fun k => r.visits.length - k) 0 (by simp) (Weak.mk ?_) ?_
 ·simp (disch := omega) only [Zb, go_sem, seval]
 ·rintro k ⟨hk, hno⟩;simp (disch := omega) only [Zb, go_sem, seval];refine cD ?_ ?_ <;> intro h1 <;> simp (disch := omega) only [Sh.out h1, go_sem, seval]
  ·have hk2 : k < r.visits.length := by omega
   have hin := hv _ (Xm hk2);simp only [inB, Bool.and_eq_true, decide_eq_true_eq] at hin;obtain ⟨i1, i2⟩ := hin
   have hi : (nth r.visits k).order.toNat < x.orders.length := by omega
   have ho' := ho _ (Xm hi);refine Zj mixed (by kernel_rfl) (by kernel_rfl) ?_;simp (disch := omega) only [go_sem, seval];refine Zt (Zk2 (Z2 x r) (nth x.orders (nth r.visits k).order.toNat).skills (by omega) (by omega)) ?_;simp (disch := omega) only [go_sem, seval];refine cD ?_ ?_ <;> intro h2 <;> simp (disch := omega) only [Sh.out h2, go_sem, seval]
   ·have : (r.visits.any fun v => !Ym (Z2 x r) (nth x.orders v.order.toNat).skills) = true := by
     rw [List.any_eq_true]; exact ⟨_, Xm hk2, h2⟩
    rw [if_pos this]
   ·exact ⟨k + 1, ⟨by omega, Zh.2 ⟨hno, by simpa using h2⟩⟩, by omega, Weak.mk (by simp (disch := omega) only [Zb, go_sem, seval])⟩
  ·have : ¬ (r.visits.any fun v => !Ym (Z2 x r) (nth x.orders v.order.toNat).skills) = true := by
    rw [List.any_eq_true];rintro ⟨v, hv, e⟩;obtain ⟨j, hj, rfl⟩ := List.mem_iff_getElem.1 hv;have := hno j (by omega);rw [Ze hj] at this;rw [this] at e; cases e
   rw [if_neg this]
theorem orN {a b : Nat} (ha : a < 4611686018427387904) (hb : b < 4611686018427387904) : IntKind.i64.wrap ((BitVec.ofInt 64 (a : Int) ||| BitVec.ofInt 64 (b : Int)).toNat : Int) = ((a ||| b : Nat) : Int) := by
 have h : (a ||| b) < 2 ^ 62 := Nat.or_lt_two_pow (by simpa using ha) (by simpa using hb);rw [BitVec.ofInt_natCast, BitVec.ofInt_natCast, BitVec.toNat_or, BitVec.toNat_ofNat, BitVec.toNat_ofNat, Nat.mod_eq_of_lt (by omega), Nat.mod_eq_of_lt (by omega), IntKind.wrap_i64];omega
@[go_sem high] theorem Ziv {P : Program} {t : TypeId} {a b : Nat} (ha : a < 4611686018427387904) (hb : b < 4611686018427387904) : Ye P .or t (.p (.int .i64 (a : Int))) (.p (.int .i64 (b : Int))) = some (.int .i64 ((a ||| b : Nat) : Int)) := by
 rw [Zfb]; exact congrArg (fun z => some (PV.int .i64 z)) (orN ha hb)
def stF (x : Inst) (d : Nat) (ms : List Int) (k : Nat) : List Int := (ms.take k).foldl (fun s i => if (nth x.orders i.toNat).pick.place < 0 then Zex s (nth x.orders i.toNat).load else s) (List.replicate d 0)
theorem Zcy {x : Inst} {d : Nat} {ms : List Int} {k : Nat} (h : k < ms.length) : stF x d ms (k + 1) = if (nth x.orders (nth ms k).toNat).pick.place < 0 then Zex (stF x d ms k) (nth x.orders (nth ms k).toNat).load else stF x d ms k := by
 rw [stF, List.take_succ_eq_append_getElem h, List.foldl_append, Ze h]; rfl
theorem ZeH {x : Inst} {d : Nat} {ms : List Int} (hms : ∀ i ∈ ms, ∀ j, j < d -> 0 <= nth (nth x.orders i.toNat).load j /\ nth (nth x.orders i.toNat).load j <= 1000) : ∀ k, k <= ms.length -> (stF x d ms k).length = d /\ ∀ j, j < d -> 0 <= nth (stF x d ms k) j /\ nth (stF x d ms k) j <= 1000 * k
 | 0, _ => by
  refine ⟨by simp [stF], fun j hj => ?_⟩
  have : nth (stF x d ms 0) j = 0 := by
   show nth (List.replicate d 0) j = 0
   rw [Ze (by simpa using hj)]; simp
  omega
 | k + 1, h => by
  obtain ⟨h1, h2⟩ := ZeH hms k (by omega);rw [Zcy (by omega)]
  split
  ·refine ⟨by simp [Zex, h1], fun j hj => ?_⟩;have a1 := h2 j hj;have a2 := hms _ (Xm (show k < ms.length by omega)) j hj;rw [Zex, Vs (by omega)];omega
  ·exact ⟨h1, fun j hj => by have := h2 j hj; omega⟩
theorem Zms (x : Inst) (S : Int) (d : Nat) (hd : d <= 3) (hol : x.orders.length <= 1048576) (hms : ∀ i ∈ ZR S 63, 0 <= i /\ i < (x.orders.length : Int)) (hml : (ZR S 63).length <= 63)
  (hld : ∀ o ∈ x.orders, o.load.length = d /\ ∀ n ∈ o.load, 0 <= n /\ n <= 1000) :
  PC 303 [.p (Zy x), .p (.int .i64 S), .p (.int .i64 (d : Int))] (.list false ((stF x d (ZR S 63) (ZR S 63).length).map eI)) := by
 have hmo : ∀ i ∈ ZR S 63, i.toNat < x.orders.length := fun i hi => by have := hms i hi; omega
 have hrg := ZeH (x := x) (d := d) (ms := ZR S 63) fun i hi j hj => by
  obtain ⟨l1, l2⟩ := hld _ (Xm (hmo i hi));exact l2 _ (Xm (by omega))
 refine Za Tryz.func303 rfl Zoi ?_;simp (disch := omega) only [Tryz.f303, go_sem, seval];refine (YU S).useF ?_;simp (disch := omega) only [go_sem, seval];refine Zm ((Weak.fz (o := 1) (by rfl)).trans (Weak.fz (o := 2) (by rfl))) ?_;simp (disch := omega) only [List.map_cons, List.map_nil, List.set_cons_succ, List.set_cons_zero, List.cons_append, List.nil_append, List.length_replicate, eq_self, if_true, go_sem, seval]
 have hz : List.replicate d (PV.int .i64 0) = (stF x d (ZR S 63) 0).map eI := by
  show _ = (List.replicate d 0).map eI
  rw [List.map_replicate]; rfl
 refine Zf [3, 13, 14] (fun k : Nat => [(7, .p (.list false ((stF x d (ZR S 63) k).map eI))), (15, .p (.int .i64 k))]) (fun _ => [Zb x, .dead, .dead]) (fun k => k <= (ZR S 63).length) (fun k => (ZR S 63).length - k) 0 (by simp) (Weak.mk ?_) ?_
 ·simp (disch := omega) only [Zb, hz, go_sem, seval]
 ·intro k hk;have hk1 := hrg k hk;have hsn := fun h => Zcy (x := x) (d := d) (ms := ZR S 63) (k := k) h;simp (disch := omega) only [Zb, go_sem, seval];refine cD ?_ ?_ <;> intro h1 <;> simp (disch := omega) only [Sh.out h1, go_sem, seval]
  ·have hk2 : k < (ZR S 63).length := by omega
   have hm := hms _ (Xm hk2);have hi := hmo _ (Xm hk2);have hlo := hld _ (Xm hi);have hsn := hsn hk2;simp (disch := omega) only [go_sem, seval];refine cD ?_ ?_ <;> intro h2 <;> simp (disch := omega) only [Sh.out h2, go_sem, seval]
   ·rw [if_pos h2] at hsn;refine Xp (Zke (stF x d (ZR S 63) k) (nth x.orders (nth (ZR S 63) k).toNat).load false (nth x.orders (nth (ZR S 63) k).toNat).load_c (by omega) (by omega) fun j hj => ?_) ?_
    ·have b1 := hk1.2 j (by omega);have b2 := hlo.2 _ (Xm (show j < (nth x.orders (nth (ZR S 63) k).toNat).load.length by omega));omega
    ·simp (disch := omega) only [go_sem, seval];exact ⟨k + 1, by omega, by omega, Weak.mk (by simp (disch := omega) only [Zb, hsn, go_sem, seval])⟩
   ·rw [if_neg h2] at hsn;exact ⟨k + 1, by omega, by omega, Weak.mk (by simp (disch := omega) only [Zb, hsn, go_sem, seval])⟩
  ·have hkl : k = (ZR S 63).length := by omega
   subst hkl
   trivial
theorem Zed {p : Nat -> Bool} {n : Nat} (h : ∀ i, n <= i -> p i = false) : ∀ k, n <= k -> (List.range k).filter p = (List.range n).filter p := by
  intro k hk
  induction k with
  | zero => have : n = 0 := by omega
            subst this; rfl
  | succ k ih =>
    by_cases e : n = k + 1
    · subst e; rfl
    · rw [List.range_succ, List.filter_append, ih (by omega)]
      simp [h k (by omega)]
theorem ZzM {x : Inst} {l : List Vis} (hi : Inr x l) (hn : x.orders.length <= 10) : ZR ((XD l : Nat) : Int) 63 = ((List.range x.orders.length).filter fun (i : Nat) => We l (i : Int)).map fun (i : Nat) => (i : Int) := by
 have key : ∀ i : Nat, i <= 62 -> ZfN ((XD l : Nat) : Int) (i : Int) = We l (i : Int) := fun i h => by
  rw [X2 _ _ h, Bool.eq_iff_iff, ZcV, Yh]
  constructor
  ·rintro ⟨v, hv, e⟩;exact ⟨v, hv, by have := hi v hv; omega⟩
  ·rintro ⟨v, hv, e⟩;exact ⟨v, hv, by omega⟩
 unfold ZR;rw [List.filter_congr (q := fun (i : Nat) => We l (i : Int)) (fun i hm => key i (by have := List.mem_range.1 hm; omega)), Zed (n := x.orders.length) (fun i h => ?_) 63 (by omega)]
 cases hh : We l (i : Int) with
 | false => rfl
 | true =>
  obtain ⟨v, hv, e⟩ := Yh.1 hh;have := hi v hv;omega
theorem ZkZ {x : Inst} {d : Nat} : ∀ (L : List Nat) (g : Nat -> Int), (L.map fun (i : Nat) => (i : Int)).foldl (fun s (i : Int) => if (nth x.orders i.toNat).pick.place < 0 then Zex s (nth x.orders i.toNat).load else s) ((List.range d).map g) = (List.range d).map fun j => g j + (L.map fun i => if (nth x.orders i).pick.place < 0 then nth (nth x.orders i).load j else 0).sum
 | [], g => by simp
 | i :: L, g => by
  rw [List.map_cons, List.foldl_cons, Int.toNat_natCast]
  by_cases h : (nth x.orders i).pick.place < 0
  ·have e : Zex ((List.range d).map g) (nth x.orders i).load = (List.range d).map fun j => g j + nth (nth x.orders i).load j := by
    rw [Zex, List.length_map, List.length_range]
    exact List.map_congr_left fun j hj => by rw [Vs (List.mem_range.1 hj)]
   rw [if_pos h, e, ZkZ L];refine List.map_congr_left fun j _ => ?_;rw [List.map_cons, List.sum_cons, if_pos h]; omega
  ·rw [if_neg h, ZkZ L];refine List.map_congr_left fun j _ => ?_;rw [List.map_cons, List.sum_cons, if_neg h]; omega
theorem ZeI {x : Inst} {l : List Vis} (hi : Inr x l) (hn : x.orders.length <= 10) : stF x (dimsOf x.types).toNat (ZR ((XD l : Nat) : Int) 63) (ZR ((XD l : Nat) : Int) 63).length = Wi x l 0 := by
 rw [stF, List.take_length, ZzM hi hn];have := ZkZ (x := x) (d := (dimsOf x.types).toNat) ((List.range x.orders.length).filter fun (i : Nat) => We l (i : Int)) fun _ => 0
 have e : (List.range (dimsOf x.types).toNat).map (fun _ => (0 : Int)) = List.replicate (dimsOf x.types).toNat 0 := by
  rw [List.map_const', List.length_range]
 rw [e] at this;rw [this, Wi];refine List.map_congr_left fun j _ => ?_;rw [Int.zero_add, WN, Zek]
 congr 1
 refine List.map_congr_left fun i _ => ?_;rw [Zif]
 by_cases h : (nth x.orders i).pick.place < 0 <;> cases We l (i : Int) <;> simp [h]
theorem Zhi {x : Inst} {l : List Vis} {n j : Nat} {d : Nat} (hj : j < d) (hld : ∀ o ∈ x.orders, o.load.length = d /\ ∀ n ∈ o.load, 0 <= n /\ n <= 1000) (hn : x.orders.length <= 10) : 0 <= Zek x l n j /\ Zek x l n j <= 10000 := by
 have key := ZeX (f := fun i => if i < x.orders.length then (if (onB x l n i && We l i) = true then nth (nth x.orders i).load j else 0) else 0) (b := 1000) (by omega) (fun q => by
  split
  ·rename_i hq
   split
   ·obtain ⟨h1, h2⟩ := hld _ (Xm hq);exact h2 _ (Xm (by omega))
   ·omega
  ·omega) x.orders.length
 have e : Zek x l n j = ((List.range x.orders.length).map fun i => if i < x.orders.length then (if (onB x l n i && We l i) = true then nth (nth x.orders i).load j else 0) else 0).sum := by
  rw [Zek]
  congr 1
  exact List.map_congr_left fun i hi => by rw [if_pos (List.mem_range.1 hi)]
 rw [e]
 have : (1000 : Int) * x.orders.length <= 10000 := by omega
 omega
theorem Zh5 {x : Inst} {l : List Vis} {n j : Nat} (hj : j < (dimsOf x.types).toNat) (hd : LdOk x) : 0 <= nth (Wi x l n) j /\ nth (Wi x l n) j <= 10000 := by
 rw [Wi, Vs hj];exact Zhi hj (fun o ho => by obtain ⟨h1, h2⟩ := hd.load o ho; exact ⟨by omega, h2⟩) hd.ord
theorem Zd8 (l : List Vis) (c : Bool) (n : Nat) (hn : n < l.length) (hl : l.length <= 1048576) : PC 231 [.p (.list c (l.map eVis)), .p (.int .i64 (n : Nat))] (.bool (Wc l n)) := by
 refine Za Tryz.func231 rfl ZrR ?_;simp (disch := omega) only [Tryz.f231, go_sem, seval];refine Zf [0, 1] (fun k : Nat => [(5, .p (.int .i64 k))]) (fun _ => []) (fun k => k <= n /\ ∀ j, j < k -> (nth l j).order ≠ (nth l n).order) (fun k => n - k) 0 (by simp) (Weak.mk ?_) ?_
 ·simp (disch := omega) only [go_sem, seval]
 ·rintro k ⟨hk, hno⟩;simp (disch := omega) only [go_sem, seval];refine cD ?_ ?_ <;> intro h1 <;> simp (disch := omega) only [Sh.out h1, go_sem, seval]
  ·have hk2 : k < n := by omega
   have hk3 : k < l.length := by omega
   refine Zj mixed (by kernel_rfl) (by kernel_rfl) ?_;simp (disch := omega) only [go_sem, seval];refine cD ?_ ?_ <;> intro h2 <;> simp (disch := omega) only [Sh.out h2, go_sem, seval]
   ·have : Wc l n = false := by
     unfold Wc;rw [Bool.not_eq_false', List.any_eq_true];exact ⟨nth l k, J5 hk2 hk3, by simpa using h2⟩
    rw [this]
   ·exact ⟨k + 1, ⟨by omega, Zh.2 ⟨hno, h2⟩⟩, by omega, wk⟩
  ·have hkn : k = n := by omega
   subst hkn
   have : Wc l k = true := by
    unfold Wc;rw [Bool.not_eq_true', List.any_eq_false];intro v hv;obtain ⟨j, j1, j2, rfl⟩ := UR hv;simpa using hno j j1
   rw [this]
def WS (c m o w : Int) : AM.Obj := .cells [.p (.int .i64 c), .p (.int .i64 m), .p (.int .i64 o), .p (.int .i64 w)]
theorem UW {x : Inst} {l : List Vis} {t : Int} : ∀ n : Nat, (0 <= (chgF x l t n).1 /\ (chgF x l t n).1 <= n) /\ (0 <= (chgF x l t n).2 /\ (chgF x l t n).2 <= n)
 | 0 => by simp [chgF]
 | n + 1 => by
  have ih := UW (x := x) (l := l) (t := t) n;rw [chgF]
  split
  ·simp only
   constructor <;> split <;> omega
  ·omega
theorem Zfp (x : Inst) (r : Rte) (s : She) (hty : 0 <= r.typ /\ r.typ < (x.types.length : Int)) (ho : x.orders.length <= 1048576) (ht : x.types.length <= 1048576) (hl : r.visits.length <= 1048576) (hv : Inr x r.visits)
  (hc : 0 <= (Z2 x r).fixed /\ (Z2 x r).fixed <= 100000 /\ 0 <= (Z2 x r).perMile /\ (Z2 x r).perMile <= 100 /\ 0 <= (Z2 x r).perTick /\ (Z2 x r).perTick <= 100) (ho2 : 0 <= (Z2 x r).opn /\ (Z2 x r).opn <= 4096)
  (hf : -4096 <= s.fin /\ s.fin <= 8192) (hm : 0 <= s.miles /\ s.miles <= 1000000) :
  PC 177 [.p (Zy x), .p (Yq r), .p (ZfE s)] (Zdf (Zjw x r s)) := by
 have hti : r.typ.toNat < x.types.length := by omega
 unfold Zjw;have htd : nth x.types r.typ.toNat = Z2 x r := rfl
 generalize Z2 x r = t at *
 have e1 : ¬ r.typ < 0 := by omega
 have e2 : ¬ (x.types.length : Int) <= r.typ := by omega
 have p1 : 0 <= t.perMile * s.miles /\ t.perMile * s.miles <= 100 * 1000000 := ⟨Int.mul_nonneg (by omega) (by omega), Int.mul_le_mul (by omega) (by omega) (by omega) (by omega)⟩
 have hW : -8192 <= s.fin - t.opn /\ s.fin - t.opn <= 8192 := by omega
 have p2 : -819200 <= t.perTick * (s.fin - t.opn) /\ t.perTick * (s.fin - t.opn) <= 819200 := by
  generalize s.fin - t.opn = w at hW;have a1 := Int.mul_le_mul_of_nonneg_left hW.2 (show 0 <= t.perTick by omega);have a2 := Int.mul_le_mul_of_nonneg_left hW.1 (show 0 <= t.perTick by omega);omega
 have p3 : -128 <= (s.fin - t.opn).tdiv 64 /\ (s.fin - t.opn).tdiv 64 <= 128 := by
  generalize s.fin - t.opn = w at hW;rcases Int.le_total 0 w with h | h
  ·rw [Int.tdiv_eq_ediv_of_nonneg h]; omega
  ·have : w.tdiv 64 = -((-w) / 64) := by rw [<- Int.tdiv_eq_ediv_of_nonneg (by omega), Int.neg_tdiv, Int.neg_neg]
   rw [this]; omega
 have p4 : 0 <= (s.fin - t.opn).tdiv 64 * (s.fin - t.opn).tdiv 64 /\ (s.fin - t.opn).tdiv 64 * (s.fin - t.opn).tdiv 64 <= 16384 := by
  generalize (s.fin - t.opn).tdiv 64 = q at p3;refine ⟨?_, ?_⟩
  ·rcases Int.le_total 0 q with h | h
   ·exact Int.mul_nonneg h h
   ·exact Int.mul_nonneg_of_nonpos_of_nonpos h h
  ·rcases Int.le_total 0 q with h | h
   ·have := Int.mul_le_mul p3.2 p3.2 h (by omega); omega
   ·have h2 : 0 <= -q := by omega
    have := Int.mul_le_mul (show -q <= 128 by omega) (show -q <= 128 by omega) h2 (by omega);rw [Int.neg_mul_neg] at this; omega
 refine Za Tryz.func177 rfl ZqQ ?_;simp (disch := omega) only [Tryz.f177, e1, e2, htd, go_sem, seval];refine Zf [3, 4, 6, 9] (fun k : Nat => [(10, .p (.int .i64 k))]) (fun k => [Zb x, Zw r, .cells [.p (.bool s.rest), .p (.int .i64 s.dep), .p (.list s.times_c (s.times.map eTim)), .p (.int .i64 s.fin), .p (.int .i64 s.miles)], WS 0 0 0 0, Xj t, WS (t.fixed + t.perMile * s.miles + t.perTick * (s.fin - t.opn)) (chgF x r.visits r.typ k).1 (chgF x r.visits r.typ k).2 ((s.fin - t.opn).tdiv 64 * (s.fin - t.opn).tdiv 64)]) (fun k => k <= r.visits.length) (fun k => r.visits.length - k) 0 (by simp) (Weak.mk ?_) ?_
 ·simp (disch := omega) only [Zb, Zw, Xj, WS, chgF, go_sem, seval]
 ·intro k hk;have hch := UW (x := x) (l := r.visits) (t := r.typ) k;simp (disch := omega) only [Zb, Zw, Xj, WS, go_sem, seval];refine cD ?_ ?_ <;> intro h1 <;> simp (disch := omega) only [Sh.out h1, go_sem, seval]
  ·have hk2 : k < r.visits.length := by omega
   obtain ⟨v1, v2⟩ := hv _ (Zi hk2)
   have e3 : ¬ (nth r.visits k).order < 0 := by omega
   have e4 : ¬ (x.orders.length : Int) <= (nth r.visits k).order := by omega
   have v3 : (nth r.visits k).order.toNat < x.orders.length := by omega
   simp (disch := omega) only [e3, e4, go_sem, seval];refine (Zd8 r.visits r.visits_c k hk2 hl).use ?_;simp (disch := omega) only [go_sem, seval];have hcs : chgF x r.visits r.typ (k + 1) = _ := chgF.eq_2 x r.visits r.typ k;refine cD ?_ ?_ <;> intro h2 <;> simp (disch := omega) only [Sh.out h2, go_sem, seval]
   ·have h2' : ¬ Wc r.visits k = true := by simpa using h2
    exact ⟨k + 1, by omega, by omega, Weak.mk (by simp (disch := omega) only [Zb, Zw, Xj, WS, hcs, if_neg h2', go_sem, seval])⟩
   ·have h2' : Wc r.visits k = true := by simpa using h2
    refine Zj mixed (by kernel_rfl) (by kernel_rfl) ?_;simp (disch := omega) only [go_sem, seval];refine gT ?_ ?_ <;> intro h3 <;> simp (disch := omega) only [Sh.out h3, go_sem, seval]
    ·refine cD ?_ ?_ <;> intro h4 <;> simp (disch := omega) only [Sh.out h4, go_sem, seval]
     ·have hn : ZJ (nth x.orders (nth r.visits k).order.toNat).now r.typ = true := by simp [ZJ, h3, h4]
      refine Zj mixed (by kernel_rfl) (by kernel_rfl) ?_;simp (disch := omega) only [go_sem, seval];refine gT ?_ ?_ <;> intro h5 <;> simp (disch := omega) only [Sh.out h5, go_sem, seval]
      ·refine cD ?_ ?_ <;> intro h6 <;> simp (disch := omega) only [Sh.out h6, go_sem, seval]
       ·have hl2 : ZJ (nth x.orders (nth r.visits k).order.toNat).last r.typ = true := by simp [ZJ, h5, h6]
        exact ⟨k + 1, by omega, by omega, Weak.mk (by simp (disch := omega) only [Zb, Zw, Xj, WS, hcs, if_pos h2', hn, hl2, Int.add_zero, Bool.false_eq_true, go_sem, seval])⟩
       ·have hl2 : ZJ (nth x.orders (nth r.visits k).order.toNat).last r.typ = false := by simp only [Classical.not_not] at h6; simp [ZJ, h6]
        exact ⟨k + 1, by omega, by omega, Weak.mk (by simp (disch := omega) only [Zb, Zw, Xj, WS, hcs, if_pos h2', hn, hl2, Int.add_zero, Bool.false_eq_true, go_sem, seval])⟩
      ·have hl2 : ZJ (nth x.orders (nth r.visits k).order.toNat).last r.typ = false := by simp only [Classical.not_not] at h5; simp [ZJ, h5]
       exact ⟨k + 1, by omega, by omega, Weak.mk (by simp (disch := omega) only [Zb, Zw, Xj, WS, hcs, if_pos h2', hn, hl2, Int.add_zero, Bool.false_eq_true, go_sem, seval])⟩
     ·have hn : ZJ (nth x.orders (nth r.visits k).order.toNat).now r.typ = false := by simp only [Classical.not_not] at h4; simp [ZJ, h4]
      refine Zj mixed (by kernel_rfl) (by kernel_rfl) ?_;simp (disch := omega) only [go_sem, seval];refine gT ?_ ?_ <;> intro h5 <;> simp (disch := omega) only [Sh.out h5, go_sem, seval]
      ·refine cD ?_ ?_ <;> intro h6 <;> simp (disch := omega) only [Sh.out h6, go_sem, seval]
       ·have hl2 : ZJ (nth x.orders (nth r.visits k).order.toNat).last r.typ = true := by simp [ZJ, h5, h6]
        exact ⟨k + 1, by omega, by omega, Weak.mk (by simp (disch := omega) only [Zb, Zw, Xj, WS, hcs, if_pos h2', hn, hl2, Int.add_zero, Bool.false_eq_true, go_sem, seval])⟩
       ·have hl2 : ZJ (nth x.orders (nth r.visits k).order.toNat).last r.typ = false := by simp only [Classical.not_not] at h6; simp [ZJ, h6]
        exact ⟨k + 1, by omega, by omega, Weak.mk (by simp (disch := omega) only [Zb, Zw, Xj, WS, hcs, if_pos h2', hn, hl2, Int.add_zero, Bool.false_eq_true, go_sem, seval])⟩
      ·have hl2 : ZJ (nth x.orders (nth r.visits k).order.toNat).last r.typ = false := by simp only [Classical.not_not] at h5; simp [ZJ, h5]
       exact ⟨k + 1, by omega, by omega, Weak.mk (by simp (disch := omega) only [Zb, Zw, Xj, WS, hcs, if_pos h2', hn, hl2, Int.add_zero, Bool.false_eq_true, go_sem, seval])⟩
    ·have hn : ZJ (nth x.orders (nth r.visits k).order.toNat).now r.typ = false := by simp only [Classical.not_not] at h3; simp [ZJ, h3]
     refine Zj mixed (by kernel_rfl) (by kernel_rfl) ?_;simp (disch := omega) only [go_sem, seval];refine gT ?_ ?_ <;> intro h5 <;> simp (disch := omega) only [Sh.out h5, go_sem, seval]
     ·refine cD ?_ ?_ <;> intro h6 <;> simp (disch := omega) only [Sh.out h6, go_sem, seval]
      ·have hl2 : ZJ (nth x.orders (nth r.visits k).order.toNat).last r.typ = true := by simp [ZJ, h5, h6]
       exact ⟨k + 1, by omega, by omega, Weak.mk (by simp (disch := omega) only [Zb, Zw, Xj, WS, hcs, if_pos h2', hn, hl2, Int.add_zero, Bool.false_eq_true, go_sem, seval])⟩
      ·have hl2 : ZJ (nth x.orders (nth r.visits k).order.toNat).last r.typ = false := by simp only [Classical.not_not] at h6; simp [ZJ, h6]
       exact ⟨k + 1, by omega, by omega, Weak.mk (by simp (disch := omega) only [Zb, Zw, Xj, WS, hcs, if_pos h2', hn, hl2, Int.add_zero, Bool.false_eq_true, go_sem, seval])⟩
     ·have hl2 : ZJ (nth x.orders (nth r.visits k).order.toNat).last r.typ = false := by simp only [Classical.not_not] at h5; simp [ZJ, h5]
      exact ⟨k + 1, by omega, by omega, Weak.mk (by simp (disch := omega) only [Zb, Zw, Xj, WS, hcs, if_pos h2', hn, hl2, Int.add_zero, Bool.false_eq_true, go_sem, seval])⟩
  ·have hkl : k = r.visits.length := by omega
   subst hkl
   rfl
theorem SqOk.len {x : Inst} {l : List Vis} (h : SqOk x l) (hn : x.orders.length <= 10) : l.length <= 20 := by
 have h1 := List.Nodup.length_le_of_subset (l₁ := l) (l₂ := (List.range 10).flatMap fun i : Nat => [(⟨(i : Int), false⟩ : Vis), ⟨(i : Int), true⟩]) h.nd (fun v hv => by
  obtain ⟨v1, v2⟩ := h.inr v hv;rw [List.mem_flatMap];refine ⟨v.order.toNat, List.mem_range.2 (by omega), ?_⟩;obtain ⟨o, d⟩ := v
  have e : ((o.toNat : Nat) : Int) = o := by simp only at v1; omega
  cases d <;> simp [e])
 have h2 : ((List.range 10).flatMap fun i : Nat => [(⟨(i : Int), false⟩ : Vis), ⟨(i : Int), true⟩]).length = 20 := rfl;omega
theorem SqOk.vis {x : Inst} {l : List Vis} (h : SqOk x l) {v : Vis} (hv : v ∈ l) : Kj x v = true := by
 obtain ⟨v1, v2⟩ := h.inr v hv;obtain ⟨i, hi⟩ : ∃ i : Nat, v.order = (i : Int) := ⟨v.order.toNat, by omega⟩;have ho := h.own (i := i) ⟨v, hv, hi⟩
 have hpl : 0 <= (XH x v).place := by
  unfold XH;rw [hi, Int.toNat_natCast]
  cases hd : v.drp with
  | true => exact ho.isD (by rw [<- hi, <- hd]; exact hv)
  | false => exact ho.isP (by rw [<- hi, <- hd]; exact hv)
 simp [Kj, inB, v1, v2, hpl]
theorem Zl4 {x : Inst} {r : Rte} (h : SqOk x r.visits) (hn : x.orders.length <= 10) (ht : 0 <= r.typ /\ r.typ < (x.types.length : Int)) : Wu x r = (decide (0 <= r.start) && decide (r.start <= 4096)) := by
 have h1 : r.visits.all (Kj x) = true := List.all_eq_true.2 fun v hv => h.vis hv;have h2 := h.len hn;simp [Wu, h1, h2, ht.1, ht.2]
theorem Zlq {n : Net} (h : netOk n) : netR n /\ ∀ a ∈ n.arcs, 0 <= a.miles /\ a.miles <= 10000 := by
 obtain ⟨⟨⟨h1, _⟩, h2⟩, h3⟩ := h
 have ha : ∀ a ∈ n.arcs, Zvl a /\ 0 <= a.miles /\ a.miles <= 10000 := fun a hm => by
  obtain ⟨i, hi, rfl⟩ := List.mem_iff_getElem.1 hm;have := h3 i hi;unfold Zdk at this;rw [Ze hi] at this;obtain ⟨⟨⟨⟨⟨_, g1⟩, _⟩, g2⟩, g3⟩, g4⟩ := this;refine ⟨⟨g2, g3, fun p hp => ?_⟩, g1.2.2.1, g1.2.2.2.1⟩;obtain ⟨j, hj, rfl⟩ := List.mem_iff_getElem.1 hp;have := g4 j hj;unfold VP at this;rw [Ze hj] at this;simp only [Zha, rng, decide_eq_true_eq] at this;exact ⟨this.1.1, this.1.2, this.2.1.1, this.2.1.2⟩
 exact ⟨⟨by omega, by omega, fun a hm => (ha a hm).1⟩, fun a hm => (ha a hm).2⟩
theorem UJ {x : Inst} (hx : InstOk x) {i : Nat} (hi : i < x.types.length) : (0 <= (nth x.types i).opn /\ (nth x.types i).opn <= (nth x.types i).cls /\ (nth x.types i).cls <= 4096) /\ (1 <= (nth x.types i).drive /\ (nth x.types i).drive <= 4096) /\ (0 <= (nth x.types i).rest /\ (nth x.types i).rest <= 4096) /\
  (0 <= (nth x.types i).fixed /\ (nth x.types i).fixed <= 100000 /\ 0 <= (nth x.types i).perMile /\ (nth x.types i).perMile <= 100 /\ 0 <= (nth x.types i).perTick /\ (nth x.types i).perTick <= 100) /\ (0 <= (nth x.types i).skills /\ (nth x.types i).skills <= 1073741823) := by
 have ht := hx.types.2 i hi;unfold QT at ht;obtain ⟨⟨⟨⟨⟨⟨⟨⟨_, _⟩, _⟩, _⟩, _⟩, h1⟩, h2⟩, h3⟩, h4⟩ := ht;simp only [rng, decide_eq_true_eq] at h1 h2 h3 h4;omega
theorem UZ {x : Inst} {r : Rte} (hx : InstOk x) (ht : 0 <= r.typ /\ r.typ < (x.types.length : Int)) (h : SqOk x r.visits) : TrpOk x (Z2 x r) (ZY x r.visits) := by
 have hti : r.typ.toNat < x.types.length := by omega
 obtain ⟨t1, t2, t3, _⟩ := UJ hx hti;obtain ⟨n1, n2⟩ := Zlq hx.net;refine ⟨n1, n2, t1, t2, t3, fun s hs => ?_, by rw [Xe]; exact h.len hx.orders.1⟩;obtain ⟨v, hv, rfl⟩ := List.mem_map.1 hs;obtain ⟨v1, v2⟩ := h.inr v hv
 have hi : v.order.toNat < x.orders.length := by omega
 have ho := hx.orders.2 _ hi;have hvis := h.vis hv;have hp := ho.pstp;have hd := ho.dstp;simp only [stpOk, decide_eq_true_eq] at hp hd;simp only [Kj, Bool.and_eq_true, decide_eq_true_eq] at hvis;have h3 := hvis.2;unfold XH at h3 ⊢
 split
 ·rename_i c; rw [if_pos c] at h3; omega
 ·rename_i c; rw [if_neg c] at h3; omega
theorem Zb9 {x t sp} (h : TrpOk x t sp) : ∀ (bs : List Bool) (k : Nat) (L : Lab), k + bs.length = sp.length + 1 -> LabR k L -> (X9 x t sp k L bs).2 = 0 -> LabR (sp.length + 1) (X9 x t sp k L bs).1 /\ (bs ≠ [] -> (X9 x t sp k L bs).1.she.fin = (X9 x t sp k L bs).1.ready)
 | [], k, L, hk, hl, h0 => by
  simp at hk; subst hk;exact ⟨hl, fun h => absurd rfl h⟩
 | b :: bs, k, L, hk, hl, h0 => by
  simp at hk;rw [X9] at h0 ⊢
  split at h0
  ·rename_i c;rw [if_pos c];obtain ⟨h1, h2⟩ := Zb9 h bs (k + 1) _ (by omega) (Zby h (by omega) hl c) h0;refine ⟨h1, fun _ => ?_⟩
   cases bs with
   | nil =>
    simp at hk;subst hk;exact Zct (x := x) (t := t) (sp := sp) (y := L) (b := b) (by rw [X6, if_pos c]; rfl)
   | cons b2 bs => exact h2 (by simp)
  ·simp at h0; rename_i c; exact absurd h0 c
theorem Kf {x t sp} {st : Int} {r : List Bool} (h : TrpOk x t sp) (hs : 0 <= st /\ st <= 4096) (hr : r.length <= sp.length + 1) (h0 : (UB x t sp st r).2 = 0) : (0 <= (UB x t sp st r).1.fin /\ (UB x t sp st r).1.fin <= 8192) /\ (0 <= (UB x t sp st r).1.miles /\ (UB x t sp st r).1.miles <= 210000) := by
 have hL0 : LabR 0 (X1 t st) := ⟨by have := h.opn; simp only [X1]; omega, by simp [X1], by simp [X1, zShe]⟩;have hl := h.len
 have key : ∀ bs ∈ YY r (sp.length + 1), (X9 x t sp 0 (X1 t st) bs).2 = 0 -> (0 <= (X9 x t sp 0 (X1 t st) bs).1.she.fin /\ (X9 x t sp 0 (X1 t st) bs).1.she.fin <= 8192) /\ (0 <= (X9 x t sp 0 (X1 t st) bs).1.she.miles /\ (X9 x t sp 0 (X1 t st) bs).1.she.miles <= 210000) := fun bs hbs he => by
  obtain ⟨q, hq, rfl⟩ := List.mem_map.1 hbs;have hql := bestF_len.fromB_len _ _ hq;simp at hql
  have hne : r ++ q ≠ [] := fun e => by
   have h2 : (r ++ q).length = 0 := by rw [e]; rfl
   rw [List.length_append] at h2; omega
  obtain ⟨g1, g2⟩ := Zb9 h (r ++ q) 0 _ (by simp; omega) hL0 he;rw [g2 hne];have := g1.rdy;have := g1.mil;omega
 unfold UB at h0 ⊢
 cases hf : fmL WP none ((YY r (sp.length + 1)).filterMap (Ur (X6 x t sp) 0 (X1 t st))) with
 | some L =>
  simp only;have := bestF_len.fmL_mem _ _ hf;obtain ⟨bs, hbs, hrun⟩ := List.mem_filterMap.1 this;rw [WE] at hrun
  split at hrun
  ·rename_i c; simp at hrun; subst hrun; exact key bs hbs c
  ·cases hrun
 | none =>
  simp only;simp [zShe]
theorem Zfl (x : Inst) (r : Rte) (ho : x.orders.length <= 1048576) (ht : x.types.length <= 1048576) (hl : r.visits.length <= 1048576) (hbad : Wu x r = false \/ r.visits.length + 1 < r.rests.length) :
  PT 176 [.p (Zy x), .p (Yq r)] [.p (ZfE zShe), .p (.int .i64 2)] := by
 refine Zc [] Tryz.func176 rfl Zjs ?_;simp (disch := omega) only [Tryz.f176, go_sem, seval];refine (Kh x r ho ht hl).use ?_;simp (disch := omega) only [go_sem, seval];refine gF ?_ ?_ <;> intro h1 <;> simp (disch := omega) only [Sh.out h1, go_sem, seval]
 ·exact we (by simp (disch := omega) only [zShe, List.map_nil, go_sem, seval])
 ·have h2 : r.visits.length + 1 < r.rests.length := hbad.resolve_left (by simpa using h1);refine cD ?_ ?_ <;> intro h3 <;> simp (disch := omega) only [Sh.out h3, go_sem, seval]
  ·exact we (by simp (disch := omega) only [zShe, List.map_nil, go_sem, seval])
  ·omega
theorem ZlR (x : Inst) (r : Rte) (hx : InstOk x) (hl : r.visits.length <= 1048576) : PC 173 [.p (Zy x), .p (Yq r)] (.int .i64 (ZW x r.visits)) := by
 have hf := QK hx;have hr := hx.rules;obtain ⟨h1, h2⟩ := List.append_eq_nil_iff.1 hr
 have ha : x.apart.length <= 1048576 := by
  have h3 := (List.append_eq_nil_iff.1 h1).1;unfold hdr at h3
  split at h3
  ·simp at h3
  ·omega
 have hb : x.before.length <= 1048576 := by
  have h3 := (List.append_eq_nil_iff.1 h2).1;unfold hdr at h3
  split at h3
  ·simp at h3
  ·omega
 have := ZdD x r (by have := hf.len; omega) hl ha hb hf.plc;rwa [ZkK hf] at this
def Zau (x : Inst) (r : Rte) : V := .tup [.p (ZfE (Vi x r)), .p (Zdf (Qj x r)), .p (.int .i64 (XO x r))]
theorem Xd {x : Inst} {r : Rte} {e : Int} (h : XO x r = e) (h0 : e ≠ 0) : Zau x r = .tup [.p (ZfE zShe), .p (Zdf zSco), .p (.int .i64 e)] := by
 unfold Zau Vi Qj;rw [h, if_neg h0, if_neg h0]
theorem KW (x : Inst) (r : Rte) (hx : InstOk x) (hl : r.visits.length <= 1048576) (hrl : r.rests.length <= 1048576) : ACalls Tryz.prog 120 [.p (Zy x), .p (Yq r)] [] fun y H' => y = Zau x r /\ H' = [] := by
 have hld := Wo hx;have htl := hld.typ;have hol := hld.ord;have chk := ZlR x r hx hl
 have htb : x.types.length <= 6 := by have := hx.types.1; simp only [rng, decide_eq_true_eq] at this; omega
 refine Zc [] Tryz.func120 rfl Zpa ?_;simp (disch := omega) only [Tryz.f120, go_sem, seval];refine gF ?_ ?_ <;> intro h1 <;> simp (disch := omega) only [Sh.out h1, go_sem, seval]
 ·have e : XM x r = 2 := by rw [XM, if_pos (by omega)]
  rw [Xd (e := 2) (by rw [XO, e]; rfl) (by omega)];exact we (by simp (disch := omega) only [zShe, zSco, List.map_nil, go_sem, seval])
 ·refine cD ?_ ?_ <;> intro h2 <;> simp (disch := omega) only [Sh.out h2, go_sem, seval]
  ·have e : XM x r = 2 := by rw [XM, if_pos (by omega)]
   rw [Xd (e := 2) (by rw [XO, e]; rfl) (by omega)];exact we (by simp (disch := omega) only [zShe, zSco, List.map_nil, go_sem, seval])
  ·have hty : 0 <= r.typ /\ r.typ < (x.types.length : Int) := by omega
   have hti : r.typ.toNat < x.types.length := by omega
   refine (chk).use ?_;simp (disch := omega) only [go_sem, seval];refine cD ?_ ?_ <;> intro h3 <;> simp (disch := omega) only [Sh.out h3, go_sem, seval]
   ·have e : XM x r = ZW x r.visits := by rw [XM, if_neg (fun h => h hty), if_pos h3]
    rw [Xd (e := ZW x r.visits) (by rw [XO, e, if_neg h3]) h3];exact we (by simp (disch := omega) only [zShe, zSco, List.map_nil, go_sem, seval])
   ·have h3' := Classical.not_not.1 h3;have hsq := Wt h3'
    have hvn : 0 < r.visits.length := by
     have := hsq.ne
     cases hv : r.visits with
     | nil => exact absurd hv this
     | cons a b => simp
    have hok := UZ hx hty hsq;have hnum := UJ hx hti
    have hr0 : XM x r = if (r.visits.any fun v => !Ym (Z2 x r) (nth x.orders v.order.toNat).skills) = true then 18 else if VH x (Z2 x r).cap r.visits = false then 17 else if ¬ (0 <= r.start /\ r.start <= 4096 /\ r.rests.length <= r.visits.length + 1) then 2 else 0 := by
     rw [XM, if_neg (fun h => h hty), if_neg h3]
    have htyp : nth x.types r.typ.toNat = Z2 x r := rfl;rw [htyp] at hnum;have hf17 := ZiL x r hx hl hty h3' chk;have hposs := Zl4 hsq hol hty
    have hsk : ∀ k, k < r.visits.length -> (nth r.visits k).order.toNat < x.orders.length /\ 0 <= (nth x.orders (nth r.visits k).order.toNat).skills /\ (nth x.orders (nth r.visits k).order.toNat).skills <= 1073741823 := fun k hk => by
     obtain ⟨v1, v2⟩ := hsq.inr _ (Zi hk)
     have hi : (nth r.visits k).order.toNat < x.orders.length := by omega
     exact ⟨hi, (hx.orders.2 _ hi).skills⟩
    refine Zf [2, 3, 4, 5] (fun k : Nat => [(8, .p (.int .i64 k))]) (fun _ => [Zb x, Zw r, .cells [.p (.bool false), .p (.int .i64 0), .p (.list true []), .p (.int .i64 0), .p (.int .i64 0)], WS 0 0 0 0])
     (fun k => k <= r.visits.length /\ ∀ j, j < k -> Ym (Z2 x r) (nth x.orders (nth r.visits j).order.toNat).skills = true) (fun k => r.visits.length - k) 0 (by simp) (Weak.mk ?_) ?_
    ·simp (disch := omega) only [Zb, Zw, WS, go_sem, seval]
    ·rintro k ⟨hk, hno⟩;simp (disch := omega) only [Zb, Zw, WS, go_sem, seval];refine cD ?_ ?_ <;> intro h4 <;> simp (disch := omega) only [Sh.out h4, go_sem, seval]
     ·have hk2 : k < r.visits.length := by omega
      obtain ⟨s1, s2, s3⟩ := hsk k hk2;obtain ⟨v1, v2⟩ := hsq.inr _ (Zi hk2);refine Zj mixed (by kernel_rfl) (by kernel_rfl) ?_;simp (disch := omega) only [htyp, go_sem, seval];refine Zt (Zjb (Z2 x r) (nth x.orders (nth r.visits k).order.toNat).skills (by omega) (by omega)) ?_;simp (disch := omega) only [go_sem, seval];refine cD ?_ ?_ <;> intro h5 <;> simp (disch := omega) only [Sh.out h5, go_sem, seval]
      ·have e : XM x r = 18 := by
        rw [hr0, if_pos];exact List.any_eq_true.2 ⟨_, Zi hk2, h5⟩
       rw [Xd (e := 18) (by rw [XO, e]; rfl) (by omega)];exact we (by simp (disch := omega) only [zShe, zSco, List.map_nil, go_sem, seval])
      ·exact ⟨k + 1, ⟨by omega, Zh.2 ⟨hno, by simpa using h5⟩⟩, by omega, Weak.mk (by simp (disch := omega) only [Zb, Zw, WS, go_sem, seval])⟩
     ·have hkl : k = r.visits.length := by omega
      subst hkl
      have XI : ¬ (r.visits.any fun v => !Ym (Z2 x r) (nth x.orders v.order.toNat).skills) = true := fun h => by
       obtain ⟨v, hv, hb⟩ := List.any_eq_true.1 h;obtain ⟨j, hj, rfl⟩ := List.mem_iff_getElem.1 hv;rw [<- Ze hj, hno j hj] at hb; simp at hb
      rw [if_neg XI] at hr0;refine (hf17).use ?_;simp (disch := omega) only [go_sem, seval]
      cases hlb : VH x (Z2 x r).cap r.visits with
      | false =>
       have e : XM x r = 17 := by rw [hr0, hlb]; rfl
       simp only [Bool.false_eq_true, if_false];simp (disch := omega) only [go_sem, seval];rw [Xd (e := 17) (by rw [XO, e]; rfl) (by omega)];exact we (by simp (disch := omega) only [zShe, zSco, List.map_nil, go_sem, seval])
      | true =>
       rw [hlb, if_neg (by simp)] at hr0;simp only [if_true];simp (disch := omega) only [go_sem, seval]
       by_cases h6 : 0 <= r.start /\ r.start <= 4096 /\ r.rests.length <= r.visits.length + 1
       ·have e : XM x r = 0 := by rw [hr0, if_neg (fun h => h h6)]
        have hp : Wu x r = true := by rw [hposs]; simp [h6.1, h6.2.1]
        have ee : XO x r = (Xf x r).2 := by rw [XO, if_pos e]
        have cb := Zin x r hok (by omega) htl hvn hp h6.2.2;have hbr := Kf hok ⟨h6.1, h6.2.1⟩ (by rw [Xe]; exact h6.2.2);have hbr : (Xf x r).2 = 0 -> _ := hbr
        change (Xf x r).2 = 0 -> (0 <= (Xf x r).1.fin /\ (Xf x r).1.fin <= 8192) /\ (0 <= (Xf x r).1.miles /\ (Xf x r).1.miles <= 210000) at hbr
        have es : Vi x r = if (Xf x r).2 = 0 then (Xf x r).1 else zShe := by rw [Vi, ee]
        have ep : Qj x r = if (Xf x r).2 = 0 then Zjw x r (Xf x r).1 else zSco := by rw [Qj, ee]
        unfold Zau;rw [ee, es, ep];clear ee es ep
        generalize Xf x r = q at *
        obtain ⟨sh, eb⟩ := q;simp only at cb hbr ⊢;refine Xp cb ?_;simp (disch := omega) only [go_sem, seval];refine cD ?_ ?_ <;> intro h7 <;> simp (disch := omega) only [Sh.out h7, go_sem, seval]
        ·exact we (by simp (disch := omega) only [zShe, zSco, List.map_nil, go_sem, seval])
        ·have h7' := Classical.not_not.1 h7
         try rw [if_pos h7', if_pos h7']
         subst h7';obtain ⟨g1, g2⟩ := hbr rfl;refine ZG 5 mixed (by kernel_rfl) (by kernel_rfl) ?_;simp (disch := omega) only [go_sem, seval];refine Zt (Zfp x r sh hty (by omega) htl hl hsq.inr hnum.2.2.2.1 (by omega) (by omega) (by omega)) ?_;simp (disch := omega) only [go_sem, seval];exact we
       ·have e : XM x r = 2 := by rw [hr0, if_pos h6]
        rw [Xd (e := 2) (by rw [XO, e]; rfl) (by omega)];refine Xp (Zfl x r (by omega) htl hl ?_) ?_
        ·by_cases c1 : 0 <= r.start
         ·by_cases c2 : r.start <= 4096
          ·right; omega
          ·left; rw [hposs]; simp [c2]
         ·left; rw [hposs]; simp [c1]
        ·simp (disch := omega) only [go_sem, seval];exact we (by simp (disch := omega) only [zShe, zSco, List.map_nil, go_sem, seval])
def gIx {α : Type} (f : α -> Bool) (l : List α) : Int := match l.findIdx? f with | some i => (i : Int) | none => -1
theorem Zj9 {α : Type} [Inhabited α] {f : α -> Bool} {l : List α} {k : Nat} (hk : k < l.length) (h : f (nth l k) = true) (hno : ∀ j, j < k -> f (nth l j) = false) : gIx f l = (k : Int) := by
 have : l.findIdx? f = some k := by
  rw [List.findIdx?_eq_some_iff_getElem];refine ⟨hk, by rw [<- Ze hk]; exact h, fun j hj => ?_⟩;have h2 := hno j hj;rw [Ze (by omega)] at h2;simpa using h2
 simp [gIx, this]
theorem Zjx {α : Type} [Inhabited α] {f : α -> Bool} {l : List α} (hno : ∀ j, j < l.length -> f (nth l j) = false) : gIx f l = -1 := by
 have : l.findIdx? f = none := by
  rw [List.findIdx?_eq_none_iff];intro x hx;obtain ⟨j, hj, rfl⟩ := List.mem_iff_getElem.1 hx;rw [<- Ze hj]; exact hno j hj
 simp [gIx, this]
theorem Zjz {α : Type} {f : α -> Bool} {l : List α} : decide (0 <= gIx f l) = l.any f := by
 unfold gIx
 cases h : l.findIdx? f with
 | none =>
  rw [List.findIdx?_eq_none_iff] at h
  have : l.any f = false := by rw [List.any_eq_false]; intro x hx; simp [h x hx]
  simp [this]
 | some i =>
  rw [List.findIdx?_eq_some_iff_getElem] at h;obtain ⟨h1, h2, _⟩ := h
  have : l.any f = true := by rw [List.any_eq_true]; exact ⟨l[i], List.getElem_mem _, h2⟩
  simp [this]
theorem ZeW (l : List (List Int)) (c : Bool) (g : FuncId) (caps : List V) (H : List AM.Obj) (f : List Int -> Bool) (hl : l.length <= 1048576) (hW : wkH H H.length H H) (hc : refBs H.length caps = true)
  (hg : ∀ v ∈ l, ACalls Tryz.prog g (.p (eIL v) :: caps) H fun x H' => x = .p (.bool (f v)) /\ H' = H) :
  ACalls Tryz.prog 307 [.p (.list c (l.map eIL)), .fn (.func g) [] caps] H fun x H' => x = .p (.int .i64 (gIx f l)) /\ H' = H := by
 refine Xc Tryz.func307 rfl ZqR (Zd [] _ _ _ _ ?_);simp (disch := omega) only [Tryz.f307, go_sem, seval];refine Zf [0, 1, 7] (fun k : Nat => [(8, .p (.int .i64 k))]) (fun _ => H) (fun k => k <= l.length /\ ∀ j, j < k -> f (nth l j) = false) (fun k => l.length - k) 0 (by simp) (Weak.mk ?_) ?_
 ·simp (disch := omega) only [hW, hc, go_sem, seval];simp
 ·rintro k ⟨hk, hno⟩;simp (disch := omega) only [go_sem, seval];refine cD ?_ ?_ <;> intro h <;> simp (disch := omega) only [Sh.out h, go_sem, seval]
  ·have hk2 : k < l.length := by omega
   have hgk := hg (nth l k) (Zi hk2);simp (disch := omega) only [Zof, go_sem, seval] at hgk;refine hgk.useH ?_;simp (disch := omega) only [go_sem, seval];refine cD ?_ ?_ <;> intro h2 <;> simp (disch := omega) only [Sh.out h2, go_sem, seval]
   ·rw [Zj9 hk2 h2 hno]
   ·have h3 : f (nth l k) = false := by simpa using h2
    refine ⟨k + 1, ⟨by omega, Zh.2 ⟨hno, h3⟩⟩, by omega, Weak.mk ?_⟩;simp (disch := omega) only [hW, hc, go_sem, seval];simp
  ·have hkl : k = l.length := by omega
   subst hkl;rw [Zjx hno]
theorem Zav (l : List (List Int)) (c : Bool) (g : FuncId) (caps : List V) (H : List AM.Obj) (f : List Int -> Bool) (hl : l.length <= 1048576) (hW : wkH H H.length H H) (hc : refBs H.length caps = true)
  (hg : ∀ v ∈ l, ACalls Tryz.prog g (.p (eIL v) :: caps) H fun x H' => x = .p (.bool (f v)) /\ H' = H) :
  ACalls Tryz.prog 269 [.p (.list c (l.map eIL)), .fn (.func g) [] caps] H fun x H' => x = .p (.bool (l.any f)) /\ H' = H := by
 refine Xc Tryz.func269 rfl Zr7 (Zd [] _ _ _ _ ?_);simp (disch := omega) only [Tryz.f269, go_sem, seval];refine (ZeW l c g caps H f hl hW hc hg).useH ?_;simp (disch := omega) only [go_sem, seval];rw [Zjz]
theorem Zjv (x : Inst) (r : Rte) (hx : InstOk x) (hl : r.visits.length <= 1048576) : PC 194 [.p (Zy x), .p (Yq r)] (.int .i64 (ZW x r.visits)) := by
 have hf := QK hx;obtain ⟨h1, h2⟩ := List.append_eq_nil_iff.1 hx.rules
 have ha : x.apart.length <= 1048576 := by
  have h3 := (List.append_eq_nil_iff.1 h1).1;unfold hdr at h3
  split at h3
  ·simp at h3
  ·omega
 have hb : x.before.length <= 1048576 := by
  have h3 := (List.append_eq_nil_iff.1 h2).1;unfold hdr at h3
  split at h3
  ·simp at h3
  ·omega
 exact Zd0 x r (by have := hf.len; omega) hl ha hb
theorem Zk5 {x : Inst} {l : List Vis} (hi : Inr x l) (hn : x.orders.length <= 10) : QN l = (((XD l : Nat) : Int), 0) := by
 rw [QN, if_pos];rw [List.all_eq_true];intro v hv;have := hi v hv;simp [inS]; omega
theorem Zp3 {α : Type} (f : Nat -> α) (n : Nat) : (List.range n).map f ++ [f n] = (List.range (n + 1)).map f := by rw [List.range_succ, List.map_append]; rfl
theorem Zi5 (x : Inst) (r : Rte) (hx : InstOk x) (hl : r.visits.length <= 1048576) (h0 : ZW x r.visits = 0) :
  PT 268 [.p (Zy x), .p (Yq r)] [.p (.list false ((VK x r.visits).map eIL)), .p (.int .i64 0)] := by
 have hd := Wo hx;have hsq := Wt h0;have hol := hd.ord;have hso := W0 r hl;rw [Zk5 hsq.inr hol] at hso
 have hD : dimsOf x.types = ((dimsOf x.types).toNat : Int) := by have := hd.dim; omega
 have cd := ZlL x.types x.types_c hd.typ;rw [hD] at cd;have hst := ZeI hsq.inr hol
 have hmem : ∀ i ∈ ZR ((XD r.visits : Nat) : Int) 63, 0 <= i /\ i < (x.orders.length : Int) := fun i hi => by
  rw [ZzM hsq.inr hol] at hi;obtain ⟨j, hj, rfl⟩ := List.mem_map.1 hi;have := List.mem_range.1 (List.mem_filter.1 hj).1;omega
 have cs := Zms x ((XD r.visits : Nat) : Int) (dimsOf x.types).toNat (by have := hd.dim; omega) (by omega) hmem (X0 _ _) (fun o ho => by have := hd.load o ho; exact ⟨by omega, this.2⟩);rw [hst] at cs;refine Zc [20] Tryz.func268 rfl Ztq ?_;simp (disch := omega) only [Tryz.f268, go_sem, seval];refine (Zjv x r hx hl).use ?_;simp (disch := omega) only [go_sem, seval];simp (disch := omega) only [h0, go_sem, seval];refine Xp hso ?_;simp (disch := omega) only [go_sem, seval];refine Zj mixed (by kernel_rfl) (by kernel_rfl) ?_;simp (disch := omega) only [go_sem, seval]
 refine Zt (cd) ?_;simp (disch := omega) only [go_sem, seval];refine Zt (cs) ?_;simp (disch := omega) only [go_sem, seval];refine ZI [20] [2, 37, 38] (fun q : Nat × List (List Int) => [(9, .p (.list false ((Wi x r.visits q.1).map eI))), (10, .sl 2 0 q.2.length q.2.length), (39, .p (.int .i64 q.1))]) (fun q => [Zb x, Zw r, .elems 1 (q.2.map eIL)]) (fun q => q.1 <= r.visits.length /\ q.2 = (List.range (q.1 + 1)).map (Wi x r.visits)) (fun q => r.visits.length - q.1) (0, [Wi x r.visits 0]) (by simp) (Weak.mk ?_) ?_
 ·simp (disch := omega) only [Zb, Zw, List.map_nil, List.map_cons, List.length_nil, List.length_cons, List.cons_append, List.nil_append, go_sem, seval]
 ·rintro ⟨k, o⟩ ⟨hk, ho⟩;simp only at hk ho
  have hol2 : o.length = k + 1 := by rw [ho]; simp
  simp (disch := omega) only [Zb, Zw, go_sem, seval];refine cD ?_ ?_ <;> intro h1 <;> simp (disch := omega) only [Sh.out h1, go_sem, seval]
  ·have hk2 : k < r.visits.length := by omega
   obtain ⟨v1, v2⟩ := hsq.inr _ (Zi hk2)
   have hi : (nth r.visits k).order.toNat < x.orders.length := by omega
   obtain ⟨l1, l2⟩ := hd.load _ (Xm hi);have hsu := Zfi hsq hk2;have hal := VF (x := x) (l := r.visits) (n := k);have hdm := hd.dim
   have hrg : ∀ j, j < (Wi x r.visits k).length -> -1073741824 <= nth (Wi x r.visits k) j /\ nth (Wi x r.visits k) j <= 1073741824 /\ -1073741824 <= nth (nth x.orders (nth r.visits k).order.toNat).load j /\ nth (nth x.orders (nth r.visits k).order.toNat).load j <= 1073741824 := fun j hj => by
    have b1 := Zh5 (x := x) (l := r.visits) (n := k) (j := j) (by omega) hd;have b2 := l2 _ (Xm (show j < (nth x.orders (nth r.visits k).order.toNat).load.length by omega));omega
   refine cD ?_ ?_ <;> intro h2 <;> simp (disch := omega) only [Sh.out h2, go_sem, seval]
   ·rw [if_pos h2] at hsu;refine Xp (Zn2 (Wi x r.visits k) (nth x.orders (nth r.visits k).order.toNat).load false (nth x.orders (nth r.visits k).order.toNat).load_c (by omega) (by omega) hrg) ?_;simp (disch := omega) only [go_sem, seval];exact ⟨(k + 1, o ++ [Wi x r.visits (k + 1)]), ⟨by simp only; omega, by simp only; rw [ho, Zp3]⟩, by simp only; omega, Weak.mk (by simp (disch := omega) only [Zb, Zw, hsu, List.length_append, List.length_cons, List.length_nil, List.map_append, List.map_cons, List.map_nil, go_sem, seval])⟩
   ·rw [if_neg (by rw [h2]; simp)] at hsu;refine Xp (Zke (Wi x r.visits k) (nth x.orders (nth r.visits k).order.toNat).load false (nth x.orders (nth r.visits k).order.toNat).load_c (by omega) (by omega) hrg) ?_;simp (disch := omega) only [go_sem, seval];exact ⟨(k + 1, o ++ [Wi x r.visits (k + 1)]), ⟨by simp only; omega, by simp only; rw [ho, Zp3]⟩, by simp only; omega, Weak.mk (by simp (disch := omega) only [Zb, Zw, hsu, List.length_append, List.length_cons, List.length_nil, List.map_append, List.map_cons, List.map_nil, go_sem, seval])⟩
  ·have hkl : k = r.visits.length := by omega
   subst hkl;refine Zm (Weak.fz (o := 2) (by rfl)) ?_;refine Zd [] _ _ _ _ ?_;simp (disch := omega) only [List.map_cons, List.map_nil, List.set_cons_succ, List.set_cons_zero, go_sem, seval];rw [VK, <- ho];exact we
theorem ZlT (x : Inst) (r : Rte) (a : List Int) (htl : x.types.length <= 1048576) (hty : 0 <= r.typ /\ r.typ < (x.types.length : Int)) (ha : a.length <= 1048576) (hc : (Z2 x r).cap.length <= 1048576) :
  ACalls Tryz.prog 270 [.p (eIL a), .ptr 0 0, .ptr 1 0] [Zb x, Zw r] fun y H' => y = .p (.bool (!YT a (Z2 x r).cap)) /\ H' = [Zb x, Zw r] := by
 have hti : r.typ.toNat < x.types.length := by omega
 refine Zc [] Tryz.func270 rfl Zty ?_;simp (disch := omega) only [Tryz.f270, Zb, Zw, go_sem, seval];refine (Zkj a (Z2 x r).cap false (Z2 x r).cap_c ha hc).use ?_;simp (disch := omega) only [go_sem, seval];exact we (by simp (disch := omega) only [Zb, Zw, go_sem, seval])
theorem ZhC (x : Inst) (r : Rte) (hx : InstOk x) (hl : r.visits.length <= 1048576) (hty : 0 <= r.typ /\ r.typ < (x.types.length : Int)) (h0 : ZW x r.visits = 0) :
  PC 196 [.p (Zy x), .p (Yq r)] (.int .i64 (if VH x (Z2 x r).cap r.visits = true then 0 else 17)) := by
 have hd := Wo hx;have htl := hd.typ
 have hti : r.typ.toNat < x.types.length := by omega
 have hcp : (Z2 x r).cap.length <= 1048576 := by
  have hcap := hx.types.2 _ hti;unfold QT at hcap;obtain ⟨⟨⟨⟨⟨⟨⟨⟨_, _⟩, _⟩, _⟩, hcap⟩, _⟩, _⟩, _⟩, _⟩ := hcap;simp only [W7, Bool.and_eq_true, decide_eq_true_eq, rng] at hcap;unfold Z2;omega
 have hll : (VK x r.visits).length = r.visits.length + 1 := by simp [VK]
 have hvl := (Wt h0).len hd.ord
 have XI : (VK x r.visits).any (fun a => !YT a (Z2 x r).cap) = !VH x (Z2 x r).cap r.visits := by
  rw [VH, VK, List.any_map, List.not_all_eq_any_not]; rfl
 have e1 : ¬ r.typ < 0 := by omega
 have e2 : ¬ (x.types.length : Int) <= r.typ := by omega
 refine Za Tryz.func196 rfl Zqd ?_;simp (disch := omega) only [Tryz.f196, e1, e2, go_sem, seval];refine Xp (Zi5 x r hx hl h0) ?_;simp (disch := omega) only [go_sem, seval];refine (Zav (VK x r.visits) false 270 [.ptr 0 0, .ptr 1 0] [Zb x, Zw r] (fun a => !YT a (Z2 x r).cap) (by omega) (by simp (disch := omega) only [Zb, Zw, go_sem, seval]) (by rfl) (fun a ha => ZlT x r a htl hty ?_ hcp)).useH ?_
 ·obtain ⟨j, _, rfl⟩ := List.mem_map.1 ha;rw [VF]; have := hd.dim; omega
 ·simp (disch := omega) only [Zb, Zw, go_sem, seval];rw [XI];refine cD ?_ ?_ <;> intro h1 <;> simp (disch := omega) only [Sh.out h1, go_sem, seval]
  ·rw [if_neg (by simpa using h1)]
  ·rw [if_pos (by simpa using h1)]
theorem Q3 (x : Inst) (p : Pln) (hn : x.orders.length <= 60) (hr : p.routes.length <= 1048576) (hb : ∀ r ∈ p.routes, rteB r) :
  PT 54 [.p (Zy x), .p (Jf p)] [.p (.int .i64 ((if kno x.orders.length p.routes = true then XC p.routes else 0 : Nat) : Int)), .p (.bool (kno x.orders.length p.routes))] := by
 have h60 : pw x.orders.length <= pw 60 := ZS hn;have e60 : pw 60 = 1152921504606846976 := rfl;refine Zc [] Tryz.func54 rfl Zwa ?_;simp (disch := omega) only [Tryz.f54, go_sem, seval];refine Zf [2, 12, 13] (fun k : Nat => [(6, .p (.int .i64 (XC (p.routes.take k) : Nat))), (14, .p (.int .i64 k))]) (fun _ => [Zb x, ZB p]) (fun k => k <= p.routes.length /\ ∀ j, j < k -> Za7 x.orders.length (nth p.routes j) = true) (fun k => p.routes.length - k) 0 (by simp) (Weak.mk ?_) ?_
 ·simp (disch := omega) only [Zb, ZB, XC, List.take_zero, List.foldl_nil, go_sem, seval]
 ·rintro k ⟨hk, hno⟩
  have hkn : kno x.orders.length (p.routes.take k) = true := by
   rw [kno, List.all_eq_true];intro r hr;obtain ⟨j, hj, rfl⟩ := List.mem_iff_getElem.1 hr;simp at hj;rw [List.getElem_take, <- Ze (by omega)];exact hno j (by omega)
  have hlt := W3 hkn;simp (disch := omega) only [Zb, ZB, go_sem, seval];refine cD ?_ ?_ <;> intro h <;> simp (disch := omega) only [Sh.out h, go_sem, seval]
  ·have hk2 : k < p.routes.length := by omega
   have hbad : Za7 x.orders.length (nth p.routes k) = false -> kno x.orders.length p.routes = false := fun h4 => by
    rw [kno, List.all_eq_false]; exact ⟨nth p.routes k, Zi hk2, by rw [h4]; simp⟩
   have hs := Zas hk2;refine WZ (W0 (nth p.routes k) (hb _ (Zi hk2)).1) ?_
   by_cases c : (nth p.routes k).visits.all inS = true
   ·have e : QN (nth p.routes k).visits = (((XD (nth p.routes k).visits : Nat) : Int), 0) := by simp [QN, c]
    rw [e];have hd : XD (nth p.routes k).visits / pw x.orders.length = 0 ↔ XD (nth p.routes k).visits < pw x.orders.length := Nat.div_eq_zero_iff_lt (Vq _);simp (disch := omega) only [go_sem, seval];refine cD ?_ ?_ <;> intro h3 <;> simp (disch := omega) only [Sh.out h3, go_sem, seval]
    ·have e2 := hbad (by
      cases c2 : Za7 x.orders.length (nth p.routes k) with
      | false => rfl
      | true => have := hd.2 (Zf3 c2); omega)
     rw [e2];exact we
    ·have h4 : XD (nth p.routes k).visits < pw x.orders.length := hd.1 (by omega);exact ⟨k + 1, ⟨by omega, Zh.2 ⟨hno, Ziu c h4⟩⟩, by omega, Weak.mk (by simp (disch := omega) only [Zb, ZB, hs, go_sem, seval])⟩
   ·have e : QN (nth p.routes k).visits = (0, 2) := by simp [QN, c]
    rw [e];simp (disch := omega) only [go_sem, seval]
    have e2 := hbad (by
     cases c2 : Za7 x.orders.length (nth p.routes k) with
     | false => rfl
     | true => exact absurd (Zcm hn c2) c)
    rw [e2];exact we
  ·have hkl : k = p.routes.length := by omega
   subst hkl
   have : kno x.orders.length p.routes = true := by rw [List.take_length] at hkn; exact hkn
   rw [this, if_pos rfl, List.take_length];exact we
def Zjy (f : Int -> Bool) (l : List Int) : Int := match l.findIdx? f with | some i => (i : Int) | none => -1
theorem Zga {f : Int -> Bool} {l : List Int} {k : Nat} (hk : k < l.length) (h : f (nth l k) = true) (hno : ∀ j, j < k -> f (nth l j) = false) : Zjy f l = (k : Int) := by
 have : l.findIdx? f = some k := by
  rw [List.findIdx?_eq_some_iff_getElem];refine ⟨hk, by rw [<- Ze hk]; exact h, fun j hj => ?_⟩;have h2 := hno j hj;rw [Ze (by omega)] at h2;simpa using h2
 simp [Zjy, this]
theorem ZeL {f : Int -> Bool} {l : List Int} (hno : ∀ j, j < l.length -> f (nth l j) = false) : Zjy f l = -1 := by
 have : l.findIdx? f = none := by
  rw [List.findIdx?_eq_none_iff];intro x hx;obtain ⟨j, hj, rfl⟩ := List.mem_iff_getElem.1 hx;rw [<- Ze hj]; exact hno j hj
 simp [Zjy, this]
theorem Zgu {f : Int -> Bool} {l : List Int} : decide (0 <= Zjy f l) = l.any f := by
 unfold Zjy
 cases h : l.findIdx? f with
 | none =>
  rw [List.findIdx?_eq_none_iff] at h
  have : l.any f = false := by rw [List.any_eq_false]; intro x hx; simp [h x hx]
  simp [this]
 | some i =>
  rw [List.findIdx?_eq_some_iff_getElem] at h;obtain ⟨h1, h2, _⟩ := h
  have : l.any f = true := by rw [List.any_eq_true]; exact ⟨l[i], List.getElem_mem _, h2⟩
  simp [this]
theorem K5 (l : List Int) (c : Bool) (g : FuncId) (caps : List V) (H : List AM.Obj) (f : Int -> Bool) (hl : l.length <= 1048576) (hW : wkH H H.length H H) (hc : refBs H.length caps = true)
  (hg : ∀ v ∈ l, ACalls Tryz.prog g (.p (eI v) :: caps) H fun x H' => x = .p (.bool (f v)) /\ H' = H) :
  ACalls Tryz.prog 150 [.p (.list c (l.map eI)), .fn (.func g) [] caps] H fun x H' => x = .p (.int .i64 (Zjy f l)) /\ H' = H := by
 refine Xc Tryz.func150 rfl ZnQ (Zd [] _ _ _ _ ?_);simp (disch := omega) only [Tryz.f150, go_sem, seval];refine Zf [0, 1, 7] (fun k : Nat => [(8, .p (.int .i64 k))]) (fun _ => H) (fun k => k <= l.length /\ ∀ j, j < k -> f (nth l j) = false) (fun k => l.length - k) 0 (by simp) (Weak.mk ?_) ?_
 ·simp (disch := omega) only [hW, hc, go_sem, seval];simp
 ·rintro k ⟨hk, hno⟩;simp (disch := omega) only [go_sem, seval];refine cD ?_ ?_ <;> intro h <;> simp (disch := omega) only [Sh.out h, go_sem, seval]
  ·have hk2 : k < l.length := by omega
   refine (hg (nth l k) (Zi hk2)).useH ?_;simp (disch := omega) only [go_sem, seval];refine cD ?_ ?_ <;> intro h2 <;> simp (disch := omega) only [Sh.out h2, go_sem, seval]
   ·rw [Zga hk2 h2 hno]
   ·have h3 : f (nth l k) = false := by simpa using h2
    refine ⟨k + 1, ⟨by omega, Zh.2 ⟨hno, h3⟩⟩, by omega, Weak.mk ?_⟩;simp (disch := omega) only [hW, hc, go_sem, seval];simp
  ·have hkl : k = l.length := by omega
   subst hkl;rw [ZeL hno]
theorem Ws (l : List Int) (c : Bool) (g : FuncId) (caps : List V) (H : List AM.Obj) (f : Int -> Bool) (hl : l.length <= 1048576) (hW : wkH H H.length H H) (hc : refBs H.length caps = true)
  (hg : ∀ v ∈ l, ACalls Tryz.prog g (.p (eI v) :: caps) H fun x H' => x = .p (.bool (f v)) /\ H' = H) :
  ACalls Tryz.prog 101 [.p (.list c (l.map eI)), .fn (.func g) [] caps] H fun x H' => x = .p (.bool (l.any f)) /\ H' = H := by
 refine Xc Tryz.func101 rfl Zso (Zd [] _ _ _ _ ?_);simp (disch := omega) only [Tryz.f101, go_sem, seval];refine (K5 l c g caps H f hl hW hc hg).useH ?_;simp (disch := omega) only [Zgu, go_sem, seval]
theorem Zii (l : List Int) (c : Bool) (v : Int) (hl : l.length <= 1048576) : PC 219 [.p (.list c (l.map eI)), .p (.int .i64 v)] (.int .i64 (Zjy (fun w => decide (v = w)) l)) := by
 refine Za Tryz.func219 rfl Zq2 ?_;simp (disch := omega) only [Tryz.f219, go_sem, seval];refine Zf [0, 1, 7] (fun k : Nat => [(8, .p (.int .i64 k))]) (fun _ => []) (fun k => k <= l.length /\ ∀ j, j < k -> decide (v = nth l j) = false) (fun k => l.length - k) 0 (by simp) (Weak.mk ?_) ?_
 ·simp (disch := omega) only [go_sem, seval]
 ·rintro k ⟨hk, hno⟩;simp (disch := omega) only [go_sem, seval];refine cD ?_ ?_ <;> intro h <;> simp (disch := omega) only [Sh.out h, go_sem, seval]
  ·have hk2 : k < l.length := by omega
   refine cD ?_ ?_ <;> intro h2 <;> simp (disch := omega) only [Sh.out h2, go_sem, seval]
   ·rw [Zga hk2 (by simpa using h2) hno]
   ·exact ⟨k + 1, ⟨by omega, Zh.2 ⟨hno, by simpa using h2⟩⟩, by omega, wk⟩
  ·have hkl : k = l.length := by omega
   subst hkl;rw [ZeL hno]
theorem Yl (l : List Int) (c : Bool) (v : Int) (hl : l.length <= 1048576) : PC 168 [.p (.list c (l.map eI)), .p (.int .i64 v)] (.bool (l.any fun w => decide (v = w))) := by
 refine Za Tryz.func168 rfl ZrJ ?_;simp (disch := omega) only [Tryz.f168, go_sem, seval];refine (Zii l c v hl).use ?_;simp (disch := omega) only [go_sem, seval];simp (disch := omega) only [Zgu, go_sem, seval]
theorem ZcG (l : List Int) (c : Bool) (hl : l.length <= 1048576) : ACalls Tryz.prog 42 [.p (.list c (l.map eI))] [] fun x H' => x = .sl 0 0 l.length l.length /\ H' = [.elems 1 (l.map eI)] := by
 suffices hh : ACalls Tryz.prog 42 [.p (.list c (l.map eI))] [] fun x H' => ∃ m : List Int, m = l /\ x = .sl 0 0 m.length m.length /\ H' = [.elems 1 (m.map eI)] by
  refine hh.mono fun x H' h => ?_;obtain ⟨m, rfl, h1, h2⟩ := h;exact ⟨h1, h2⟩
 refine Zc [1] Tryz.func42 rfl ZwZ ?_;simp (disch := omega) only [Tryz.f42, go_sem, seval];refine XA (XA (QL 1 rfl rfl ?_));refine ⟨_, ZaY (e := 3) rfl Tryz.underlying32 rfl (fun _ => rfl), ?_⟩;rintro _ ⟨b, rfl, hb⟩;simp (disch := omega) only [go_sem, seval];refine Zd [] _ _ _ _ ?_
 cases b with
 | true =>
  have hn : l = [] := by simpa using hb rfl
  subst hn;simp (disch := omega) only [go_sem, seval];exact ⟨_, _, Weak.ofNil 0 1 rfl (by simp) (wk), [], rfl, rfl, rfl⟩
 | false =>
  simp (disch := omega) only [go_sem, seval];refine Zd [] _ _ _ _ ?_;simp (disch := omega) only [go_sem, seval];exact ⟨.sl 0 0 l.length l.length, [.elems 1 (l.map eI)], wk, l, rfl, rfl, rfl⟩
theorem Zhh (l : List Vis) (c : Bool) (hl : l.length <= 1048576) : ACalls Tryz.prog 39 [.p (.list c (l.map eVis))] [] fun x H' => x = .sl 0 0 l.length l.length /\ H' = [.elems 2 (l.map eVis)] := by
 suffices hh : ACalls Tryz.prog 39 [.p (.list c (l.map eVis))] [] fun x H' => ∃ m : List Vis, m = l /\ x = .sl 0 0 m.length m.length /\ H' = [.elems 2 (m.map eVis)] by
  refine hh.mono fun x H' h => ?_;obtain ⟨m, rfl, h1, h2⟩ := h;exact ⟨h1, h2⟩
 refine Zc [1] Tryz.func39 rfl Zxg ?_;simp (disch := omega) only [Tryz.f39, go_sem, seval];refine XA (XA (QL 1 rfl rfl ?_));refine ⟨_, ZaY (e := 73) rfl Tryz.underlying42 rfl (fun _ => rfl), ?_⟩;rintro _ ⟨b, rfl, hb⟩;simp (disch := omega) only [go_sem, seval];refine Zd [] _ _ _ _ ?_
 cases b with
 | true =>
  have hn : l = [] := by simpa using hb rfl
  subst hn;simp (disch := omega) only [go_sem, seval];exact ⟨_, _, Weak.ofNil 0 2 rfl (by simp) (wk), [], rfl, rfl, rfl⟩
 | false =>
  simp (disch := omega) only [go_sem, seval];refine Zd [] _ _ _ _ ?_;simp (disch := omega) only [go_sem, seval];exact ⟨.sl 0 0 l.length l.length, [.elems 2 (l.map eVis)], wk, l, rfl, rfl, rfl⟩
def Zej (n : Nat) (u : Int) : Bool := !(decide (0 <= u) && decide (u < (n : Int)))
theorem Zd4 (x : Inst) (p : Pln) (u : Int) (hn : x.orders.length <= 1048576) : ACalls Tryz.prog 102 [.p (eI u), .ptr 0 0] [Zb x, ZB p] fun y H' => y = .p (.bool (Zej x.orders.length u)) /\ H' = [Zb x, ZB p] := by
 refine Zc [] Tryz.func102 rfl Zpe ?_;simp (disch := omega) only [Tryz.f102, Zb, ZB, go_sem, seval];refine gF ?_ ?_ <;> intro h <;> simp (disch := omega) only [Sh.out h, go_sem, seval]
 ·have e : Zej x.orders.length u = true := by simp [Zej]; omega
  rw [e];exact we (by simp (disch := omega) only [Zb, ZB, go_sem, seval])
 ·have e : Zej x.orders.length u = decide ((x.orders.length : Int) <= u) := by
   rw [Bool.eq_iff_iff]; simp [Zej]; omega
  rw [e];exact we (by simp (disch := omega) only [Zb, ZB, go_sem, seval])
theorem KZ (x : Inst) (p : Pln) (hn : x.orders.length <= 60) (hr : p.routes.length <= 1048576) (hu : p.unserved.length <= 1048576) (hb : ∀ r ∈ p.routes, rteB r) :
  PT 36 [.p (Zy x), .p (Jf p)] [.p (.int .i64 ((if kno x.orders.length p.routes = true then XC p.routes else 0 : Nat) : Int)), .p (.bool (QU x p))] := by
 refine Zc [] Tryz.func36 rfl ZxZ ?_;simp (disch := omega) only [Tryz.f36, go_sem, seval];refine WZ (Q3 x p hn hr hb) ?_
 have ea : QU x p = (kno x.orders.length p.routes && !(p.unserved.any (Zej x.orders.length))) := by
  rw [QU, Zc5, List.not_any_eq_all_not]; simp only [Zej, Bool.not_not]
 rw [ea];generalize (if kno x.orders.length p.routes = true then XC p.routes else 0) = S;simp (disch := omega) only [go_sem, seval];refine (Ws p.unserved p.unserved_c 102 [.ptr 0 0] [Zb x, ZB p] (Zej x.orders.length) hu (by simp (disch := omega) only [Zb, ZB, go_sem, seval]) (by simp (disch := omega) only [go_sem, seval]) fun u hu => Zd4 x p u (by omega)).useH ?_;generalize p.unserved.any (Zej x.orders.length) = B;generalize kno x.orders.length p.routes = K
 cases K with
 | true =>
  simp (disch := omega) only [go_sem, seval];exact we
 | false =>
  simp (disch := omega) only [go_sem, seval];exact we
theorem Zbu (x : Inst) (all set : Nat) (hn : x.orders.length <= 60) (hl : x.before.length <= 1048576) (hv : Val x.orders.length x.before) (ha : all < pw x.orders.length) (hs : set < 9223372036854775808) :
  PC 37 [.p (Zy x), .p (.int .i64 (all : Int)), .p (.int .i64 (set : Int))] (.int .i64 (lvS x.orders.length x.before all set : Nat)) := by
 have h60 : pw x.orders.length <= pw 60 := ZS hn;have e60 : pw 60 = 1152921504606846976 := rfl;have hm := X0 (all : Int) 63;rw [<- Zlr hn ha];refine Za Tryz.func37 rfl Zxc ?_;simp (disch := omega) only [Tryz.f37, go_sem, seval];refine ((YU (all : Int)).frozen (by simp)).use ?_;simp (disch := omega) only [go_sem, seval]
 have hin : ∀ i ∈ ZR (all : Int) 63, 0 <= i /\ i < x.orders.length := fun i hi => by
  obtain ⟨j, rfl, _, h3⟩ := Yi.1 hi;have := XS ha h3;omega
 generalize ZR (all : Int) 63 = m at *
 refine Zf [1, 2, 3, 11, 12] (fun k : Nat => [(7, .p (.int .i64 (XV ((m.take k).filter fun i => decide (ZH x.orders.length x.before i &&& set &&& all ≠ 0)) : Nat))), (13, .p (.int .i64 k))]) (fun _ => [Zb x]) (fun k => k <= m.length) (fun k => m.length - k) 0 (by simp) (Weak.mk ?_) ?_
 ·simp (disch := omega) only [Zb, List.take_zero, List.filter_nil, XV, List.foldl_nil, go_sem, seval]
 ·intro k hk
  have hlt : XV ((m.take k).filter fun i => decide (ZH x.orders.length x.before i &&& set &&& all ≠ 0)) < pw x.orders.length := YF fun i hi => by
   have := hin i (List.mem_of_mem_take (List.mem_filter.1 hi).1);omega
  simp (disch := omega) only [Zb, go_sem, seval];refine cD ?_ ?_ <;> intro h <;> simp (disch := omega) only [Sh.out h, go_sem, seval]
  ·have hk2 : k < m.length := by omega
   have hmk := hin _ (Zi hk2)
   have hnd : ZH x.orders.length x.before (nth m k) < pw x.orders.length := by
    obtain ⟨j, hj⟩ : ∃ j : Nat, nth m k = (j : Int) := ⟨(nth m k).toNat, by omega⟩;rw [hj, <- Vh hv (by omega)];exact Yv _ _
   have hal : ZH x.orders.length x.before (nth m k) &&& set <= ZH x.orders.length x.before (nth m k) := Nat.and_le_left;have hp : pw (nth m k).toNat <= pw 60 := ZS (by omega)
   have ht : (m.take (k + 1)).filter (fun i => decide (ZH x.orders.length x.before i &&& set &&& all ≠ 0)) = (m.take k).filter (fun i => decide (ZH x.orders.length x.before i &&& set &&& all ≠ 0)) ++ (if ZH x.orders.length x.before (nth m k) &&& set &&& all ≠ 0 then [nth m k] else []) := by
    rw [List.take_succ_eq_append_getElem hk2, List.filter_append, Ze hk2]
    congr 1
    by_cases c : ZH x.orders.length x.before m[k] &&& set &&& all = 0 <;> simp [c]
   refine (ZlK x (nth m k) hn hl hv).use ?_;simp (disch := omega) only [go_sem, seval];refine cD ?_ ?_ <;> intro h2 <;> simp (disch := omega) only [Sh.out h2, go_sem, seval]
   ·have h2' : ZH x.orders.length x.before (nth m k) &&& set &&& all ≠ 0 := by omega
    rw [if_pos h2'] at ht;refine ⟨k + 1, by omega, by omega, Weak.mk ?_⟩;simp (disch := omega) only [Zb, ht, KD, go_sem, seval]
   ·have h2' : ¬ ZH x.orders.length x.before (nth m k) &&& set &&& all ≠ 0 := by omega
    rw [if_neg h2', List.append_nil] at ht;refine ⟨k + 1, by omega, by omega, Weak.mk ?_⟩;simp (disch := omega) only [Zb, ht, go_sem, seval]
  ·have hkl : k = m.length := by omega
   subst hkl;rw [List.take_length]
def Zj2 (x : Inst) (t : Typ) (r : Rte) (c : Bool) (sp : List Stp) : PV := .agg [.list x.net.places_c (x.net.places.map eS), .list x.net.arcs_c (x.net.arcs.map Jd), .list x.types_c (x.types.map Jk), .list x.orders_c (x.orders.map UP), .list x.apart_c (x.apart.map eP), .list x.before_c (x.before.map eP), .str t.name, .int .i64 t.count, .int .i64 t.src, .int .i64 t.dst, .list t.cap_c (t.cap.map eI), .int .i64 t.skills, .int .i64 t.prof, .int .i64 t.opn, .int .i64 t.cls, .int .i64 t.drive, .int .i64 t.rest, .int .i64 t.fixed, .int .i64 t.perMile, .int .i64 t.perTick, .int .i64 r.typ, .int .i64 r.start, .list r.rests_c (r.rests.map eB), .list r.visits_c (r.visits.map eVis), .list c (sp.map ZiY)]
@[go_sem] theorem Zxj (x : Inst) (t : Typ) (r : Rte) (c : Bool) (sp : List Stp) : Zj2 x t r c sp = .agg [.list x.net.places_c (x.net.places.map eS), .list x.net.arcs_c (x.net.arcs.map Jd), .list x.types_c (x.types.map Jk), .list x.orders_c (x.orders.map UP), .list x.apart_c (x.apart.map eP), .list x.before_c (x.before.map eP), .str t.name, .int .i64 t.count, .int .i64 t.src, .int .i64 t.dst, .list t.cap_c (t.cap.map eI), .int .i64 t.skills, .int .i64 t.prof, .int .i64 t.opn, .int .i64 t.cls, .int .i64 t.drive, .int .i64 t.rest, .int .i64 t.fixed, .int .i64 t.perMile, .int .i64 t.perTick, .int .i64 r.typ, .int .i64 r.start, .list r.rests_c (r.rests.map eB), .list r.visits_c (r.visits.map eVis), .list c (sp.map ZiY)] := Eq.trans rfl rfl
def Zu1 (x : Inst) (t : Typ) (r : Rte) : List V := [.p (.list x.net.places_c (x.net.places.map eS)), .p (.list x.net.arcs_c (x.net.arcs.map Jd)), .p (.list x.types_c (x.types.map Jk)), .p (.list x.orders_c (x.orders.map UP)), .p (.list x.apart_c (x.apart.map eP)), .p (.list x.before_c (x.before.map eP)), .p (.str t.name), .p (.int .i64 t.count), .p (.int .i64 t.src), .p (.int .i64 t.dst), .p (.list t.cap_c (t.cap.map eI)), .p (.int .i64 t.skills), .p (.int .i64 t.prof), .p (.int .i64 t.opn), .p (.int .i64 t.cls), .p (.int .i64 t.drive), .p (.int .i64 t.rest), .p (.int .i64 t.fixed), .p (.int .i64 t.perMile), .p (.int .i64 t.perTick), .p (.int .i64 r.typ), .p (.int .i64 r.start), .p (.list r.rests_c (r.rests.map eB)), .p (.list r.visits_c (r.visits.map eVis))]
def Ya (x : Inst) (t : Typ) (r : Rte) (c : Bool) (sp : List Stp) : AM.Obj := .cells [.p (.list x.net.places_c (x.net.places.map eS)), .p (.list x.net.arcs_c (x.net.arcs.map Jd)), .p (.list x.types_c (x.types.map Jk)), .p (.list x.orders_c (x.orders.map UP)), .p (.list x.apart_c (x.apart.map eP)), .p (.list x.before_c (x.before.map eP)), .p (.str t.name), .p (.int .i64 t.count), .p (.int .i64 t.src), .p (.int .i64 t.dst), .p (.list t.cap_c (t.cap.map eI)), .p (.int .i64 t.skills), .p (.int .i64 t.prof), .p (.int .i64 t.opn), .p (.int .i64 t.cls), .p (.int .i64 t.drive), .p (.int .i64 t.rest), .p (.int .i64 t.fixed), .p (.int .i64 t.perMile), .p (.int .i64 t.perTick), .p (.int .i64 r.typ), .p (.int .i64 r.start), .p (.list r.rests_c (r.rests.map eB)), .p (.list r.visits_c (r.visits.map eVis)), .p (.list c (sp.map ZiY))]
def ZvC : AM.Obj := .cells [.p (.list true []), .p (.list true []), .p (.list true []), .p (.list true []), .p (.list true []), .p (.list true []), .p (.str []), .p (.int .i64 0), .p (.int .i64 0), .p (.int .i64 0), .p (.list true []), .p (.int .i64 0), .p (.int .i64 0), .p (.int .i64 0), .p (.int .i64 0), .p (.int .i64 0), .p (.int .i64 0), .p (.int .i64 0), .p (.int .i64 0), .p (.int .i64 0), .p (.int .i64 0), .p (.int .i64 0), .p (.list true []), .p (.list true []), .p (.list true [])]
def JT (L : Lab) : PV := .agg [.int .i64 L.ready, .int .i64 L.since, .bool L.she.rest, .int .i64 L.she.dep, .list L.she.times_c (L.she.times.map eTim), .int .i64 L.she.fin, .int .i64 L.she.miles]
@[go_sem] theorem Zwi (L : Lab) : JT L = .agg [.int .i64 L.ready, .int .i64 L.since, .bool L.she.rest, .int .i64 L.she.dep, .list L.she.times_c (L.she.times.map eTim), .int .i64 L.she.fin, .int .i64 L.she.miles] := Eq.trans rfl rfl
@[go_sem] theorem Ztw (l : List Lab) : Zem 7 (l.map JT) = true := UH (f := JT) (S := 7) (fun _ => rfl) l
def YK (L : Lab) : AM.Obj := .cells [.p (.int .i64 L.ready), .p (.int .i64 L.since), .p (.bool L.she.rest), .p (.int .i64 L.she.dep), .p (.list L.she.times_c (L.she.times.map eTim)), .p (.int .i64 L.she.fin), .p (.int .i64 L.she.miles)]
theorem ZiK (l : List Tim) (c : Bool) (hl : l.length <= 1048576) : ACalls Tryz.prog 331 [.p (.list c (l.map eTim))] [] fun x H' => x = .sl 0 0 l.length l.length /\ H' = [.elems 4 (l.map eTim)] := by
 suffices hh : ACalls Tryz.prog 331 [.p (.list c (l.map eTim))] [] fun x H' => ∃ m : List Tim, m = l /\ x = .sl 0 0 m.length m.length /\ H' = [.elems 4 (m.map eTim)] by
  refine hh.mono fun x H' h => ?_;obtain ⟨m, rfl, h1, h2⟩ := h;exact ⟨h1, h2⟩
 refine Zc [1] Tryz.func331 rfl Zoz ?_;simp (disch := omega) only [Tryz.f331, go_sem, seval];refine XA (XA (QL 1 rfl rfl ?_));refine ⟨_, ZaY (e := 341) rfl Tryz.underlying150 rfl (fun _ => rfl), ?_⟩;rintro _ ⟨b, rfl, hb⟩;simp (disch := omega) only [go_sem, seval];refine Zd [] _ _ _ _ ?_
 cases b with
 | true =>
  have hn : l = [] := by simpa using hb rfl
  subst hn;simp (disch := omega) only [go_sem, seval];exact ⟨_, _, Weak.ofNil 0 4 rfl (by simp) (wk), [], rfl, rfl, rfl⟩
 | false =>
  simp (disch := omega) only [go_sem, seval];refine Zd [] _ _ _ _ ?_;simp (disch := omega) only [go_sem, seval];exact ⟨.sl 0 0 l.length l.length, [.elems 4 (l.map eTim)], wk, l, rfl, rfl, rfl⟩
theorem ZaR (x : Inst) (t : Typ) (r : Rte) (c : Bool) (sp : List Stp) : PC 273 [.p (Zj2 x t r c sp)] (JT (X1 t r.start)) := by
 refine Zc [] Tryz.func273 rfl ZtD ?_;simp (disch := omega) only [Tryz.f273, go_sem, seval];exact we (by simp (disch := omega) only [X1, zShe, List.map_nil, go_sem, seval])
theorem Ziq (x : Inst) (t : Typ) (r : Rte) (c : Bool) (sp : List Stp) (k : Nat) (hk : k <= sp.length) (hl : sp.length <= 1048576) : PC 332 [.p (Zj2 x t r c sp), .p (.int .i64 (k : Nat))] (.int .i64 (Kn t sp k)) := by
 refine Za Tryz.func332 rfl Zsa ?_;simp (disch := omega) only [Tryz.f332, go_sem, seval];refine cD ?_ ?_ <;> intro h <;> simp (disch := omega) only [Sh.out h, go_sem, seval]
 ·have : k = 0 := by omega
  rw [Kn, if_pos this]
 ·have e1 : ((k : Int) - 1).toNat = k - 1 := by omega
  have h2 : ¬ k = 0 := by omega
  rw [Kn, if_neg h2]
  done
theorem ZnY (x : Inst) (r : Rte) (hx : InstOk x) (hty : 0 <= r.typ /\ r.typ < (x.types.length : Int)) (h0 : ZW x r.visits = 0) (hs : 0 <= r.start /\ r.start <= 4096) :
  PT 272 [.p (Zy x), .p (Yq r)] [.p (Zj2 x (Z2 x r) r false (ZY x r.visits)), .p (.bool true)] := by
 have hd := Wo hx;have hsq := Wt h0;have hol := hd.ord;have htl := hd.typ;have hvl := hsq.len hol
 have e1 : ¬ r.typ < 0 := by omega
 have e2 : ¬ (x.types.length : Int) <= r.typ := by omega
 have e3 : ¬ r.start < 0 := by omega
 have e4 : ¬ 4096 < r.start := by omega
 have e5 : ¬ 20 < (r.visits.length : Int) := by omega
 refine Zc [12] Tryz.func272 rfl Zjh ?_;simp (disch := omega) only [Tryz.f272, e1, e2, e3, e4, e5, go_sem, seval];refine Xl [9] 10 mixed (by kernel_rfl) (by kernel_rfl) (by kernel_rfl) (by simp) ?_;simp (disch := omega) only [go_sem, seval];refine Z0 _ _ (by simp (disch := omega) only [go_sem, seval]; exact ⟨rfl, rfl⟩) ?_;simp (disch := omega) only [go_sem, seval]
 refine ZI [12] [2, 4, 6, 49, 50] (fun q : Nat × List Stp => [(51, .p (.int .i64 q.1))])
  (fun q => [Zb x, Zw r, ZvC, .cells (Zu1 x (Z2 x r) r ++ [.sl 4 0 q.2.length q.2.length]), .elems 4 (q.2.map ZiY)])
  (fun q => q.1 <= r.visits.length /\ q.2 = (ZY x r.visits).take q.1) (fun q => r.visits.length - q.1) (0, []) (by simp) ((Weak.nilC (o := 3) (j := 24) 4 rfl rfl (by simp)).trans (Weak.mk ?_)) ?_
 ·simp (disch := omega) only [Zb, Zw, ZvC, Zu1, Z2, List.map_nil, List.length_nil, List.set_cons_succ, List.set_cons_zero, List.cons_append, List.nil_append, go_sem, seval]
 ·rintro ⟨k, o⟩ ⟨hk, ho⟩;simp only at hk ho
  have hol2 : o.length = k := by rw [ho]; simp [Xe]; omega
  simp (disch := omega) only [Zb, Zw, ZvC, Zu1, go_sem, seval];refine cD ?_ ?_ <;> intro h1 <;> simp (disch := omega) only [Sh.out h1, go_sem, seval]
  ·have hk2 : k < r.visits.length := by omega
   have hvis := hsq.vis (Zi hk2);simp only [Kj, Bool.and_eq_true, decide_eq_true_eq] at hvis
   have hsn : o ++ [XH x (nth r.visits k)] = (ZY x r.visits).take (k + 1) := by
    rw [ho, List.take_succ_eq_append_getElem (by rw [Xe]; exact hk2), <- Ze, Jr hk2]
   have hnp : ¬ (XH x (nth r.visits k)).place < 0 := by omega
   refine Xp (ZgG x (nth r.visits k) (by omega) hvis.1 hvis.2) ?_;simp (disch := omega) only [hnp, go_sem, seval];exact ⟨(k + 1, o ++ [XH x (nth r.visits k)]), ⟨by simp only; omega, hsn⟩, by simp only; omega, Weak.mk (by simp (disch := omega) only [Zb, Zw, ZvC, Zu1, List.length_append, List.length_cons, List.length_nil, List.map_append, List.map_cons, List.map_nil, List.cons_append, List.nil_append, go_sem, seval])⟩
  ·have hkl : k = r.visits.length := by omega
   subst hkl
   have hso : o = ZY x r.visits := by rw [ho, <- Xe (x := x) (l := r.visits), List.take_length]
   subst hso;refine Zm (Weak.fz (o := 4) (by rfl)) ?_;refine Zd [] _ _ _ _ ?_;simp (disch := omega) only [List.map_cons, List.map_nil, List.set_cons_succ, List.set_cons_zero, go_sem, seval];exact we
def shO (rd sn : Int) (m : She) : AM.Obj := .cells [.p (.int .i64 rd), .p (.int .i64 sn), .p (.bool m.rest), .p (.int .i64 m.dep), .sl 4 0 m.times.length m.times.length, .p (.int .i64 m.fin), .p (.int .i64 m.miles)]
theorem Jl {P : Program} {H : List AM.Obj} {f ars} {a b d : PV} {B : V -> Prop} {t} (h : ACalls P f ars [] fun x H' => x = .tup [.p a, .p b, .p d] /\ H' = []) (k : B (.tup [.p a, .p b, .p d])) (ha : refBs 0 ars = true := by rfl) :
  exq (fun y => ACalls P f ars H (Zv (Zv (fun x H' => x = y /\ H' = H) ⟨⟩) ⟨⟩)) (Zv B t) :=
 ⟨.tup [.p a, .p b, .p d], (h.behind ha H).mono fun x H' hq => by
  obtain ⟨y, H1, ⟨rfl, rfl⟩, rfl, rfl⟩ := hq
  simp [shV, Ko, Zv], k⟩
theorem ZtS (x : Inst) (t : Typ) (r : Rte) (c : Bool) (sp : List Stp) (hok : TrpOk x t sp) (k : Nat) (hk : k <= sp.length) (hs1 : 0 < sp.length) (L : Lab) (hL : LabR k L) (hlen : L.she.times.length = k) (hclip : 0 < k -> L.she.times_c = false) (b : Bool) :
  PT 308 [.p (Zj2 x t r c sp), .p (JT L), .p (.int .i64 (k : Nat)), .p (.bool b)] [.p (JT (Y8 x t sp k L b).1), .p (.int .i64 (Y8 x t sp k L b).2)] := by
 have hd := Vn hok hL b;have hsn := J8 hL b;have hg := Zbf hok hL b;have hmi := hL.mil;have hrd := hL.rdy;have hsnL := hL.snc;have hsl := hok.len;have hrst := hok.rst;unfold Y8;have hmm := @Vc k (ZX t L b) b L.she;have hmf := @Zag k (ZX t L b) b L.she;have hml := @Vv k (ZX t L b) b L.she;refine Zc [2, 7, 14, 31] Tryz.func308 rfl Ztv ?_;simp (disch := omega) only [Tryz.f308, go_sem, seval];refine Zj mixed (by kernel_rfl) (by kernel_rfl) ?_;simp (disch := omega) only [go_sem, seval];refine Zo [2, 3, 4, 5, 8] (fun _ : Unit => [(10, .p (.int .i64 (ZX t L b))), (11, .p (.int .i64 (Vm L b)))]) (fun _ => [Ya x t r c sp, YK L, YK WJ]) (fun _ => True) ?_ ?_
 ·simp (disch := omega) only [go_sem, seval];refine cD ?_ ?_ <;> intro h <;> simp (disch := omega) only [Sh.out h, go_sem, seval]
  ·subst h;exact ⟨(), Weak.mk (by simp (disch := omega) only [Ya, YK, WJ, zShe, ZX, Vm, List.map_nil, go_sem, seval])⟩
  ·subst h;exact ⟨(), Weak.mk (by simp (disch := omega) only [Ya, YK, WJ, zShe, ZX, Vm, List.map_nil, go_sem, seval])⟩
 ·intro _ _;refine Zd [7, 14, 31] _ _ _ _ ?_;simp (disch := omega) only [Ya, YK, WJ, zShe, List.map_nil, go_sem, seval];refine (ZiK L.she.times L.she.times_c (by omega)).useF ?_;simp (disch := omega) only [go_sem, seval]
  generalize hM : Xu k (ZX t L b) b L.she = M at *
  refine Zo [2, 4, 8, 10, 11, 12] (fun _ : Unit => []) (fun _ => [Ya x t r c sp, YK L, YK WJ, shO 0 0 M, .elems 4 (M.times.map eTim)]) (fun _ => True) ?_ ?_
  ·simp (disch := omega) only [go_sem, seval];refine cD ?_ ?_ <;> intro h <;> simp (disch := omega) only [Sh.out h, go_sem, seval]
   ·have hk0 : k = 0 := by omega
    subst hk0
    have e : M = { L.she with rest := b, dep := ZX t L b } := by rw [<- hM, Xu, if_pos rfl]
    rw [e];exact ⟨(), Weak.mk (by simp (disch := omega) only [Ya, YK, WJ, zShe, shO, List.map_nil, go_sem, seval])⟩
   ·have e1 : ((k : Int) - 1).toNat = k - 1 := by omega
    have hk1 : k - 1 < L.she.times.length := by omega
    have Zbe : (L.she.times.map eTim).set (k - 1) (PV.agg [.int .i64 (nth L.she.times (k - 1)).arr, .int .i64 (nth L.she.times (k - 1)).beg, .int .i64 (nth L.she.times (k - 1)).dep, .bool b]) = (L.she.times.set (k - 1) { nth L.she.times (k - 1) with rest := b }).map eTim := by
     rw [List.map_set]; rfl
    have hn1 : nth (L.she.times.set (k - 1) { nth L.she.times (k - 1) with rest := b }) (k - 1) = { nth L.she.times (k - 1) with rest := b } := by
     rw [Ze (by simpa using hk1)]; simp
    have hl1 : (L.she.times.set (k - 1) { nth L.she.times (k - 1) with rest := b }).length = L.she.times.length := by simp
    have hMt : M.times = (L.she.times.set (k - 1) { nth L.she.times (k - 1) with rest := b }).set (k - 1) { nth (L.she.times.set (k - 1) { nth L.she.times (k - 1) with rest := b }) (k - 1) with dep := ZX t L b } := by
     rw [hn1, List.set_set, <- hM, Xu, if_neg (by omega)]; rfl
    have hM2 : M.rest = L.she.rest /\ M.dep = L.she.dep := by rw [<- hM, Xu, if_neg (by omega)]; exact ⟨rfl, rfl⟩
    simp (disch := first | omega | (simp only [List.length_cons, List.length_nil, List.length_append, List.length_map, List.length_take, List.length_drop] <;> omega)) only [e1, go_sem, seval];rw [Zbe]
    generalize L.she.times.set (k - 1) { nth L.she.times (k - 1) with rest := b } = l1 at *
    simp (disch := first | omega | (simp only [List.length_cons, List.length_nil, List.length_append, List.length_map, List.length_take, List.length_drop] <;> omega)) only [e1, hl1, eq_self, decide_true, go_sem, seval];refine ⟨(), Weak.mk ?_⟩;simp (disch := omega) only [Ya, YK, WJ, zShe, shO, List.map_nil, hM2.1, hM2.2, hmm, hmf, hml, go_sem, seval];rw [hMt, List.map_set]
    rfl
  ·intro _ _;refine Zd [14, 31] _ _ _ _ ?_;simp (disch := omega) only [Ya, YK, WJ, zShe, shO, List.map_nil, go_sem, seval];refine Zo [2, 4, 8, 10, 11, 12, 13] (fun _ : Unit => [(14, .p (.int .i64 (toF t sp k)))]) (fun _ => [Ya x t r c sp, YK L, YK WJ, shO 0 0 M, .elems 4 (M.times.map eTim)]) (fun _ => True) ?_ ?_
   ·simp (disch := omega) only [go_sem, seval];refine cD ?_ ?_ <;> intro h <;> simp (disch := omega) only [Sh.out h, go_sem, seval]
    ·have e : toF t sp k = (nth sp k).place := by rw [toF, if_neg (by omega)]
     exact ⟨(), Weak.mk (by simp (disch := omega) only [Ya, YK, WJ, zShe, shO, List.map_nil, e, go_sem, seval])⟩
    ·have e : toF t sp k = t.dst := by rw [toF, if_pos (by omega)]
     exact ⟨(), Weak.mk (by simp (disch := omega) only [Ya, YK, WJ, zShe, shO, List.map_nil, e, go_sem, seval])⟩
   ·intro _ _;refine Zd [31] _ _ _ _ ?_;simp (disch := omega) only [Ya, YK, WJ, zShe, shO, List.map_nil, go_sem, seval];refine Zj mixed (by kernel_rfl) (by kernel_rfl) ?_;simp (disch := omega) only [go_sem, seval];refine Zt (Ziq x t r c sp k hk (by omega)) ?_;simp (disch := omega) only [go_sem, seval];refine Jl (Zx6 x.net t.prof (Kn t sp k) (toF t sp k) (ZX t L b) hok.net (by omega)) ?_;simp (disch := omega) only [go_sem, seval];have hG : goN x.net t.prof (Kn t sp k) (toF t sp k) (ZX t L b) = goL x t sp k (ZX t L b) := rfl;rw [hG];clear hG
    generalize goL x t sp k (ZX t L b) = g at *
    generalize ZX t L b = d at *
    generalize Vm L b = s at *
    refine cD ?_ ?_ <;> intro h1 <;> simp (disch := omega) only [Sh.out h1, go_sem, seval]
    ·have e : Vk t sp k g d s M = (WJ, 12) := by rw [Vk, if_pos h1]
     rw [e];exact we (by simp (disch := omega) only [WJ, zShe, List.map_nil, go_sem, seval])
    ·refine cD ?_ ?_ <;> intro h2 <;> simp (disch := omega) only [Sh.out h2, go_sem, seval]
     ·refine cD ?_ ?_ <;> intro h3 <;> simp (disch := omega) only [Sh.out h3, go_sem, seval]
      ·have e : Vk t sp k g d s M = (WJ, 15) := by rw [Vk, if_neg h1, if_pos (by omega), if_pos h3]
       rw [e];exact we (by simp (disch := omega) only [WJ, zShe, List.map_nil, go_sem, seval])
      ·refine Zm (Weak.fz (o := 4) (by rfl)) ?_;refine Zd [] _ _ _ _ ?_;simp (disch := omega) only [List.map_cons, List.map_nil, List.set_cons_succ, List.set_cons_zero, go_sem, seval];refine cD ?_ ?_ <;> intro h4 <;> simp (disch := omega) only [Sh.out h4, go_sem, seval]
       ·have e : Vk t sp k g d s M = (WJ, 16) := by rw [Vk, if_neg h1, if_pos (by omega), if_neg h3, if_pos h4]
        rw [e];exact we (by simp (disch := omega) only [WJ, zShe, List.map_nil, go_sem, seval])
       ·have e : Vk t sp k g d s M = (⟨g.1, s + g.1 - d, { M with fin := g.1, miles := M.miles + g.2.1 }⟩, 0) := by rw [Vk, if_neg h1, if_pos (by omega), if_neg h3, if_neg h4]
        have hMc : M.times_c = false := by
         rw [<- hM, Xu, if_neg (by omega)];exact hclip (by omega)
        rw [e];exact we (by simp (disch := omega) only [hMc, go_sem, seval])
     ·have h2' : ¬ k = sp.length := by omega
      have hkl : k < sp.length := by omega
      have hstp := hok.stp _ (Xm hkl);refine Xp (Zlj (nth sp k) g.1) ?_;unfold Zln
      by_cases h3 : (nth sp k).cls < max g.1 (nth sp k).opn
      ·have e : Vk t sp k g d s M = (WJ, 14) := by rw [Vk, if_neg h1, if_neg h2', if_pos h3]
       rw [e, if_pos h3];simp (disch := omega) only [go_sem, seval];exact we (by simp (disch := omega) only [WJ, zShe, List.map_nil, go_sem, seval])
      ·rw [if_neg h3];simp (disch := omega) only [go_sem, seval];refine Zm (Weak.fz (o := 4) (by rfl)) ?_;refine Zd [] _ _ _ _ ?_;simp (disch := omega) only [List.map_cons, List.map_nil, List.set_cons_succ, List.set_cons_zero, go_sem, seval];refine cD ?_ ?_ <;> intro h4 <;> simp (disch := omega) only [Sh.out h4, go_sem, seval]
       ·have e : Vk t sp k g d s M = (WJ, 16) := by rw [Vk, if_neg h1, if_neg h2', if_neg h3, if_pos h4]
        rw [e];exact we (by simp (disch := omega) only [WJ, zShe, List.map_nil, go_sem, seval])
       ·have e : Vk t sp k g d s M = (⟨max g.1 (nth sp k).opn + (nth sp k).serv, s + g.1 - d, { M with times_c := false, times := M.times ++ [⟨g.1, max g.1 (nth sp k).opn, 0, false⟩], miles := M.miles + g.2.1 }⟩, 0) := by rw [Vk, if_neg h1, if_neg h2', if_neg h3, if_neg h4]
        rw [e];exact we
theorem ZeZ {x t sp k L b} (hs : 0 < sp.length) (hc : 0 < k -> L.she.times_c = false) (he : (Y8 x t sp k L b).2 = 0) : (Y8 x t sp k L b).1.she.times_c = false := by
 have hm : 0 < k -> (Xu k (ZX t L b) b L.she).times_c = false := fun h => by rw [Xu, if_neg (by omega)]; exact hc h
 unfold Y8 at he ⊢
 generalize goL x t sp k (ZX t L b) = g at *
 generalize ZX t L b = d at *
 generalize Vm L b = s at *
 generalize Xu k d b L.she = m at *
 unfold Vk at he ⊢
 split at he
 ·simp at he
 ·rename_i c1;rw [if_neg c1]
  split at he
  ·rename_i c2;rw [if_pos c2]
   split at he
   ·simp at he
   ·rename_i c3;rw [if_neg c3]
    split at he
    ·simp at he
    ·rename_i c4;rw [if_neg c4];exact hm (by omega)
  ·rename_i c2;rw [if_neg c2]
   split at he
   ·simp at he
   ·rename_i c3;rw [if_neg c3]
    split at he
    ·simp at he
    ·rename_i c4;rw [if_neg c4]
structure LabO (n k : Nat) (L : Lab) : Prop where
 rng : LabR k L
 len : k <= n -> L.she.times.length = k
 clip : 0 < k -> L.she.times_c = false
theorem Ku {x t sp k L b} (hok : TrpOk x t sp) (hs : 0 < sp.length) (hk : k <= sp.length) (h : LabO sp.length k L) (he : (Y8 x t sp k L b).2 = 0) : LabO sp.length (k + 1) (Y8 x t sp k L b).1 :=
 ⟨Zby hok hk h.rng he, fun hk2 => Jm (h.len hk) he (by omega), fun _ => ZeZ hs h.clip he⟩
theorem Kz {x t sp} (hok : TrpOk x t sp) {st : Int} (hst : 0 <= st /\ st <= 4096) : LabO sp.length 0 (X1 t st) :=
 ⟨⟨by have := hok.opn; simp only [X1]; omega, by simp [X1], by simp [X1, zShe]⟩, fun _ => rfl, fun h => by omega⟩
theorem Ze9 (x : Inst) (t : Typ) (r : Rte) (c : Bool) (sp : List Stp) (hok : TrpOk x t sp) (k : Nat) (hk : k <= sp.length) (hs1 : 0 < sp.length) (L : Lab) (hL : LabO sp.length k L) (b : Bool) :
  PT 308 [.p (Zj2 x t r c sp), .p (JT L), .p (.int .i64 (k : Nat)), .p (.bool b)] [.p (JT (Y8 x t sp k L b).1), .p (.int .i64 (Y8 x t sp k L b).2)] :=
 ZtS x t r c sp hok k hk hs1 L hL.rng (hL.len hk) hL.clip b
theorem Zw4 (x : Inst) (t : Typ) (r : Rte) (c : Bool) (sp : List Stp) (hok : TrpOk x t sp) (hs1 : 0 < sp.length) (hst : 0 <= r.start /\ r.start <= 4096) (bs : List Bool) (d : Bool) (hb : bs.length = sp.length + 1) :
  PT 275 [.p (Zj2 x t r c sp), .p (.list d (bs.map eB))] [.p (ZfE (X9 x t sp 0 (X1 t r.start) bs).1.she), .p (.int .i64 (X9 x t sp 0 (X1 t r.start) bs).2)] := by
 have hsl := hok.len;refine Zc [] Tryz.func275 rfl ZpQ ?_;simp (disch := omega) only [Tryz.f275, go_sem, seval];refine (ZaR x t r c sp).use ?_;simp (disch := omega) only [go_sem, seval]
 refine Zf [2, 4, 6, 13, 14] (fun q : Nat × Lab => [(15, .p (.int .i64 q.1))]) (fun q => [Ya x t r c sp, .cells [.p (.bool false), .p (.int .i64 0), .p (.list true []), .p (.int .i64 0), .p (.int .i64 0)], YK q.2])
  (fun q => q.1 <= bs.length /\ X9 x t sp 0 (X1 t r.start) bs = X9 x t sp q.1 q.2 (bs.drop q.1) /\ LabO sp.length q.1 q.2) (fun q => bs.length - q.1) (0, X1 t r.start) ⟨by simp, by simp, Kz hok hst⟩ (Weak.mk ?_) ?_
 ·simp (disch := omega) only [Ya, YK, go_sem, seval]
 ·rintro ⟨k, L⟩ ⟨hk, hrun, hL⟩;simp only at hk hrun hL;simp (disch := omega) only [Ya, YK, go_sem, seval];refine cD ?_ ?_ <;> intro h1 <;> simp (disch := omega) only [Sh.out h1, go_sem, seval]
  ·have hk2 : k < bs.length := by omega
   have hdrop : bs.drop k = nth bs k :: bs.drop (k + 1) := by rw [List.drop_eq_getElem_cons hk2, Ze hk2]
   rw [hdrop, X9] at hrun;have cn := Ze9 x t r c sp hok k (by omega) hs1 L hL (nth bs k);have hL2 := Ku (x := x) (t := t) (b := nth bs k) hok hs1 (by omega) hL
   generalize Y8 x t sp k L (nth bs k) = N at *
   refine Xp cn ?_;simp (disch := omega) only [go_sem, seval];refine cD ?_ ?_ <;> intro h2 <;> simp (disch := omega) only [Sh.out h2, go_sem, seval]
   ·rw [hrun, if_neg h2];exact we (by simp (disch := omega) only [WJ, zShe, List.map_nil, go_sem, seval])
   ·rw [if_pos (by omega)] at hrun;exact ⟨(k + 1, N.1), ⟨by simp only; omega, hrun, hL2 (by omega)⟩, by simp only; omega, Weak.mk (by simp (disch := omega) only [Ya, YK, go_sem, seval])⟩
  ·have hkl : k = bs.length := by omega
   subst hkl;rw [List.drop_length, X9] at hrun;rw [hrun];exact we
theorem Zkz (l m : Lab) : PC 311 [.p (JT l), .p (JT m)] (.bool (ZK l m)) := by
 refine Za Tryz.func311 rfl Zrz ?_;simp (disch := omega) only [Tryz.f311, go_sem, seval];refine gT ?_ ?_ <;> intro h <;> simp (disch := omega) only [Sh.out h, go_sem, seval]
 ·simp [ZK, h]
 ·simp [ZK, h]
def gH (x : Inst) (t : Typ) (r : Rte) (c : Bool) (sp : List Stp) (o : List Lab) (f z : Lab) : List AM.Obj := [Ya x t r c sp, .dead, .elems 7 (o.map JT), YK f, YK z]
theorem Zmo (x : Inst) (t : Typ) (r : Rte) (c : Bool) (sp : List Stp) (o : List Lab) (f z m : Lab) : ACalls Tryz.prog 310 [.p (JT m), .ptr 4 0] (gH x t r c sp o f z) fun y H' => y = .p (.bool (ZK m z)) /\ H' = gH x t r c sp o f z := by
 refine Zc [] Tryz.func310 rfl ZqC ?_;simp (disch := omega) only [Tryz.f310, gH, Ya, YK, go_sem, seval];refine (Zkz m z).use ?_;simp (disch := omega) only [go_sem, seval];exact we (by simp (disch := omega) only [gH, Ya, YK, go_sem, seval])
theorem Zdb (x : Inst) (t : Typ) (r : Rte) (c : Bool) (sp : List Stp) (o : List Lab) (f z : Lab) (hl : o.length <= 2097152) :
  ACalls Tryz.prog 333 [.sl 2 0 o.length o.length, .fn (.func 310) [] [.ptr 4 0]] (gH x t r c sp o f z) fun y H' => y = .p (.int .i64 (gIx (fun m => ZK m z) o)) /\ H' = gH x t r c sp o f z := by
 refine Zc [] Tryz.func333 rfl ZoW ?_;simp (disch := omega) only [Tryz.f333, gH, Ya, YK, go_sem, seval];refine Zf [0, 1, 7] (fun k : Nat => [(8, .p (.int .i64 k))]) (fun _ => gH x t r c sp o f z) (fun k => k <= o.length /\ ∀ j, j < k -> ZK (nth o j) z = false) (fun k => o.length - k) 0 (by simp) (Weak.mk ?_) ?_
 ·simp (disch := omega) only [gH, Ya, YK, go_sem, seval]
 ·rintro k ⟨hk, hno⟩;simp (disch := omega) only [gH, Ya, YK, go_sem, seval];refine cD ?_ ?_ <;> intro h <;> simp (disch := omega) only [Sh.out h, go_sem, seval]
  ·have hk2 : k < o.length := by omega
   have hg := Zmo x t r c sp o f z (nth o k);simp (disch := first | omega | (simp only [List.length_cons, List.length_nil, List.length_append, List.length_map, List.length_take, List.length_drop] <;> omega)) only [Xb hk2, hk2, go_sem, seval];simp (disch := omega) only [gH, Ya, YK, go_sem, seval] at hg;refine hg.useH ?_;simp (disch := omega) only [go_sem, seval];refine cD ?_ ?_ <;> intro h2 <;> simp (disch := omega) only [Sh.out h2, go_sem, seval]
   ·rw [Zj9 (f := fun m => ZK m z) hk2 h2 hno];exact we (by simp (disch := omega) only [gH, Ya, YK, go_sem, seval])
   ·exact ⟨k + 1, ⟨by omega, Zh.2 ⟨hno, by simpa using h2⟩⟩, by omega, Weak.mk (by simp (disch := omega) only [gH, Ya, YK, go_sem, seval])⟩
  ·have hkl : k = o.length := by omega
   subst hkl;rw [Zjx hno];exact we (by simp (disch := omega) only [gH, Ya, YK, go_sem, seval])
theorem J2 (x : Inst) (t : Typ) (r : Rte) (c : Bool) (sp : List Stp) (o : List Lab) (f z : Lab) (hl : o.length <= 2097152) :
  ACalls Tryz.prog 309 [.sl 2 0 o.length o.length, .fn (.func 310) [] [.ptr 4 0]] (gH x t r c sp o f z) fun y H' => y = .p (.bool (o.any fun m => ZK m z)) /\ H' = gH x t r c sp o f z := by
 refine Zc [] Tryz.func309 rfl ZqH ?_;simp (disch := omega) only [Tryz.f309, go_sem, seval];refine (Zdb x t r c sp o f z hl).useH ?_;simp (disch := omega) only [go_sem, seval];rw [Zjz];exact we (by simp (disch := omega) only [gH, Ya, YK, go_sem, seval])
def ZmJ (x : Inst) (t : Typ) (sp : List Stp) (r : List Bool) (k : Nat) (f : Lab) (bs : List Bool) (l : List Lab) : List Lab := bs.filterMap (X6 x t sp k f) ++ YO (X6 x t sp) (chF r) k l
theorem ZpH (x : Inst) (t : Typ) (r : Rte) (c : Bool) (sp : List Stp) (hok : TrpOk x t sp) (hs1 : 0 < sp.length) (k : Nat) (hk : k <= sp.length) (hrl : r.rests.length <= 1048576) (l : List Lab) (d : Bool) (hl : l.length <= 1048576) (hL : ∀ L ∈ l, LabO sp.length k L) :
  PC 274 [.p (Zj2 x t r c sp), .p (.list d (l.map JT)), .p (.int .i64 (k : Nat))] (.list false ((Z7 ZK [] (YO (X6 x t sp) (chF r.rests) k l)).map JT)) := by
 have hsl := hok.len;refine Zc [2, 16] Tryz.func274 rfl Zrw ?_;simp (disch := omega) only [Tryz.f274, go_sem, seval];refine Zm (Weak.fz (o := 1) (by rfl)) ?_;simp (disch := omega) only [List.map_cons, List.map_nil, List.set_cons_succ, List.set_cons_zero, go_sem, seval];refine Zo [1, 2, 3] (fun cb : Bool => [(7, .p (.list cb ((chF r.rests k).map eB)))]) (fun _ => [Ya x t r c sp, .dead]) (fun _ => True) ?_ ?_
 ·simp (disch := omega) only [go_sem, seval];refine cD ?_ ?_ <;> intro h <;> simp (disch := omega) only [Sh.out h, go_sem, seval]
  ·have hk2 : k < r.rests.length := by omega
   have e : chF r.rests k = (r.rests.take (k + 1)).drop k := by
    rw [chF, List.getElem?_eq_getElem hk2, List.take_succ_eq_append_getElem hk2, List.drop_left' (by simp; omega)]
   exact ⟨r.rests_c && decide ((k : Int) + 1 = (r.rests.length : Int)), Weak.mk (by simp (disch := omega) only [Ya, e, go_sem, seval])⟩
  ·have e : chF r.rests k = [false, true] := by rw [chF, List.getElem?_eq_none (by omega)]
   exact ⟨false, Weak.mk (by simp (disch := omega) only [Ya, e, List.map_cons, List.map_nil, go_sem, seval])⟩
 ·intro cb _
  have hch : (chF r.rests k).length <= 2 := by unfold chF; split <;> simp
  refine Zd [16] _ _ _ _ ?_;simp (disch := omega) only [Ya, go_sem, seval]
  refine ZI [16] [2, 3, 7, 29, 30] (fun q : Nat × List Lab => [(8, .sl 2 0 q.2.length q.2.length), (31, .p (.int .i64 q.1))]) (fun q => [Ya x t r c sp, .dead, .elems 7 (q.2.map JT)])
   (fun q => q.1 <= l.length /\ Z7 ZK [] (YO (X6 x t sp) (chF r.rests) k l) = Z7 ZK q.2 (YO (X6 x t sp) (chF r.rests) k (l.drop q.1)) /\ q.2.length <= 2 * q.1) (fun q => l.length - q.1) (0, []) (by simp) (Weak.ofNil 8 7 rfl (by simp) (Weak.mk ?_)) ?_
  ·simp (disch := omega) only [Ya, List.map_nil, List.length_nil, go_sem, seval]
  ·rintro ⟨i, o⟩ ⟨hi, hpr, hol⟩;simp only at hi hpr hol;simp (disch := omega) only [Ya, go_sem, seval];refine cD ?_ ?_ <;> intro h1 <;> simp (disch := omega) only [Sh.out h1, go_sem, seval]
   ·have hi2 : i < l.length := by omega
    have hLi := hL _ (Xm hi2)
    have hdrop : l.drop i = nth l i :: l.drop (i + 1) := by rw [List.drop_eq_getElem_cons hi2, Ze hi2]
    rw [hdrop] at hpr;have hpr : Z7 ZK [] (YO (X6 x t sp) (chF r.rests) k l) = Z7 ZK o (ZmJ x t sp r.rests k (nth l i) ((chF r.rests k).drop 0) (l.drop (i + 1))) := hpr
    refine Zf [2, 3, 7, 10, 29, 30, 31, 35, 36] (fun q : Nat × List Lab => [(8, .sl 2 0 q.2.length q.2.length), (37, .p (.int .i64 q.1))]) (fun q => [Ya x t r c sp, .dead, .elems 7 (q.2.map JT), YK (nth l i)])
     (fun q => q.1 <= (chF r.rests k).length /\ Z7 ZK [] (YO (X6 x t sp) (chF r.rests) k l) = Z7 ZK q.2 (ZmJ x t sp r.rests k (nth l i) ((chF r.rests k).drop q.1) (l.drop (i + 1))) /\ q.2.length <= 2 * i + q.1) (fun q => (chF r.rests k).length - q.1) (0, o) ⟨by simp, hpr, hol⟩ (Weak.mk ?_) ?_
    ·simp (disch := omega) only [Ya, YK, go_sem, seval]
    ·clear hpr hol;rintro ⟨j, o⟩ ⟨hj, hpr, hol⟩;simp only at hj hpr hol;simp (disch := omega) only [Ya, YK, go_sem, seval];refine cD ?_ ?_ <;> intro h2 <;> simp (disch := omega) only [Sh.out h2, go_sem, seval]
     ·have hj2 : j < (chF r.rests k).length := by omega
      have hd2 : (chF r.rests k).drop j = nth (chF r.rests k) j :: (chF r.rests k).drop (j + 1) := by rw [List.drop_eq_getElem_cons hj2, Ze hj2]
      have cn := Ze9 x t r c sp hok k hk hs1 (nth l i) hLi (nth (chF r.rests k) j);have ho2 : X6 x t sp k (nth l i) (nth (chF r.rests k) j) = if (Y8 x t sp k (nth l i) (nth (chF r.rests k) j)).2 = 0 then some (Y8 x t sp k (nth l i) (nth (chF r.rests k) j)).1 else none := rfl;rw [hd2, ZmJ, List.filterMap_cons, ho2] at hpr
      generalize Y8 x t sp k (nth l i) (nth (chF r.rests k) j) = N at *
      refine Xp cn ?_;simp (disch := omega) only [go_sem, seval];refine gT ?_ ?_ <;> intro h3 <;> simp (disch := omega) only [Sh.out h3, go_sem, seval]
      ·have hcl := J2 x t r c sp o (nth l i) N.1 (by omega);simp (disch := omega) only [gH, Ya, YK, go_sem, seval] at hcl;refine hcl.useH ?_;simp (disch := omega) only [go_sem, seval];rw [if_pos h3] at hpr;have hpr : Z7 ZK [] (YO (X6 x t sp) (chF r.rests) k l) = if (o.any fun m => ZK m N.1) = true then Z7 ZK o (ZmJ x t sp r.rests k (nth l i) ((chF r.rests k).drop (j + 1)) (l.drop (i + 1))) else Z7 ZK (o ++ [N.1]) (ZmJ x t sp r.rests k (nth l i) ((chF r.rests k).drop (j + 1)) (l.drop (i + 1))) := hpr;refine cD ?_ ?_ <;> intro h4 <;> simp (disch := omega) only [Sh.out h4, go_sem, seval]
       ·rw [if_neg (by simpa using h4)] at hpr;exact ⟨(j + 1, o ++ [N.1]), ⟨by simp only; omega, hpr, by simp; omega⟩, by simp only; omega, Weak.mk (by simp (disch := omega) only [Ya, YK, List.length_append, List.length_cons, List.length_nil, List.map_append, List.map_cons, List.map_nil, go_sem, seval])⟩
       ·rw [if_pos (by simpa using h4)] at hpr;exact ⟨(j + 1, o), ⟨by simp only; omega, hpr, by simp only; omega⟩, by simp only; omega, Weak.mk (by simp (disch := omega) only [Ya, YK, go_sem, seval])⟩
      ·rw [if_neg h3] at hpr;exact ⟨(j + 1, o), ⟨by simp only; omega, hpr, by simp only; omega⟩, by simp only; omega, Weak.mk (by simp (disch := omega) only [Ya, YK, go_sem, seval])⟩
     ·have hjl : j = (chF r.rests k).length := by omega
      subst hjl;rw [List.drop_length, ZmJ, List.filterMap_nil, List.nil_append] at hpr;exact ⟨(i + 1, o), ⟨by simp only; omega, hpr, by simp only; omega⟩, by simp only; omega, Weak.mk (by simp (disch := omega) only [Ya, go_sem, seval])⟩
   ·have hil : i = l.length := by omega
    subst hil;have e : YO (X6 x t sp) (chF r.rests) k [] = [] := rfl;rw [List.drop_length, e, Z7] at hpr;rw [hpr];refine Zm (Weak.fz (o := 2) (by rfl)) ?_;refine Zd [] _ _ _ _ ?_;simp (disch := omega) only [List.map_cons, List.map_nil, List.set_cons_succ, List.set_cons_zero, go_sem, seval];exact we
end Go.Proofs.YtcdoglogglbemaaGreatDoor.K
