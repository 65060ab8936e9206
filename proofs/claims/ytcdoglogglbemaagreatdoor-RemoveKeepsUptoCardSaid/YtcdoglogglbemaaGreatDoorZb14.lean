/- Declarations that the closing texts need, part 14: joined by tools/slim.py. -/
import Derived.Test.YtcdoglogglbemaaGreatDoorZb13
set_option linter.unusedVariables false
set_option linter.unusedSimpArgs false
namespace Go.Proofs.YtcdoglogglbemaaGreatDoor.K
open Go Go.AM Go.Proofs
def onB (x : Inst) (l : List Vis) (n i : Nat) : Bool := (l.take n).foldl (fun on v => if v.order = (i : Int) then !v.drp else on) (decide ((nth x.orders i).pick.place < 0))
theorem ZiV {x : Inst} {l : List Vis} {i : Nat} : onB x l 0 i = decide ((nth x.orders i).pick.place < 0) := by simp [onB]
theorem Jt {x : Inst} {l : List Vis} {n i : Nat} (h : n < l.length) : onB x l (n + 1) i = if (nth l n).order = (i : Int) then !(nth l n).drp else onB x l n i := by
 rw [onB, List.take_succ_eq_append_getElem h, List.foldl_append, Ze h]; rfl
structure SqOk (x : Inst) (l : List Vis) : Prop where
 ne : l ≠ []
 inr : Inr x l
 nd : l.Nodup
 pair : ∀ v ∈ l, pairB x.orders l v = true
theorem Y7 {x : Inst} {l : List Vis} (h : ZQ x l = 0) : SqOk x l := by
 unfold ZQ at h
 split at h
 ·simp at h
 ·rename_i h1
  split at h
  ·simp at h
  ·split at h
   ·simp at h
   ·rename_i h3
    split at h
    ·simp at h
    ·rename_i h4;refine ⟨fun e => h1 (.inl (by simp [e])), fun v hv => ?_, Ud.1 (by simpa using h3), fun v hv => ?_⟩
     ·have h5 : ¬ (l.any (Vd x)) = true := fun e => h1 (.inr e)
      have h6 : Vd x v = false := by
       cases hb : Vd x v with
       | false => rfl
       | true => exact absurd (List.any_eq_true.2 ⟨v, hv, hb⟩) h5
      simpa [Vd] using h6
     ·have h5 : l.all (pairB x.orders l) = true := by simpa using h4
      exact List.all_eq_true.1 h5 v hv
structure OwnV (x : Inst) (l : List Vis) (i : Nat) : Prop where
 pick : 0 <= (nth x.orders i).pick.place -> (⟨i, false⟩ : Vis) ∈ l
 drp : 0 <= (nth x.orders i).drp.place -> (⟨i, true⟩ : Vis) ∈ l
 both : 0 <= (nth x.orders i).pick.place -> 0 <= (nth x.orders i).drp.place -> vIx l ⟨i, false⟩ < vIx l ⟨i, true⟩
 isP : (⟨i, false⟩ : Vis) ∈ l -> 0 <= (nth x.orders i).pick.place
 isD : (⟨i, true⟩ : Vis) ∈ l -> 0 <= (nth x.orders i).drp.place
theorem SqOk.own {x : Inst} {l : List Vis} (h : SqOk x l) {i : Nat} (hi : ∃ v ∈ l, v.order = (i : Int)) : OwnV x l i := by
 obtain ⟨v0, hv0, ho⟩ := hi
 have key : ∀ v ∈ l, v.order = (i : Int) -> v ∈ X5 x.orders i /\ Kb l (-1) (X5 x.orders i) = true := fun v hv hvo => by
  have := h.pair v hv;simp only [pairB, hvo, Int.toNat_natCast, Bool.and_eq_true, decide_eq_true_eq] at this;exact ⟨W3.1 this.1, this.2⟩
 obtain ⟨_, hasc⟩ := key v0 hv0 ho;have mem : ∀ b : Bool, (⟨i, b⟩ : Vis) ∈ l -> (⟨i, b⟩ : Vis) ∈ X5 x.orders i := fun b hb => (key _ hb rfl).1
 have hp : (⟨i, false⟩ : Vis) ∈ X5 x.orders i -> 0 <= (nth x.orders i).pick.place := fun hm => by
  unfold X5 at hm;rcases List.mem_append.1 hm with hm | hm
  ·split at hm
   ·assumption
   ·simp at hm
  ·split at hm <;> simp at hm
 have hd : (⟨i, true⟩ : Vis) ∈ X5 x.orders i -> 0 <= (nth x.orders i).drp.place := fun hm => by
  unfold X5 at hm;rcases List.mem_append.1 hm with hm | hm
  ·split at hm <;> simp at hm
  ·split at hm
   ·assumption
   ·simp at hm
 have m1 : ∀ v, -1 < vIx l v -> v ∈ l := fun v hv => W3.1 (by omega);unfold X5 at hasc
 by_cases c1 : 0 <= (nth x.orders i).pick.place <;> by_cases c2 : 0 <= (nth x.orders i).drp.place
 ·simp only [c1, c2, if_true, List.cons_append, List.nil_append, Kb, Bool.and_true, Bool.and_eq_true, decide_eq_true_eq] at hasc;exact ⟨fun _ => m1 _ hasc.1, fun _ => m1 _ (by omega), fun _ _ => hasc.2, fun _ => c1, fun _ => c2⟩
 ·simp only [c1, c2, if_true, if_false, List.append_nil, Kb, Bool.and_true, decide_eq_true_eq] at hasc;exact ⟨fun _ => m1 _ hasc, fun h => absurd h c2, fun _ h => absurd h c2, fun _ => c1, fun hm => hd (mem _ hm)⟩
 ·simp only [c1, c2, if_true, if_false, List.nil_append, Kb, Bool.and_true, decide_eq_true_eq] at hasc;exact ⟨fun h => absurd h c1, fun _ => m1 _ hasc, fun h => absurd h c1, fun hm => hp (mem _ hm), fun _ => c2⟩
 ·exact ⟨fun h => absurd h c1, fun h => absurd h c2, fun h => absurd h c1, fun hm => hp (mem _ hm), fun hm => hd (mem _ hm)⟩
theorem WD {l : List Vis} (hn : l.Nodup) {v : Vis} {n : Nat} : v ∈ l.take n ↔ 0 <= vIx l v /\ vIx l v < (n : Int) := by
 constructor
 ·intro h;obtain ⟨j, h1, h2, rfl⟩ := UE h;rw [QU hn h2]; omega
 ·intro ⟨h1, h2⟩;obtain ⟨h3, h4⟩ := ZmG h1;rw [<- h4];exact J0 (by omega) h3
theorem ZjC {x : Inst} {l : List Vis} (h : SqOk x l) (i : Nat) : ∀ n, n <= l.length -> onB x l n i = if (⟨i, true⟩ : Vis) ∈ l.take n then false else if (⟨i, false⟩ : Vis) ∈ l.take n then true else decide ((nth x.orders i).pick.place < 0)
 | 0, _ => by simp [onB]
 | n + 1, hn => by
  have hk : n < l.length := by omega
  have hat := QU h.nd hk;rw [Jt hk, ZjC h i n (by omega)]
  by_cases c : (nth l n).order = (i : Int)
  ·rw [if_pos c];have ho := h.own (i := i) ⟨nth l n, Zl hk, c⟩
   cases hd : (nth l n).drp with
   | true =>
    have hv : nth l n = ⟨i, true⟩ := by rw [<- c, <- hd]
    rw [hv] at hat;have : (⟨i, true⟩ : Vis) ∈ l.take (n + 1) := (WD h.nd).2 (by omega);rw [if_pos this]; rfl
   | false =>
    have hv : nth l n = ⟨i, false⟩ := by rw [<- c, <- hd]
    rw [hv] at hat;have h1 : (⟨i, false⟩ : Vis) ∈ l.take (n + 1) := (WD h.nd).2 (by omega)
    have h2 : ¬ (⟨i, true⟩ : Vis) ∈ l.take (n + 1) := fun hm => by
     have h3 := List.mem_of_mem_take hm;have h4 := (WD h.nd).1 hm;have h5 := ho.both (ho.isP (List.mem_of_mem_take h1)) (ho.isD h3);omega
    rw [if_neg h2, if_pos h1]; rfl
  ·rw [if_neg c]
   have e : ∀ b : Bool, ((⟨i, b⟩ : Vis) ∈ l.take (n + 1)) = ((⟨i, b⟩ : Vis) ∈ l.take n) := fun b => by
    rw [List.take_succ_eq_append_getElem hk, List.mem_append, <- Ze hk];refine propext ⟨fun hm => hm.resolve_right fun hm => ?_, .inl⟩;simp at hm;exact c (by rw [<- hm])
   simp only [e]
theorem ZnU {x : Inst} {l : List Vis} (h : SqOk x l) {k i : Nat} (hk : k < l.length) (hi : (nth l k).order = (i : Int)) : onB x l k i = (nth l k).drp := by
 have hat := QU h.nd hk;have ho := h.own (i := i) ⟨nth l k, Zl hk, hi⟩;have hm := Zl hk;rw [ZjC h i k (by omega)]
 cases hd : (nth l k).drp with
 | true =>
  have hv : nth l k = ⟨i, true⟩ := by rw [<- hi, <- hd]
  rw [hv] at hat hm
  have h1 : ¬ (⟨i, true⟩ : Vis) ∈ l.take k := fun hm => by have := (WD h.nd).1 hm; omega
  rw [if_neg h1]
  by_cases c : 0 <= (nth x.orders i).pick.place
  ·have h2 := ho.both c (ho.isD hm);have h3 : (⟨i, false⟩ : Vis) ∈ l.take k := (WD h.nd).2 ⟨W3.2 (ho.pick c), by omega⟩;rw [if_pos h3]
  ·have : (nth x.orders i).pick.place < 0 := by omega
   split <;> simp [this]
 | false =>
  have hv : nth l k = ⟨i, false⟩ := by rw [<- hi, <- hd]
  rw [hv] at hat hm;have hp := ho.isP hm
  have h1 : ¬ (⟨i, false⟩ : Vis) ∈ l.take k := fun hm => by have := (WD h.nd).1 hm; omega
  have h2 : ¬ (nth x.orders i).pick.place < 0 := by omega
  rw [if_neg h1]
  split <;> simp [h2]
theorem ZkI {f g : Nat -> Int} {i : Nat} (h : ∀ q, q ≠ i -> f q = g q) : ∀ n, i < n -> ((List.range n).map f).sum = ((List.range n).map g).sum + (f i - g i) := by
 have same : ∀ n, n <= i -> ((List.range n).map f).sum = ((List.range n).map g).sum := fun n hn => by
  congr 1
  refine List.map_congr_left fun q hq => h q ?_;have := List.mem_range.1 hq;omega
 intro n
 induction n with
 | zero => intro h; omega
 | succ n ih =>
  intro hi;simp only [List.range_succ, List.map_append, List.map_cons, List.map_nil, List.sum_append, List.sum_cons, List.sum_nil]
  by_cases hn : i = n
  ·subst hn;rw [same i (Nat.le_refl _)]; omega
  ·rw [ih (by omega), h n (by omega)]; omega
theorem Zef {f : Nat -> Int} {b : Int} (hb : 0 <= b) (h : ∀ q, 0 <= f q /\ f q <= b) : ∀ n : Nat, 0 <= ((List.range n).map f).sum /\ ((List.range n).map f).sum <= b * n
 | 0 => by simp
 | n + 1 => by
  have ih := Zef hb h n;have := h n;simp only [List.range_succ, List.map_append, List.map_cons, List.map_nil, List.sum_append, List.sum_cons, List.sum_nil];rw [Int.natCast_add, Int.mul_add];omega
theorem Ws {p : Nat -> Bool} {f : Nat -> Int} : ∀ l : List Nat, ((l.filter p).map f).sum = (l.map fun i => if p i = true then f i else 0).sum
 | [] => rfl
 | a :: l => by
  rw [List.filter_cons, List.map_cons, List.sum_cons]
  by_cases h : p a = true
  ·rw [if_pos h, List.map_cons, List.sum_cons, Ws l, if_pos h]
  ·rw [if_neg h, Ws l, if_neg h]; omega
def Zd3 (x : Inst) (l : List Vis) (n j : Nat) : Int := ((List.range x.orders.length).map fun i => if (onB x l n i && hasO l i) = true then nth (nth x.orders i).load j else 0).sum
theorem Zad {x : Inst} {l : List Vis} (h : SqOk x l) {k j : Nat} (hk : k < l.length) : Zd3 x l (k + 1) j = if (nth l k).drp = true then Zd3 x l k j - nth (nth x.orders (nth l k).order.toNat).load j else Zd3 x l k j + nth (nth x.orders (nth l k).order.toNat).load j := by
 obtain ⟨v1, v2⟩ := h.inr _ (Zl hk);obtain ⟨i, hi⟩ : ∃ i : Nat, (nth l k).order = (i : Int) := ⟨(nth l k).order.toNat, by omega⟩;have hh : hasO l (i : Int) = true := XM.2 ⟨_, Zl hk, hi⟩;have h1 := ZnU h hk hi
 have h2 : onB x l (k + 1) i = !(nth l k).drp := by rw [Jt hk, if_pos hi]
 unfold Zd3
 rw [ZkI (f := fun i => if (onB x l (k + 1) i && hasO l i) = true then nth (nth x.orders i).load j else 0) (g := fun i => if (onB x l k i && hasO l i) = true then nth (nth x.orders i).load j else 0) (i := i) (fun q hq => by
  have : onB x l (k + 1) q = onB x l k q := by rw [Jt hk, if_neg (by omega)]
  simp only [this]) x.orders.length (by omega)]
 rw [h1, h2, hh, hi, Int.toNat_natCast]
 cases (nth l k).drp
 ·simp
 ·simp; omega
def Wl (x : Inst) (l : List Vis) (n : Nat) : List Int := (List.range (dimsOf x.types).toNat).map fun j => Zd3 x l n j
def ZeO (a b : List Int) : List Int := (List.range a.length).map fun j => nth a j + nth b j
def Zu8 (a b : List Int) : List Int := (List.range a.length).map fun j => nth a j - nth b j
theorem VO {x : Inst} {l : List Vis} {n : Nat} : (Wl x l n).length = (dimsOf x.types).toNat := by simp [Wl]
theorem VQ {f : Nat -> Int} {n j : Nat} (h : j < n) : nth ((List.range n).map f) j = f j := by
 rw [Ze (by simpa using h)]; simp
theorem ZgY {x : Inst} {l : List Vis} (h : SqOk x l) {k : Nat} (hk : k < l.length) : Wl x l (k + 1) = if (nth l k).drp = true then Zu8 (Wl x l k) (nth x.orders (nth l k).order.toNat).load else ZeO (Wl x l k) (nth x.orders (nth l k).order.toNat).load := by
 have key : ∀ g : Nat -> Int, (∀ j, j < (dimsOf x.types).toNat -> Zd3 x l (k + 1) j = g j) -> Wl x l (k + 1) = (List.range (dimsOf x.types).toNat).map g := fun g hg =>
  List.map_congr_left fun j hj => hg j (List.mem_range.1 hj)
 split
 ·rename_i hd;unfold Zu8;rw [VO];refine key _ fun j hj => ?_;rw [Zad h hk, if_pos hd, Wl, VQ hj]
 ·rename_i hd;unfold ZeO;rw [VO];refine key _ fun j hj => ?_;rw [Zad h hk, if_neg hd, Wl, VQ hj]
set_option maxRecDepth 8000
set_option maxHeartbeats 8000000
@[go_sem high] theorem ZyH {k k' : IntKind} {a b : Int} : J9 true [.p (.int k a), .p (.int k' b)] = some (.int k (min a b)) := by
 simp only [J9]
 by_cases h : b < a
 ·simp [h]; omega
 ·simp [h]; omega
theorem ZwS (s : Int) : (0 <= s.tmod 2147483647 /\ s.tmod 2147483647 = s % 2147483647) \/ (s.tmod 2147483647 < 0 /\ s.tmod 2147483647 + 2147483647 = s % 2147483647) := by
 by_cases h : 0 <= s
 ·rw [Int.tmod_eq_emod_of_nonneg h]
  left; omega
 ·have e : s.tmod 2147483647 = -((-s) % 2147483647) := by
   rw [<- Int.tmod_eq_emod_of_nonneg (by omega : 0 <= -s), Int.neg_tmod, Int.neg_neg]
  rw [e];omega
def W6 (s : Int) : Int := if s % 2147483647 = 0 then 1 else s % 2147483647
theorem ZaD (s : Int) : 1 <= W6 s /\ W6 s < 2147483647 := by unfold W6; split <;> omega
def Wf (s : Int) : Int := W6 s * 48271 % 2147483647
theorem Zaj (s : Int) : 1 <= Wf s /\ Wf s < 2147483647 := by
 have hg := ZaD s;unfold Wf;obtain ⟨g, hgn⟩ : ∃ g : Nat, W6 s = g := ⟨(W6 s).toNat, by omega⟩;rw [hgn] at hg ⊢
 have h0 : ¬ (g * 48271) % 2147483647 = 0 := fun h => by
  have hd : 2147483647 ∣ g * 48271 := Nat.dvd_of_mod_eq_zero h
  have hc : Nat.Coprime 2147483647 48271 := by unfold Nat.Coprime; rfl
  have := Nat.le_of_dvd (by omega) (hc.dvd_of_dvd_mul_right hd);omega
 omega
def YI (s n : Int) : Int := if n < 1 then 0 else (Wf s - 1) % n
theorem WG {s n : Int} (h : 1 <= n) : 0 <= YI s n /\ YI s n < n := by
 have := Zaj s;unfold YI;rw [if_neg (by omega)];exact ⟨Int.emod_nonneg _ (by omega), Int.emod_lt_of_pos _ (by omega)⟩
theorem Zin (s : Int) : PC 169 [.p (.int .i64 s)] (.int .i64 (W6 s)) := by
 have hm := ZwS s;refine Za Tryz.func169 rfl ZoY ?_;simp (disch := omega) only [Tryz.f169, go_sem, seval];generalize s.tmod 2147483647 = r at hm ⊢;refine cD ?_ ?_ <;> intro h <;> simp (disch := omega) only [Sh.out h, go_sem, seval]
 ·refine cD ?_ ?_ <;> intro h2 <;> simp (disch := omega) only [Sh.out h2, go_sem, seval]
  ·have e : W6 s = 1 := by unfold W6; rw [if_pos (by omega)]
   rw [e]
  ·have e : W6 s = r + 2147483647 := by unfold W6; rw [if_neg (by omega)]; omega
   rw [e]
 ·refine cD ?_ ?_ <;> intro h2 <;> simp (disch := omega) only [Sh.out h2, go_sem, seval]
  ·have e : W6 s = 1 := by unfold W6; rw [if_pos (by omega)]
   rw [e]
  ·have e : W6 s = r := by unfold W6; rw [if_neg (by omega)]; omega
   rw [e]
theorem ZhY (s : Int) : PC 115 [.p (.int .i64 s)] (.int .i64 (Wf s)) := by
 have hg := ZaD s;refine Za Tryz.func115 rfl ZpI ?_;simp (disch := omega) only [Tryz.f115, go_sem, seval];refine (Zin s).use ?_;simp (disch := omega) only [go_sem, seval];rw [Wf]
theorem Zae (s n : Int) : PT 58 [.p (.int .i64 s), .p (.int .i64 n)] [.p (.int .i64 (YI s n)), .p (.int .i64 (Wf s))] := by
 have hg := Zaj s;refine Zc [] Tryz.func58 rfl ZwK ?_;simp (disch := omega) only [Tryz.f58, go_sem, seval];refine (ZhY s).use ?_;simp (disch := omega) only [go_sem, seval];refine cD ?_ ?_ <;> intro h <;> simp (disch := omega) only [Sh.out h, go_sem, seval]
 ·have e : YI s n = 0 := by rw [YI, if_pos h]
  rw [e];exact we
 ·have e : YI s n = (Wf s - 1) % n := by rw [YI, if_neg h]
  rw [e];exact we
def Kk (s : Int) (S : Nat) : Int := nth (Z6 (S : Int) 63) (YI s (Z6 (S : Int) 63).length).toNat
theorem Zfp {S : Nat} (h0 : 0 < S) (h : S < pw 63) : 0 < (Z6 (S : Int) 63).length := by
 have hne : S ≠ 0 := by omega
 obtain ⟨j, hj⟩ := Nat.exists_testBit_of_ne_zero hne
 have hj63 : j < 63 := by
  rcases Nat.lt_or_ge j 63 with h1 | h1
  ·exact h1
  ·have : S < 2 ^ j := Nat.lt_of_lt_of_le h (Nat.pow_le_pow_right (by omega) h1);rw [Nat.testBit_lt_two_pow this] at hj; cases hj
 exact List.length_pos_of_mem (Xl.2 ⟨j, rfl, hj63, hj⟩ : (j : Int) ∈ Z6 (S : Int) 63)
theorem VH {s : Int} {S : Nat} (h0 : 0 < S) (h : S < pw 63) : ∃ j : Nat, Kk s S = (j : Int) /\ j < 63 /\ S.testBit j = true := by
 have hl := Zfp h0 h;have hb := WG (s := s) (n := (Z6 (S : Int) 63).length) (by omega);exact Xl.1 (by rw [Kk, Ze (by omega)]; exact List.getElem_mem _)
theorem ZcT (s : Int) (S : Nat) (h0 : 0 < S) (hS : S < 9223372036854775808) : PT 109 [.p (.int .i64 s), .p (.int .i64 S)] [.p (.int .i64 (Kk s S)), .p (.int .i64 (Wf s))] := by
 have hl := Zfp h0 (by simpa [pw] using hS);have hb := WG (s := s) (n := (Z6 (S : Int) 63).length) (by omega);have hm := Wu (S : Int) 63;refine Zc [] Tryz.func109 rfl ZoT ?_
 have hp : ¬ (S : Int) <= 0 := by omega
 simp (disch := omega) only [Tryz.f109, hp, go_sem, seval];refine ((YG (S : Int)).frozen (by simp)).use ?_;simp (disch := omega) only [go_sem, seval];refine US (Zae s (Z6 (S : Int) 63).length) ?_
 have hk : (YI s (Z6 (S : Int) 63).length).toNat < (Z6 (S : Int) 63).length := by omega
 simp (disch := omega) only [Xi hk, go_sem, seval];exact we (by simp (disch := omega) only [Kk, go_sem, seval])
structure RightV (x : Inst) (l : List Vis) : Prop where
 ne : l ≠ []
 inr : Inr x l
 off : ∀ v ∈ l, (nth x.orders v.order.toNat).off = false
 nodup : l.Nodup
 pair : ∀ v ∈ l, pairB x.orders l v = true
 apart : ∀ p ∈ x.apart, ¬ (hasO l p.1 = true /\ hasO l p.2 = true)
 before : ∀ p ∈ x.before, beforeB l p.1 p.2 = true
theorem Zfm {x : Inst} {l : List Vis} : ZQ x l = 0 ↔ RightV x l := by
 unfold ZQ;rw [Uc (by omega), Uc (by omega), Uc (by omega), Uc (by omega), Uc (by omega), Uc (by omega)];simp only [and_true, Bool.not_eq_true, Ud]
 have hin : l.any (Vd x) = false ↔ Inr x l := by
  rw [List.any_eq_false];exact ⟨fun h v hv => by simpa [Vd] using h v hv, fun h v hv => by simpa [Vd] using h v hv⟩
 constructor
 ·rintro ⟨h1, h2, h3, h4, h5, h6⟩;rw [not_or, Bool.not_eq_true, hin] at h1;rw [List.any_eq_false] at h2 h5 h6;refine ⟨fun e => h1.1 (by rw [e]; rfl), h1.2, fun v hv => by simpa using h2 v hv, h3, ?_, fun p hp => by simpa using h5 p hp, fun p hp => by simpa using h6 p hp⟩
  have : l.all (pairB x.orders l) = true := by simpa using h4
  exact List.all_eq_true.1 this
 ·intro h;refine ⟨?_, ?_, h.nodup, ?_, ?_, ?_⟩
  ·rw [not_or, Bool.not_eq_true, hin];exact ⟨fun e => h.ne (List.eq_nil_of_length_eq_zero e), h.inr⟩
  ·rw [List.any_eq_false]; intro v hv; simp [h.off v hv]
  ·rw [List.all_eq_true.2 h.pair]; simp
  ·rw [List.any_eq_false]; intro p hp; simpa using h.apart p hp
  ·rw [List.any_eq_false]; intro p hp; simpa using h.before p hp
section
variable {x : Inst} {l : List Vis}
end
def QM (l : List Pt) (t : Int) (i : Nat) : Bool := decide ((nth l i).t <= t) && decide (t < (nth l (i + 1)).t)
def Zka (p q : Pt) (t : Int) : Int := p.a + ((t - p.t) * (q.a - p.a) + q.t - p.t - 1) / (q.t - p.t)
def KX (l : List Pt) (t : Int) : Int := match (List.range (l.length - 1)).find? (QM l t) with
 | some i => Zka (nth l i) (nth l (i + 1)) t
 | none => if (nth l 0).t < t then t + (nth l (l.length - 1)).a - (nth l (l.length - 1)).t else t + (nth l 0).a - (nth l 0).t
theorem Zby {l : List Pt} {t : Int} {i : Nat} (hi : i + 1 < l.length) (hno : ∀ j, j < i -> QM l t j = false) (h : QM l t i = true) : KX l t = Zka (nth l i) (nth l (i + 1)) t := by
 have : (List.range (l.length - 1)).find? (QM l t) = some i := by
  rw [List.find?_eq_some_iff_getElem];refine ⟨h, i, by simp; omega, by simp, fun j hj => ?_⟩;simp [hno j hj]
 rw [KX, this]
theorem JZ {l : List Pt} {t : Int} (hno : ∀ j, j + 1 < l.length -> QM l t j = false) : KX l t = if (nth l 0).t < t then t + (nth l (l.length - 1)).a - (nth l (l.length - 1)).t else t + (nth l 0).a - (nth l 0).t := by
 have : (List.range (l.length - 1)).find? (QM l t) = none := by
  rw [List.find?_eq_none];intro j hj;simp at hj;rw [hno j (by omega)]; simp
 rw [KX, this]
theorem J2 {p q : Pt} {t : Int} (h1 : p.t <= t) (h2 : t < q.t) (hp : 0 <= p.t) (hq : q.t <= 4096) (ha : p.a <= q.a) (hpa : 0 <= p.a) (hqa : q.a <= 8192) : 0 <= (t - p.t) * (q.a - p.a) /\ (t - p.t) * (q.a - p.a) <= 33554432 := by
 refine ⟨Int.mul_nonneg (by omega) (by omega), ?_⟩;have : (t - p.t) * (q.a - p.a) <= 4096 * 8192 := Int.mul_le_mul (by omega) (by omega) (by omega) (by omega);omega
theorem ZdY (l : List Pt) (c : Bool) (t : Int) (hl : YB l) (ht : 0 <= t /\ t <= 1073741824) : PC 350 [.p (.list c (l.map ePt)), .p (.int .i64 t)] (.int .i64 (KX l t)) := by
 obtain ⟨⟨hl1, hl2⟩, hpt⟩ := hl;refine Za Tryz.func350 rfl Zsa ?_;simp (disch := omega) only [Tryz.f350, go_sem, seval];refine ((Zjx l c (by omega)).frozenE).useV fun m hm => ?_;simp (disch := omega) only [go_sem, seval]
 have hm0 : m.length = 0 := by rw [hm.emp.2 ⟨⟨hl1, hl2⟩, hpt⟩]; rfl
 have e1 : ¬ t < 0 := by omega
 have e2 : ¬ 1073741824 < t := by omega
 simp (disch := omega) only [hm0, e1, e2, go_sem, seval];refine Zf [0, 1] (fun k : Nat => [(5, .p (.int .i64 k))]) (fun _ => []) (fun k => k < l.length /\ ∀ j, j < k -> QM l t j = false) (fun k => l.length - k) 0 (by simp; omega) (Weak.mk ?_) ?_
 ·simp (disch := omega) only [go_sem, seval]
 ·rintro k ⟨hk, hno⟩;simp (disch := omega) only [go_sem, seval];refine cD ?_ ?_ <;> intro h <;> simp (disch := omega) only [Sh.out h, go_sem, seval]
  ·have hk2 : k + 1 < l.length := by omega
   obtain ⟨⟨p1, p2, p3, p4⟩, _⟩ := hpt k hk;obtain ⟨⟨q1, q2, q3, q4⟩, q5⟩ := hpt (k + 1) hk2;obtain ⟨r1, r2⟩ := q5 (by omega);rw [Nat.add_sub_cancel] at r1 r2;refine gT ?_ ?_ <;> intro h2 <;> simp (disch := omega) only [Sh.out h2, go_sem, seval]
   ·refine cD ?_ ?_ <;> intro h3 <;> simp (disch := omega) only [Sh.out h3, go_sem, seval]
    ·have hsg : QM l t k = true := by simp [QM, h2, h3]
     rw [Zby hk2 hno hsg];obtain ⟨s1, s2⟩ := J2 h2 h3 p1 q2 r2 (by omega) (by omega);have d1 : 0 <= ((t - (nth l k).t) * ((nth l (k + 1)).a - (nth l k).a) + (nth l (k + 1)).t - (nth l k).t - 1) / ((nth l (k + 1)).t - (nth l k).t) := Int.ediv_nonneg (by omega) (by omega);have d2 : ((t - (nth l k).t) * ((nth l (k + 1)).a - (nth l k).a) + (nth l (k + 1)).t - (nth l k).t - 1) / ((nth l (k + 1)).t - (nth l k).t) <= 33558528 := Int.le_trans (Int.ediv_le_self _ (by omega)) (by omega)
     have d3 : ¬ (nth l (k + 1)).t - (nth l k).t = 0 := by omega
     simp only [Zka];refine Zi mixed (by kernel_rfl) (by kernel_rfl) ?_;simp (disch := omega) only [d3, go_sem, seval]
    ·have hsg : QM l t k = false := by simp [QM, h3]
     exact ⟨k + 1, ⟨by omega, Zh.2 ⟨hno, hsg⟩⟩, by omega, wk⟩
   ·have hsg : QM l t k = false := by simp [QM, h2]
    exact ⟨k + 1, ⟨by omega, Zh.2 ⟨hno, hsg⟩⟩, by omega, wk⟩
  ·have hkl : k + 1 = l.length := by omega
   rw [JZ (fun j hj => hno j (by omega))];obtain ⟨⟨p1, p2, p3, p4⟩, _⟩ := hpt 0 (by omega);obtain ⟨⟨q1, q2, q3, q4⟩, _⟩ := hpt (l.length - 1) (by omega)
   have i1 : ((l.length : Int) - 1).toNat = l.length - 1 := by omega
   refine cD ?_ ?_ <;> intro h2 <;> simp (disch := omega) only [Sh.out h2, go_sem, seval]
theorem Z7 {α : Type} [Inhabited α] {l : List α} {i : Nat} (h : i < l.length) : nth l i ∈ l := by rw [Ze h]; exact List.getElem_mem h
def ZuV (a : Arc) : Prop := YB a.travel /\ a.slow.length <= 16 /\ ∀ p ∈ a.slow, 0 <= p.t /\ p.t <= 4096 /\ 0 <= p.a /\ p.a <= 4096
def Uy (l : List Pt) (t : Int) (k : Nat) : Int := (l.take k).foldl (fun s p => if p.t <= t then s + p.a else s) 0
def Zjr (a : Arc) (t : Int) : Int := KX a.travel t + Uy a.slow t a.slow.length
theorem VS {l : List Pt} {t : Int} {k : Nat} (h : k < l.length) : Uy l t (k + 1) = if (nth l k).t <= t then Uy l t k + (nth l k).a else Uy l t k := by
 rw [Uy, List.take_succ_eq_append_getElem h, List.foldl_append, Ze h]; rfl
theorem Vx {l : List Pt} {t : Int} (hl : ∀ p ∈ l, 0 <= p.a /\ p.a <= 4096) : ∀ k, k <= l.length -> 0 <= Uy l t k /\ Uy l t k <= 4096 * k
 | 0, _ => by simp [Uy]
 | k + 1, h => by
  have ih := Vx (t := t) hl k (by omega);have hp := hl _ (Z7 (show k < l.length by omega));rw [VS (by omega)]
  split <;> omega
theorem JP {l : List Pt} {t : Int} (hl : YB l) (ht : 0 <= t /\ t <= 1073741824) : 0 <= KX l t /\ KX l t <= 1107304448 := by
 obtain ⟨⟨hl1, hl2⟩, hpt⟩ := hl;unfold KX
 split
 ·rename_i i hi;have hm := List.mem_of_find?_eq_some hi;have hs := List.find?_some hi;simp at hm;simp only [QM, Bool.and_eq_true, decide_eq_true_eq] at hs;obtain ⟨⟨p1, p2, p3, p4⟩, _⟩ := hpt i (by omega);obtain ⟨⟨q1, q2, q3, q4⟩, q5⟩ := hpt (i + 1) (by omega);obtain ⟨r1, r2⟩ := q5 (by omega);rw [Nat.add_sub_cancel] at r1 r2;obtain ⟨s1, s2⟩ := J2 hs.1 hs.2 p1 q2 r2 (by omega) (by omega);have d1 : 0 <= ((t - (nth l i).t) * ((nth l (i + 1)).a - (nth l i).a) + (nth l (i + 1)).t - (nth l i).t - 1) / ((nth l (i + 1)).t - (nth l i).t) := Int.ediv_nonneg (by omega) (by omega);have d2 : ((t - (nth l i).t) * ((nth l (i + 1)).a - (nth l i).a) + (nth l (i + 1)).t - (nth l i).t - 1) / ((nth l (i + 1)).t - (nth l i).t) <= 33558528 := Int.le_trans (Int.ediv_le_self _ (by omega)) (by omega)
  unfold Zka;omega
 ·obtain ⟨⟨p1, p2, p3, p4⟩, _⟩ := hpt 0 (by omega);obtain ⟨⟨q1, q2, q3, q4⟩, _⟩ := hpt (l.length - 1) (by omega)
  split <;> omega
theorem Zc2 (a : Arc) (t : Int) (ha : ZuV a) (ht : 0 <= t /\ t <= 1073741824) : PC 346 [.p (Jg a), .p (.int .i64 t)] (.int .i64 (Zjr a t)) := by
 obtain ⟨h1, h2, h3⟩ := ha;have hr := JP h1 ht;have hs := Vx (t := t) (fun p hp => (h3 p hp).2.2);refine Za Tryz.func346 rfl ZnX ?_;simp (disch := omega) only [Tryz.f346, go_sem, seval];refine (ZdY a.travel a.travel_c t h1 ht).use ?_;simp (disch := omega) only [go_sem, seval];refine Zf [1, 2] (fun k : Nat => [(5, .p (.int .i64 (KX a.travel t + Uy a.slow t k))), (6, .p (.int .i64 k))]) (fun _ => [X0 a]) (fun k => k <= a.slow.length) (fun k => a.slow.length - k) 0 (by simp) (Weak.mk ?_) ?_
 ·simp (disch := omega) only [X0, Uy, List.foldl_nil, go_sem, seval];simp
 ·intro k hk;have hsk := hs k hk;simp (disch := omega) only [X0, go_sem, seval];refine cD ?_ ?_ <;> intro h <;> simp (disch := omega) only [Sh.out h, go_sem, seval]
  ·have hk2 : k < a.slow.length := by omega
   have hp := h3 _ (Z7 hk2);have hsn := VS (t := t) hk2;refine cD ?_ ?_ <;> intro h4 <;> simp (disch := omega) only [Sh.out h4, go_sem, seval]
   ·rw [if_pos h4] at hsn;exact ⟨k + 1, by omega, by omega, Weak.mk (by simp (disch := omega) only [X0, hsn, Int.add_assoc, go_sem, seval])⟩
   ·rw [if_neg h4] at hsn;exact ⟨k + 1, by omega, by omega, Weak.mk (by simp (disch := omega) only [X0, hsn, go_sem, seval])⟩
  ·have hkl : k = a.slow.length := by omega
   subst hkl;simp only [Zjr]
theorem Ku {g : FuncId} {args : List V} {a b c : PV} {H : List AM.Obj} {K : V -> List AM.Obj -> Prop} (h : ACalls Tryz.prog g args [] fun x H' => x = .tup [.p a, .p b, .p c] /\ H' = []) (k : K (.tup [.p a, .p b, .p c]) H) (ha : refBs 0 args = true := by rfl) : ACalls Tryz.prog g args H K :=
 (h.behind ha H).mono fun x H' hq => by
  obtain ⟨y, H1, ⟨rfl, rfl⟩, rfl, rfl⟩ := hq;simpa [shV, J4] using k
theorem Xs {g : FuncId} {args : List V} {a b : PV} {H : List AM.Obj} {K : V -> List AM.Obj -> Prop} (h : ACalls Tryz.prog g args [] fun x H' => x = .tup [.p a, .p b] /\ H' = []) (k : K (.tup [.p a, .p b]) H) (ha : refBs 0 args = true := by rfl) : ACalls Tryz.prog g args H K :=
 (h.behind ha H).mono fun x H' hq => by
  obtain ⟨y, H1, ⟨rfl, rfl⟩, rfl, rfl⟩ := hq;simpa [shV, J4] using k
def Uh (n : Net) (p : Int) : Bool := decide (0 <= p) && decide (p < (n.places.length : Int))
theorem KH (n : Net) (p : Int) (hn : n.places.length <= 1048576) : PC 344 [.p (ZcU n), .p (.int .i64 p)] (.bool (Uh n p)) := by
 refine Za Tryz.func344 rfl Zsq ?_;simp (disch := omega) only [Tryz.f344, go_sem, seval];refine gT ?_ ?_ <;> intro h <;> simp (disch := omega) only [Sh.out h, go_sem, seval]
 ·simp [Uh, h]
 ·simp [Uh, h]
def Yy (pr f t : Int) (a : Arc) : Bool := decide (a.src = f) && decide (a.dst = t) && decide (a.prof = pr)
def XN : Arc := ⟨0, 0, 0, 0, true, [], true, []⟩
def Ym (n : Net) (pr f t : Int) : Arc × Bool := match n.arcs.find? (Yy pr f t) with | some a => (a, true) | none => (XN, false)
theorem ZbQ {n : Net} {pr f t : Int} {k : Nat} (hk : k < n.arcs.length) (hno : ∀ j, j < k -> Yy pr f t (nth n.arcs j) = false) (h : Yy pr f t (nth n.arcs k) = true) : Ym n pr f t = (nth n.arcs k, true) := by
 have : n.arcs.find? (Yy pr f t) = some (nth n.arcs k) := by
  rw [List.find?_eq_some_iff_getElem];refine ⟨h, k, hk, by rw [Ze hk], fun j hj => ?_⟩;have := hno j hj;rw [Ze (by omega)] at this;simp [this]
 rw [Ym, this]
theorem ZbY {n : Net} {pr f t : Int} (hno : ∀ j, j < n.arcs.length -> Yy pr f t (nth n.arcs j) = false) : Ym n pr f t = (XN, false) := by
 have : n.arcs.find? (Yy pr f t) = none := by
  rw [List.find?_eq_none];intro a ha;obtain ⟨j, hj, rfl⟩ := List.mem_iff_getElem.1 ha;have := hno j hj;rw [Ze hj] at this;simp [this]
 rw [Ym, this]
theorem Ziv (n : Net) (pr f t : Int) (hn : n.arcs.length <= 1048576) : PT 345 [.p (ZcU n), .p (.int .i64 pr), .p (.int .i64 f), .p (.int .i64 t)] [.p (Jg (Ym n pr f t).1), .p (.bool (Ym n pr f t).2)] := by
 refine Zc [] Tryz.func345 rfl Ztu ?_;simp (disch := omega) only [Tryz.f345, go_sem, seval];refine Zf [1, 2, 3, 4, 8] (fun k : Nat => [(10, .p (.int .i64 k))]) (fun _ => Zy n ++ [X0 XN]) (fun k => k <= n.arcs.length /\ ∀ j, j < k -> Yy pr f t (nth n.arcs j) = false) (fun k => n.arcs.length - k) 0 (by simp) (Weak.mk ?_) ?_
 ·simp (disch := omega) only [Zy, X0, XN, List.map_nil, List.cons_append, List.nil_append, go_sem, seval]
 ·rintro k ⟨hk, hno⟩;simp (disch := omega) only [Zy, X0, XN, List.map_nil, List.cons_append, List.nil_append, go_sem, seval];refine cD ?_ ?_ <;> intro h <;> simp (disch := omega) only [Sh.out h, go_sem, seval]
  ·have hk2 : k < n.arcs.length := by omega
   have nx : Yy pr f t (nth n.arcs k) = false -> ∀ j, j < k + 1 -> Yy pr f t (nth n.arcs j) = false := fun h => Zh.2 ⟨hno, h⟩;refine gT ?_ ?_ <;> intro h1 <;> simp (disch := omega) only [Sh.out h1, go_sem, seval]
   ·refine gT ?_ ?_ <;> intro h2 <;> simp (disch := omega) only [Sh.out h2, go_sem, seval]
    ·refine cD ?_ ?_ <;> intro h3 <;> simp (disch := omega) only [Sh.out h3, go_sem, seval]
     ·have e := ZbQ hk2 hno (by simp [Yy, h1, h2, h3]);rw [e];exact we
     ·exact ⟨k + 1, ⟨by omega, nx (by simp [Yy, h3])⟩, by omega, Weak.mk (by simp (disch := omega) only [Zy, X0, XN, List.map_nil, List.cons_append, List.nil_append, go_sem, seval])⟩
    ·exact ⟨k + 1, ⟨by omega, nx (by simp [Yy, h2])⟩, by omega, Weak.mk (by simp (disch := omega) only [Zy, X0, XN, List.map_nil, List.cons_append, List.nil_append, go_sem, seval])⟩
   ·exact ⟨k + 1, ⟨by omega, nx (by simp [Yy, h1])⟩, by omega, Weak.mk (by simp (disch := omega) only [Zy, X0, XN, List.map_nil, List.cons_append, List.nil_append, go_sem, seval])⟩
  ·have hkn : k = n.arcs.length := by omega
   subst hkn;rw [ZbY hno];exact we (by simp (disch := omega) only [XN, List.map_nil, go_sem, seval])
def goN (n : Net) (pr f t τ : Int) : Int × Int × Int :=
 if (Uh n f && Uh n t) = false then (0, 0, 11) else if f = t then (τ, 0, 0) else if (Ym n pr f t).2 = true then (Zjr (Ym n pr f t).1 τ, (Ym n pr f t).1.miles, 0) else (0, 0, 12)
def netR (n : Net) : Prop := n.places.length <= 1048576 /\ n.arcs.length <= 1048576 /\ ∀ a ∈ n.arcs, ZuV a
theorem Qp {n : Net} {pr f t : Int} (h : (Ym n pr f t).2 = true) : (Ym n pr f t).1 ∈ n.arcs := by
 unfold Ym at h ⊢
 cases hf : n.arcs.find? (Yy pr f t) with
 | none => rw [hf] at h; simp at h
 | some a => exact List.mem_of_find?_eq_some hf
theorem ZoM (n : Net) (pr f t τ : Int) (hn : netR n) (hτ : 0 <= τ /\ τ <= 1073741824) : PT 340 [.p (ZcU n), .p (.int .i64 pr), .p (.int .i64 f), .p (.int .i64 t), .p (.int .i64 τ)] [.p (.int .i64 (goN n pr f t τ).1), .p (.int .i64 (goN n pr f t τ).2.1), .p (.int .i64 (goN n pr f t τ).2.2)] := by
 refine Zc [] Tryz.func340 rfl ZrG ?_;simp (disch := omega) only [Tryz.f340, go_sem, seval];refine (KH n f hn.1).use ?_;simp (disch := omega) only [go_sem, seval];refine gF ?_ ?_ <;> intro h1 <;> simp (disch := omega) only [Sh.out h1, go_sem, seval]
 ·have e : goN n pr f t τ = (0, 0, 11) := by simp only [Bool.not_eq_true'] at h1; simp [goN, h1]
  rw [e];exact we
 ·simp only [Bool.not_eq_false'] at h1;refine (KH n t hn.1).use ?_;simp (disch := omega) only [go_sem, seval];refine cD ?_ ?_ <;> intro h2 <;> simp (disch := omega) only [Sh.out h2, go_sem, seval]
  ·have e : goN n pr f t τ = (0, 0, 11) := by simp only [Bool.not_eq_true'] at h2; simp [goN, h2]
   rw [e];exact we
  ·simp only [Bool.not_eq_false'] at h2;refine cD ?_ ?_ <;> intro h3 <;> simp (disch := omega) only [Sh.out h3, go_sem, seval]
   ·have e : goN n pr f t τ = (τ, 0, 0) := by simp [goN, h1, h2, h3]
    rw [e];exact we
   ·have cf := Ziv n pr f t hn.2.1;have hm := @Qp n pr f t
    have e0 : goN n pr f t τ = if (Ym n pr f t).2 = true then (Zjr (Ym n pr f t).1 τ, (Ym n pr f t).1.miles, 0) else (0, 0, 12) := by simp [goN, h1, h2, h3]
    rw [e0];generalize Ym n pr f t = A at cf hm ⊢;obtain ⟨a, b⟩ := A;simp only at cf hm ⊢;refine Xs cf ?_;simp (disch := omega) only [go_sem, seval];refine cD ?_ ?_ <;> intro h4 <;> simp (disch := omega) only [Sh.out h4, go_sem, seval]
    ·have hb : b = false := by simpa using h4
     subst hb;exact we
    ·have hb : b = true := by simpa using h4
     subst hb;refine Zi mixed (by kernel_rfl) (by kernel_rfl) ?_;simp (disch := omega) only [go_sem, seval];refine Zm (Zc2 a τ (hn.2.2 a (hm rfl)) hτ) ?_;simp (disch := omega) only [go_sem, seval];exact we
theorem Zel {n : Nat} (h : n < 10) : dec n = [UInt8.ofNat (48 + n)] := by rw [dec, dif_pos h]
theorem Zl9 {n : Nat} (h : 10 <= n) (h2 : n < 100) : dec n = [UInt8.ofNat (48 + n / 10), UInt8.ofNat (48 + n % 10)] := by
 rw [dec, dif_neg (by omega), Zel (by omega)]; rfl
theorem ZbF {s : List UInt8} {k k' : IntKind} {a b : Int} (h : 0 <= a /\ a <= b /\ b <= (s.length : Int)) : ZhR (some .string) s (.p (.int k a)) (.p (.int k' b)) = some (.p (.str ((s.take b.toNat).drop a.toNat))) := by
 simp only [ZhR, if_pos h]
def digT : List UInt8 := (List.range 36).map fun i => UInt8.ofNat (if i < 10 then 48 + i else 87 + i)
def smalT : List UInt8 := (List.range 100).flatMap fun i => [UInt8.ofNat (48 + i / 10), UInt8.ofNat (48 + i % 10)]
theorem Zl7 : ∀ n, n < 10 -> (digT.take (n + 1)).drop n = [UInt8.ofNat (48 + n)] := by decide
theorem ZhN : ∀ n, n < 100 -> (smalT.take (2 * n + 2)).drop (2 * n) = [UInt8.ofNat (48 + n / 10), UInt8.ofNat (48 + n % 10)] := by decide +kernel
theorem Zkv (n : Nat) (hn : n < 100) : PC 354 [.p (.int .i64 (n : Int))] (.str (dec n)) := by
 refine Za Tryz.func354 rfl ZpY ?_;simp (disch := omega) only [Tryz.f354, go_sem, seval];refine cD ?_ ?_ <;> intro h <;> simp (disch := omega) only [Sh.out h, go_sem, seval]
 ·rw [Zel (by omega), ZbF (by simp; omega)]
  have e1 : ((n : Int) + 1).toNat = n + 1 := by omega
  have e2 : ((n : Int)).toNat = n := by omega
  rw [e1, e2];refine (congrArg (fun z => pst (some (V.p (PV.str z))) _) (Zl7 n (by omega))).mpr ?_;simp (disch := omega) only [go_sem, seval]
 ·rw [Zl9 (by omega) hn, ZbF (by simp; omega)]
  have e1 : ((n : Int) * 2 + 2).toNat = 2 * n + 2 := by omega
  have e2 : ((n : Int) * 2).toNat = 2 * n := by omega
  rw [e1, e2];refine (congrArg (fun z => pst (some (V.p (PV.str z))) _) (ZhN n (by omega))).mpr ?_;simp (disch := omega) only [go_sem, seval]
theorem Zi6 (n : Nat) (hn : n < 100) : PC 353 [.p (.int .i64 (n : Int)), .p (.int .i64 10)] (.str (dec n)) := by
 refine Za Tryz.func353 rfl Zo3 ?_
 have h0 : (0 : Int) <= (n : Int) := by omega
 have h1 : (n : Int) < 100 := by omega
 simp (disch := omega) only [Tryz.f353, h0, h1, go_sem, seval];refine (Zkv n hn).use ?_;simp (disch := omega) only [go_sem, seval]
theorem ZkF (n : Nat) (hn : n < 100) : PC 352 [.p (.int .i64 (n : Int))] (.str (dec n)) := by
 refine Za Tryz.func352 rfl ZnY ?_;simp (disch := omega) only [Tryz.f352, go_sem, seval];refine (Zi6 n hn).use ?_;simp (disch := omega) only [go_sem, seval]
theorem ZsK (n : Nat) (hn : n < 100) : PC 351 [.p (.int .i64 (n : Int))] (.str (dec n)) := by
 refine Za Tryz.func351 rfl Ztk ?_;simp (disch := omega) only [Tryz.f351, go_sem, seval];refine (ZkF n hn).use ?_;simp (disch := omega) only [go_sem, seval]
theorem Zb2 (n a b : Int) : PC 341 [.p (.int .i64 n), .p (.int .i64 a), .p (.int .i64 b)] (.bool (decide (a <= n) && decide (n <= b))) := by
 refine Za Tryz.func341 rfl ZrY ?_;simp (disch := omega) only [Tryz.f341, go_sem, seval]
 repeat' (first | (refine ZR (fun hq => ?_) (fun hq => ?_) <;> (try simp only [decide_eq_true_eq, decide_eq_false_iff_not, Classical.not_not] at hq) <;> simp (disch := omega) only [Sh.out hq, go_sem, seval]) | (refine ZS (fun hq => ?_) (fun hq => ?_) <;> (try simp only [decide_eq_true_eq, decide_eq_false_iff_not, Classical.not_not] at hq) <;> simp (disch := omega) only [Sh.out hq, go_sem, seval]) | (refine Xc (fun hq => ?_) (fun hq => ?_) <;> (try simp only [decide_eq_true_eq, decide_eq_false_iff_not, Classical.not_not] at hq) <;> simp (disch := omega) only [Sh.out hq, go_sem, seval]))
 all_goals (simp; first | done | omega)
theorem Zhi (l : List Pt) (c : Bool) (hl : YB l) : PC 347 [.p (.list c (l.map ePt))] (.list true []) := by
 obtain ⟨⟨hl1, hl2⟩, hpt⟩ := hl;refine Za Tryz.func347 rfl Zod ?_
 have e1 : ¬ (l.length : Int) = 0 := by omega
 have e2 : ¬ (16 : Int) < (l.length : Int) := by omega
 simp (disch := omega) only [Tryz.f347, e1, e2, go_sem, seval];refine Zf [0, 19, 20] (fun k : Nat => [(3, .p (.list true [])), (21, .p (.int .i64 k))]) (fun _ => []) (fun k => k <= l.length) (fun k => l.length - k) 0 (by simp) (Weak.mk ?_) ?_
 ·simp (disch := omega) only [go_sem, seval]
 ·intro k hk;simp (disch := omega) only [go_sem, seval];refine cD ?_ ?_ <;> intro h <;> simp (disch := omega) only [Sh.out h, go_sem, seval]
  ·have hk2 : k < l.length := by omega
   obtain ⟨⟨p1, p2, p3, p4⟩, q⟩ := hpt k hk2;refine (ZsK k (by omega)).use ?_;simp (disch := omega) only [go_sem, seval];refine (Zb2 (nth l k).t 0 4096).use ?_;simp (disch := omega) only [go_sem, seval];simp (disch := omega) only [p1, p2, go_sem, seval];refine gF ?_ ?_ <;> intro h3 <;> simp (disch := omega) only [Sh.out h3, go_sem, seval]
   ·omega
   ·refine cD ?_ ?_ <;> intro h4 <;> simp (disch := omega) only [Sh.out h4, go_sem, seval]
    ·omega
    ·refine Zi mixed (by kernel_rfl) (by kernel_rfl) ?_;simp (disch := omega) only [go_sem, seval];refine gT ?_ ?_ <;> intro h5 <;> simp (disch := omega) only [Sh.out h5, go_sem, seval]
     ·obtain ⟨r1, r2⟩ := q (by omega);refine gF ?_ ?_ <;> intro h6 <;> simp (disch := omega) only [Sh.out h6, go_sem, seval]
      ·omega
      ·refine cD ?_ ?_ <;> intro h7 <;> simp (disch := omega) only [Sh.out h7, go_sem, seval]
       ·omega
       ·exact ⟨k + 1, by omega, by omega, wk⟩
     ·exact ⟨k + 1, by omega, by omega, wk⟩
theorem Zgh (p : Pt) (t : Int) (h : 0 <= p.t /\ p.t <= 4096) (ht : 0 <= t /\ t <= 1073741824) : PC 349 [.p (ePt p), .p (.int .i64 t)] (.int .i64 (p.t - t)) := by
 refine Za Tryz.func349 rfl Zn4 ?_;simp (disch := omega) only [Tryz.f349, go_sem, seval]
theorem Zku (l : List Pt) (c : Bool) (hl : YB l) : PC 342 [.p (.list c (l.map ePt))] (.bool true) := by
 refine Za Tryz.func342 rfl Zn6 ?_;simp (disch := omega) only [Tryz.f342, go_sem, seval];refine (Zhi l c hl).use ?_;simp (disch := omega) only [go_sem, seval]
structure PosT (l : List Pt) (t : Int) (i : Nat) : Prop where
 le : i <= l.length
 lo : ∀ j, j < i -> (nth l j).t < t
 hi : ∀ j, i <= j -> j < l.length -> t <= (nth l j).t
theorem Zxe (l : List Pt) (c : Bool) (t : Int) (i : Nat) (hl : YB l) (ht : 0 <= t /\ t <= 1073741824) (hi : PosT l t i) : PT 348 [.p (.list c (l.map ePt)), .p (.int .i64 t), .fn (.func 349) [] []] [.p (.int .i64 (i : Int)), .p (.bool (decide (i < l.length) && decide ((nth l i).t = t)))] := by
 obtain ⟨⟨hl1, hl2⟩, hpt⟩ := hl;obtain ⟨hi1, hi2, hi3⟩ := hi;refine Zc [] Tryz.func348 rfl Zqy ?_;simp (disch := omega) only [Tryz.f348, go_sem, seval];refine Zf [0, 1, 2, 8] (fun q : Nat × Nat => [(9, .p (.int .i64 q.1)), (10, .p (.int .i64 q.2))]) (fun _ => []) (fun q => q.1 <= i /\ i <= q.2 /\ q.2 <= l.length) (fun q => q.2 - q.1) (0, l.length) (by simp; omega) (Weak.mk ?_) ?_
 ·simp (disch := omega) only [go_sem, seval]
 ·rintro ⟨a, b⟩ ⟨h1, h2, h3⟩;simp only at h1 h2 h3;simp (disch := omega) only [go_sem, seval];refine cD ?_ ?_ <;> intro h <;> simp (disch := omega) only [Sh.out h, go_sem, seval]
  ·have hm : (a + b) / 2 < l.length := by omega
   obtain ⟨⟨p1, p2, p3, p4⟩, q⟩ := hpt _ hm
   have hs : ((a : Int) + (b : Int)).fdiv (2 ^ min 1 64) = (((a + b) / 2 : Nat) : Int) := by
    rw [Int.fdiv_eq_ediv_of_nonneg _ (by decide)]; norm_cast
   have em : ((((a + b) / 2 : Nat)) : Int).toNat = (a + b) / 2 := by omega
   have hnb : ((a + b) / 2 < i) ↔ (nth l ((a + b) / 2)).t - t < 0 := by
    constructor
    ·intro hh; have := hi2 _ hh; omega
    ·intro hh
     by_cases g : (a + b) / 2 < i
     ·exact g
     ·have := hi3 _ (by omega) hm; omega
   rw [hs];simp (disch := omega) only [go_sem, seval];refine (Zgh (nth l ((a + b) / 2)) t ⟨p1, p2⟩ ht).use ?_;simp (disch := omega) only [go_sem, seval];refine cD ?_ ?_ <;> intro h4 <;> simp (disch := omega) only [Sh.out h4, go_sem, seval]
   ·exact ⟨((a + b) / 2 + 1, b), ⟨by simp only; have := hnb.2 h4; omega, h2, h3⟩, by simp only; omega, wk⟩
   ·exact ⟨(a, (a + b) / 2), ⟨h1, by simp only; have := fun g => h4 (hnb.1 g); omega, by simp only; omega⟩, by simp only; omega, wk⟩
  ·have : a = i := by omega
   subst this;refine gT ?_ ?_ <;> intro h4 <;> simp (disch := omega) only [Sh.out h4, go_sem, seval]
   ·have hm : a < l.length := by omega
    obtain ⟨⟨p1, p2, p3, p4⟩, q⟩ := hpt _ hm;refine (Zgh (nth l a) t ⟨p1, p2⟩ ht).use ?_;simp (disch := omega) only [go_sem, seval];have e5 : ((nth l a).t - t = 0) = ((nth l a).t = t) := propext (by omega);exact we (by simp (disch := omega) only [e5, hm, go_sem, seval])
   ·have hm : ¬ a < l.length := by omega
    exact we (by simp (disch := omega) only [hm, go_sem, seval])
theorem UB {l : List Pt} (hl : YB l) {k : Nat} (hk : k < l.length) : ∀ j, j < k -> (nth l j).t < (nth l k).t := by
 obtain ⟨_, hpt⟩ := hl
 induction k with
 | zero => intro j hj; omega
 | succ k ih =>
  intro j hj;obtain ⟨_, q⟩ := hpt (k + 1) hk;obtain ⟨r1, _⟩ := q (by omega);rw [Nat.add_sub_cancel] at r1;rcases Nat.lt_succ_iff_lt_or_eq.1 hj with h | h
  ·exact Int.lt_trans (ih (by omega) j h) r1
  ·subst h; exact r1
theorem Zky {l : List Pt} (hl : YB l) (t : Int) : ∃ i, PosT l t i := by
 have : ∀ n, n <= l.length -> ∃ i, i <= n /\ (∀ j, j < i -> (nth l j).t < t) /\ (i < n -> t <= (nth l i).t) := by
  intro n
  induction n with
  | zero => intro _; exact ⟨0, by omega, fun j hj => by omega, fun h => by omega⟩
  | succ n ih =>
   intro hn;obtain ⟨i, h1, h2, h3⟩ := ih (by omega)
   by_cases g : i < n
   ·exact ⟨i, by omega, h2, fun _ => h3 g⟩
   ·have : i = n := by omega
    subst this
    by_cases g2 : (nth l i).t < t
    ·exact ⟨i + 1, by omega, Zh.2 ⟨h2, g2⟩, fun h => by omega⟩
    ·exact ⟨i, by omega, h2, fun _ => by omega⟩
 obtain ⟨i, h1, h2, h3⟩ := this l.length (Nat.le_refl _);refine ⟨i, h1, h2, fun j hj hjl => ?_⟩;rcases Nat.lt_or_eq_of_le hj with h | h
 ·have := UB hl hjl i h; have := h3 (by omega); omega
 ·subst h; exact h3 hjl
theorem Zl6 {l : List Pt} {t : Int} {i : Nat} (hl : YB l) (h : PosT l t i) (hi : i < l.length) (e : (nth l i).t = t) : KX l t = (nth l i).a := by
 by_cases g : i + 1 < l.length
 ·have m := UB hl g i (by omega);rw [Zby g (fun j hj => ?_) (by simp [QM, e]; omega), Zka]
  ·rw [e, Int.sub_self, Int.zero_mul, Int.zero_add];rw [Int.ediv_eq_zero_of_lt (by omega) (by omega)]; omega
  ·have : (nth l (j + 1)).t <= t := by
    rcases Nat.lt_or_eq_of_le (show j + 1 <= i by omega) with h1 | h1
    ·have := h.lo _ h1; omega
    ·rw [h1, e]; exact Int.le_refl _
   simp [QM]; omega
 ·have hi1 : i = l.length - 1 := by omega
  rw [JZ (fun j hj => ?_)]
  ·split
   ·rw [<- hi1]; omega
   ·have : i = 0 := by
     by_cases g2 : i = 0
     ·exact g2
     ·have := h.lo 0 (by omega); omega
    subst this; omega
  ·have : (nth l (j + 1)).t <= t := by
    rcases Nat.lt_or_eq_of_le (show j + 1 <= i by omega) with h1 | h1
    ·have := h.lo _ h1; omega
    ·rw [h1, e]; exact Int.le_refl _
   simp [QM]; omega
theorem Zmy {l : List Pt} {t : Int} (hl : YB l) (h : PosT l t 0) (e : ¬ (nth l 0).t = t) : KX l t = t + (nth l 0).a - (nth l 0).t := by
 have h0 := h.hi 0 (Nat.le_refl _) hl.1.1;rw [JZ (fun j hj => ?_), if_neg (by omega)]
 have : t < (nth l j).t := by
  by_cases g : j = 0
  ·subst g; omega
  ·have := UB hl (show j < l.length by omega) 0 (by omega); omega
 simp [QM]; omega
theorem ZkE {l : List Pt} {t : Int} (h : PosT l t l.length) (hl : 0 < l.length) : KX l t = t + (nth l (l.length - 1)).a - (nth l (l.length - 1)).t := by
 rw [JZ (fun j hj => ?_), if_pos (h.lo 0 hl)];have := h.lo (j + 1) hj;simp [QM]; omega
theorem Zhl {l : List Pt} {t : Int} {i : Nat} (h : PosT l t i) (h0 : 0 < i) (hi : i < l.length) (e : ¬ (nth l i).t = t) : KX l t = Zka (nth l (i - 1)) (nth l i) t := by
 have e1 : i - 1 + 1 = i := by omega
 have h1 := h.lo (i - 1) (by omega);have h2 := h.hi i (Nat.le_refl _) hi;have := Zby (l := l) (t := t) (i := i - 1) (by omega) (fun j hj => by have := h.lo (j + 1) (by omega); simp [QM]; omega) (by rw [QM, e1]; simp; omega);rw [this, e1]
theorem ZaA {p q : Pt} {t : Int} (h1 : p.t <= t) (h2 : t < q.t) (hp : 0 <= p.t) (hq : q.t <= 4096) (ha : p.a <= q.a) (hpa : 0 <= p.a) (hqa : q.a <= 8192) :
  IntKind.i64.wrap (p.a + IntKind.i64.wrap ((IntKind.i64.wrap (IntKind.i64.wrap (IntKind.i64.wrap ((t - p.t) * (q.a - p.a)) + (q.t - p.t)) - 1)).tdiv (q.t - p.t))) = Zka p q t := by
 have hm := J2 h1 h2 hp hq ha hpa hqa;unfold Zka;generalize hM : (t - p.t) * (q.a - p.a) = m at hm
 have hd : 0 <= (m + (q.t - p.t) - 1) / (q.t - p.t) /\ (m + (q.t - p.t) - 1) / (q.t - p.t) <= m + (q.t - p.t) - 1 := by
  refine ⟨Int.ediv_nonneg (by omega) (by omega), Int.ediv_le_self _ (by omega)⟩
 rw [IntWalk.i64_in m (by omega), IntWalk.i64_in (m + (q.t - p.t)) (by omega), IntWalk.i64_in (m + (q.t - p.t) - 1) (by omega), Int.tdiv_eq_ediv_of_nonneg (by omega), IntWalk.i64_in ((m + (q.t - p.t) - 1) / (q.t - p.t)) (by omega), IntWalk.i64_in _ (by omega)]
 congr 2
 omega
theorem ZdN (l : List Pt) (c : Bool) (t : Int) (hl : YB l) (ht : 0 <= t /\ t <= 1073741824) : PC 343 [.p (.list c (l.map ePt)), .p (.int .i64 t)] (.int .i64 (KX l t)) := by
 obtain ⟨i, hi⟩ := Zky hl t;have hl' := hl;obtain ⟨⟨hl1, hl2⟩, hpt⟩ := hl';refine Za Tryz.func343 rfl Zso ?_;simp (disch := omega) only [Tryz.f343, go_sem, seval];refine Xs (Zxe l c t i hl ht hi) ?_;simp (disch := omega) only [go_sem, seval];obtain ⟨i1, i2, i3⟩ := id hi;refine cD ?_ ?_ <;> intro h <;> simp (disch := omega) only [Sh.out h, go_sem, seval]
 ·obtain ⟨h1, h2⟩ := h;have := hpt i h1;rw [Zl6 hl hi h1 h2]
 ·refine cD ?_ ?_ <;> intro h0 <;> simp (disch := omega) only [Sh.out h0, go_sem, seval]
  ·have : i = 0 := by omega
   subst this;obtain ⟨p1, p2⟩ := hpt 0 (by omega);rw [Zmy hl hi (fun g => h ⟨by omega, g⟩)];refine Zi mixed (by kernel_rfl) (by kernel_rfl) ?_;simp (disch := omega) only [go_sem, seval]
  ·refine cD ?_ ?_ <;> intro h1 <;> simp (disch := omega) only [Sh.out h1, go_sem, seval]
   ·have : i = l.length := by omega
    subst this;obtain ⟨p1, p2⟩ := hpt (l.length - 1) (by omega);rw [ZkE hi (by omega)]
    have e1 : ((l.length : Int) - 1).toNat = l.length - 1 := by omega
    refine Zi mixed (by kernel_rfl) (by kernel_rfl) ?_;simp (disch := omega) only [go_sem, seval]
   ·have g1 : i < l.length := by omega
    rw [Zhl hi (by omega) g1 (fun g => h ⟨g1, g⟩)];have g2 := UB hl g1 (i - 1) (by omega);obtain ⟨p1, p2⟩ := hpt i g1;obtain ⟨p3, p4⟩ := hpt (i - 1) (by omega)
    have e1 : ((i : Int) - 1).toNat = i - 1 := by omega
    have q1 := i2 (i - 1) (by omega);have q2 := i3 i (Nat.le_refl _) g1;have q3 : ¬ (nth l i).t = t := fun g => h ⟨g1, g⟩;have q4 := p2 (by omega);refine QZ [9, 10, 11] 12 mixed (by kernel_rfl) (by kernel_rfl) (by kernel_rfl) (by simp) ?_;simp (disch := omega) only [e1, go_sem, seval];refine KS 9 10 _ _ _ _ (by kernel_rfl) (by simp (disch := omega) only [go_sem, seval]; exact ⟨rfl, rfl⟩) (by simp (disch := omega) only [go_sem, seval]; exact ⟨rfl, rfl⟩) ?_ ?_
    ·refine YH 10 _ _ (by kernel_rfl) (by simp (disch := omega) only [go_sem, seval]; exact ⟨rfl, rfl⟩) (YH 11 _ _ (by kernel_rfl) (by simp (disch := omega) only [go_sem, seval]; exact ⟨rfl, rfl⟩) (Jx ?_));simp (disch := omega) only [go_sem, seval];refine Zi mixed (by kernel_rfl) (by kernel_rfl) ?_;simp (disch := omega) only [go_sem, seval];exact congrArg (fun z => V.p (PV.int IntKind.i64 z)) (ZaA (by omega) (by omega) (by omega) (by omega) (by omega) (by omega) (by omega))
    ·refine YH 9 _ _ (by kernel_rfl) (by simp (disch := omega) only [go_sem, seval]; exact ⟨rfl, rfl⟩) (YH 11 _ _ (by kernel_rfl) (by simp (disch := omega) only [go_sem, seval]; exact ⟨rfl, rfl⟩) (Jx ?_));simp (disch := omega) only [go_sem, seval];refine Zi mixed (by kernel_rfl) (by kernel_rfl) ?_;simp (disch := omega) only [go_sem, seval];exact congrArg (fun z => V.p (PV.int IntKind.i64 z)) (ZaA (by omega) (by omega) (by omega) (by omega) (by omega) (by omega) (by omega))
theorem Zgc (l : List Pt) (c : Bool) (t : Int) (hl : YB l) (ht : 0 <= t /\ t <= 1073741824) : PC 339 [.p (.list c (l.map ePt)), .p (.int .i64 t)] (.int .i64 (KX l t)) := by
 refine Za Tryz.func339 rfl ZrR ?_;simp (disch := omega) only [Tryz.f339, go_sem, seval];refine (Zb2 t 0 1073741824).use ?_;simp (disch := omega) only [go_sem, seval];simp (disch := omega) only [ht, go_sem, seval];refine (Zku l c hl).use ?_;simp (disch := omega) only [go_sem, seval];refine (ZdN l c t hl ht).use ?_;simp (disch := omega) only [go_sem, seval]
theorem ZcF (n : Net) (p : Int) (hn : n.places.length <= 1048576) : PC 321 [.p (ZcU n), .p (.int .i64 p)] (.bool (Uh n p)) := by
 refine Za Tryz.func321 rfl Zpi ?_;simp (disch := omega) only [Tryz.f321, go_sem, seval];refine gT ?_ ?_ <;> intro h <;> simp (disch := omega) only [Sh.out h, go_sem, seval]
 ·simp [Uh, h]
 ·simp [Uh, h]
theorem ZkA (a : Arc) : PC 338 [.p (Jg a)] (.agg [.int .i64 a.src, .int .i64 a.dst, .int .i64 a.prof]) := by
 refine Za Tryz.func338 rfl ZqY ?_;simp (disch := omega) only [Tryz.f338, go_sem, seval]
theorem Zmu (a : Arc) (t : Int) (ha : ZuV a) (ht : 0 <= t /\ t <= 1073741824) : PC 323 [.p (Jg a), .p (.int .i64 t)] (.int .i64 (Zjr a t)) := by
 obtain ⟨h1, h2, h3⟩ := ha;have hr := JP h1 ht;have hs := Vx (t := t) (fun p hp => (h3 p hp).2.2);refine Za Tryz.func323 rfl ZoN ?_;simp (disch := omega) only [Tryz.f323, go_sem, seval];refine (Zgc a.travel a.travel_c t h1 ht).use ?_;simp (disch := omega) only [go_sem, seval];refine Zf [1, 13, 14] (fun k : Nat => [(5, .p (.int .i64 (KX a.travel t + Uy a.slow t k))), (15, .p (.int .i64 k))]) (fun _ => [X0 a]) (fun k => k <= a.slow.length) (fun k => a.slow.length - k) 0 (by simp) (Weak.mk ?_) ?_
 ·simp (disch := omega) only [X0, Uy, List.foldl_nil, go_sem, seval];simp
 ·intro k hk;have hsk := hs k hk;simp (disch := omega) only [X0, go_sem, seval];refine cD ?_ ?_ <;> intro h <;> simp (disch := omega) only [Sh.out h, go_sem, seval]
  ·have hk2 : k < a.slow.length := by omega
   have hp := h3 _ (Z7 hk2);have hsn := VS (t := t) hk2;refine cD ?_ ?_ <;> intro h4 <;> simp (disch := omega) only [Sh.out h4, go_sem, seval]
   ·rw [if_pos h4] at hsn;exact ⟨k + 1, by omega, by omega, Weak.mk (by simp (disch := omega) only [X0, hsn, Int.add_assoc, go_sem, seval])⟩
   ·rw [if_neg h4] at hsn;exact ⟨k + 1, by omega, by omega, Weak.mk (by simp (disch := omega) only [X0, hsn, go_sem, seval])⟩
  ·have hkl : k = a.slow.length := by omega
   subst hkl;simp only [Zjr]
theorem Zl4 (n : Net) (pr f t : Int) (hn : n.arcs.length <= 1048576) : PT 322 [.p (ZcU n), .p (.int .i64 pr), .p (.int .i64 f), .p (.int .i64 t)] [.p (Jg (Ym n pr f t).1), .p (.bool (Ym n pr f t).2)] := by
 refine Zc [] Tryz.func322 rfl ZnR ?_;simp (disch := omega) only [Tryz.f322, go_sem, seval];refine Zf [8, 10, 18, 19] (fun k : Nat => [(20, .p (.int .i64 k))]) (fun _ => Zy n ++ [X0 XN, .cells [.p (.int .i64 f), .p (.int .i64 t), .p (.int .i64 pr)]]) (fun k => k <= n.arcs.length /\ ∀ j, j < k -> Yy pr f t (nth n.arcs j) = false) (fun k => n.arcs.length - k) 0 (by simp) (Weak.mk ?_) ?_
 ·simp (disch := omega) only [Zy, X0, XN, List.map_nil, List.cons_append, List.nil_append, go_sem, seval]
 ·rintro k ⟨hk, hno⟩;simp (disch := omega) only [Zy, X0, XN, List.map_nil, List.cons_append, List.nil_append, go_sem, seval];refine cD ?_ ?_ <;> intro h <;> simp (disch := omega) only [Sh.out h, go_sem, seval]
  ·have hk2 : k < n.arcs.length := by omega
   have nx : Yy pr f t (nth n.arcs k) = false -> ∀ j, j < k + 1 -> Yy pr f t (nth n.arcs j) = false := fun h => Zh.2 ⟨hno, h⟩;refine Zi mixed (by kernel_rfl) (by kernel_rfl) ?_;simp (disch := omega) only [go_sem, seval];refine Zm (ZkA (nth n.arcs k)) ?_;simp (disch := omega) only [go_sem, seval];refine cD ?_ ?_ <;> intro h1 <;> simp (disch := omega) only [Sh.out h1, go_sem, seval]
   ·have e := ZbQ hk2 hno (by simp [Yy, h1]);obtain ⟨rfl, rfl, rfl⟩ := h1;rw [e];exact we
   ·have e2 : Yy pr f t (nth n.arcs k) = false := by
     cases hq : Yy pr f t (nth n.arcs k) with
     | false => rfl
     | true => simp only [Yy, Bool.and_eq_true, decide_eq_true_eq] at hq; exact absurd ⟨hq.1.1, hq.1.2, hq.2⟩ h1
    exact ⟨k + 1, ⟨by omega, nx e2⟩, by omega, Weak.mk (by simp (disch := omega) only [Zy, X0, XN, List.map_nil, List.cons_append, List.nil_append, go_sem, seval])⟩
  ·have hkn : k = n.arcs.length := by omega
   subst hkn;rw [ZbY hno];exact we (by simp (disch := omega) only [XN, List.map_nil, go_sem, seval])
theorem Zyj (n : Net) (pr f t τ : Int) (hn : netR n) (hτ : 0 <= τ /\ τ <= 1073741824) : PT 294 [.p (ZcU n), .p (.int .i64 pr), .p (.int .i64 f), .p (.int .i64 t), .p (.int .i64 τ)] [.p (.int .i64 (goN n pr f t τ).1), .p (.int .i64 (goN n pr f t τ).2.1), .p (.int .i64 (goN n pr f t τ).2.2)] := by
 refine Zc [] Tryz.func294 rfl Zts ?_;simp (disch := omega) only [Tryz.f294, go_sem, seval];refine (ZcF n f hn.1).use ?_;simp (disch := omega) only [go_sem, seval];refine gF ?_ ?_ <;> intro h1 <;> simp (disch := omega) only [Sh.out h1, go_sem, seval]
 ·have e : goN n pr f t τ = (0, 0, 11) := by simp only [Bool.not_eq_true'] at h1; simp [goN, h1]
  rw [e];exact we
 ·simp only [Bool.not_eq_false'] at h1;refine (ZcF n t hn.1).use ?_;simp (disch := omega) only [go_sem, seval];refine cD ?_ ?_ <;> intro h2 <;> simp (disch := omega) only [Sh.out h2, go_sem, seval]
  ·have e : goN n pr f t τ = (0, 0, 11) := by simp only [Bool.not_eq_true'] at h2; simp [goN, h2]
   rw [e];exact we
  ·simp only [Bool.not_eq_false'] at h2;refine cD ?_ ?_ <;> intro h3 <;> simp (disch := omega) only [Sh.out h3, go_sem, seval]
   ·have e : goN n pr f t τ = (τ, 0, 0) := by simp [goN, h1, h2, h3]
    rw [e];exact we
   ·have cf := Zl4 n pr f t hn.2.1;have hm := @Qp n pr f t
    have e0 : goN n pr f t τ = if (Ym n pr f t).2 = true then (Zjr (Ym n pr f t).1 τ, (Ym n pr f t).1.miles, 0) else (0, 0, 12) := by simp [goN, h1, h2, h3]
    rw [e0];generalize Ym n pr f t = A at cf hm ⊢;obtain ⟨a, b⟩ := A;simp only at cf hm ⊢;refine Xs cf ?_;simp (disch := omega) only [go_sem, seval];refine cD ?_ ?_ <;> intro h4 <;> simp (disch := omega) only [Sh.out h4, go_sem, seval]
    ·have hb : b = false := by simpa using h4
     subst hb;exact we
    ·have hb : b = true := by simpa using h4
     subst hb;refine Zi mixed (by kernel_rfl) (by kernel_rfl) ?_;simp (disch := omega) only [go_sem, seval];refine Zm (Zmu a τ (hn.2.2 a (hm rfl)) hτ) ?_;simp (disch := omega) only [go_sem, seval];exact we
theorem Zlk (x : Inst) (pr f t τ : Int) (hn : netR x.net) (hτ : 0 <= τ /\ τ <= 1073741824) : PT 336 [.p (ZG x), .p (.int .i64 pr), .p (.int .i64 f), .p (.int .i64 t), .p (.int .i64 τ)] [.p (.int .i64 (goN x.net pr f t τ).1), .p (.int .i64 (goN x.net pr f t τ).2.1), .p (.bool (decide ((goN x.net pr f t τ).2.2 = 0)))] := by
 refine Zc [] Tryz.func336 rfl Zpf ?_;simp (disch := omega) only [Tryz.f336, go_sem, seval];refine Ku (ZoM x.net pr f t τ hn hτ) ?_;simp (disch := omega) only [go_sem, seval];exact we
structure StD where
 place : Int
 time : Int
 driven : Int
 miles : Int
def ZrH (s : StD) : PV := .agg [.int .i64 s.place, .int .i64 s.time, .int .i64 s.driven, .int .i64 s.miles]
@[go_sem] theorem Zxt (s : StD) : ZrH s = .agg [.int .i64 s.place, .int .i64 s.time, .int .i64 s.driven, .int .i64 s.miles] := Eq.trans rfl rfl
def ZaX (t : Typ) (s : StD) (b : Bool) : StD := if b = true then { s with time := s.time + t.rest, driven := 0 } else s
theorem ZcQ (t : Typ) (s : StD) (b : Bool) (hb : -1099511627776 <= s.time /\ s.time <= 1099511627776 /\ -1099511627776 <= t.rest /\ t.rest <= 1099511627776) : PC 316 [.p (QP t), .p (ZrH s), .p (.bool b)] (ZrH (ZaX t s b)) := by
 refine Za Tryz.func316 rfl Zpu ?_
 cases b with
 | true => simp (disch := omega) only [Tryz.f316, ZaX, go_sem, seval]
 | false => simp (disch := omega) only [Tryz.f316, ZaX, Bool.false_eq_true, go_sem, seval]
def V0 (x : Inst) (t : Typ) (s : StD) (to cl late : Int) : StD × Int :=
 if ¬ (goN x.net t.prof s.place to s.time).2.2 = 0 then (s, 12)
 else if cl < (goN x.net t.prof s.place to s.time).1 then (s, late)
 else if t.drive < s.driven + (goN x.net t.prof s.place to s.time).1 - s.time then (s, 16)
 else (⟨to, (goN x.net t.prof s.place to s.time).1, s.driven + (goN x.net t.prof s.place to s.time).1 - s.time, s.miles + (goN x.net t.prof s.place to s.time).2.1⟩, 0)
def Sml (n : Int) : Prop := -1099511627776 <= n /\ n <= 1099511627776
theorem Zco (x : Inst) (t : Typ) (s : StD) (to cl late : Int) (hn : netR x.net) (hs : 0 <= s.time /\ s.time <= 1073741824) (hd : Sml s.driven) (hm : Sml s.miles) (hg : Sml (goN x.net t.prof s.place to s.time).1 /\ Sml (goN x.net t.prof s.place to s.time).2.1) :
  PT 317 [.p (ZG x), .p (QP t), .p (ZrH s), .p (.int .i64 to), .p (.int .i64 cl), .p (.int .i64 late)] [.p (ZrH (V0 x t s to cl late).1), .p (.int .i64 (V0 x t s to cl late).2)] := by
 have cw := Zlk x t.prof s.place to s.time hn hs;unfold V0;generalize goN x.net t.prof s.place to s.time = g at cw hg ⊢;obtain ⟨a, m, e⟩ := g;unfold Sml at hd hm hg;simp only at cw hg ⊢;refine Zc [] Tryz.func317 rfl ZpD ?_;simp (disch := omega) only [Tryz.f317, go_sem, seval];refine Ku cw ?_;simp (disch := omega) only [go_sem, seval];refine cD ?_ ?_ <;> intro h1 <;> simp (disch := omega) only [Sh.out h1, go_sem, seval]
 ·exact we
 ·rw [if_neg h1];refine cD ?_ ?_ <;> intro h2 <;> simp (disch := omega) only [Sh.out h2, go_sem, seval]
  ·exact we
  ·rw [if_neg h2];refine cD ?_ ?_ <;> intro h3 <;> simp (disch := omega) only [Sh.out h3, go_sem, seval]
   ·exact we
   ·exact we
structure Lab where
 ready : Int
 since : Int
 she : She
 deriving Inhabited
def zShe : She := ⟨false, 0, true, [], 0, 0⟩
def WC : Lab := ⟨0, 0, zShe⟩
def ZT (t : Typ) (L : Lab) (b : Bool) : Int := if b = true then L.ready + t.rest else L.ready
def W9 (L : Lab) (b : Bool) : Int := if b = true then 0 else L.since
def Zh9 (l : List Tim) (k : Nat) (d : Int) (b : Bool) : List Tim := l.set k { nth l k with dep := d, rest := b }
def Xu (k : Nat) (d : Int) (b : Bool) (s : She) : She := if k = 0 then { s with rest := b, dep := d } else { s with times := Zh9 s.times (k - 1) d b }
def J7 (t : Typ) (sp : List Stp) (k : Nat) : Int := if k = 0 then t.src else (nth sp (k - 1)).place
def toF (t : Typ) (sp : List Stp) (k : Nat) : Int := if k = sp.length then t.dst else (nth sp k).place
def goL (x : Inst) (t : Typ) (sp : List Stp) (k : Nat) (d : Int) : Int × Int × Int := goN x.net t.prof (J7 t sp k) (toF t sp k) d
def W8 (t : Typ) (sp : List Stp) (k : Nat) (g : Int × Int × Int) (d s : Int) (h : She) : Lab × Int :=
 if ¬ g.2.2 = 0 then (WC, 12)
 else if k = sp.length then
  if t.cls < g.1 then (WC, 15) else if t.drive < s + g.1 - d then (WC, 16)
  else (⟨g.1, s + g.1 - d, { h with fin := g.1, miles := h.miles + g.2.1 }⟩, 0)
 else if (nth sp k).cls < max g.1 (nth sp k).opn then (WC, 14)
 else if t.drive < s + g.1 - d then (WC, 16)
 else (⟨max g.1 (nth sp k).opn + (nth sp k).serv, s + g.1 - d, { h with times_c := false, times := h.times ++ [⟨g.1, max g.1 (nth sp k).opn, 0, false⟩], miles := h.miles + g.2.1 }⟩, 0)
def Y2 (x : Inst) (t : Typ) (sp : List Stp) (k : Nat) (L : Lab) (b : Bool) : Lab × Int :=
 W8 t sp k (goL x t sp k (ZT t L b)) (ZT t L b) (W9 L b) (Xu k (ZT t L b) b L.she)
def X1 (x : Inst) (t : Typ) (sp : List Stp) (k : Nat) (L : Lab) (b : Bool) : Option Lab := if (Y2 x t sp k L b).2 = 0 then some (Y2 x t sp k L b).1 else none
def X3 (x : Inst) (t : Typ) (sp : List Stp) : Nat -> Lab -> List Bool -> Lab × Int
 | _, L, [] => (L, 0)
 | k, L, b :: bs => if (Y2 x t sp k L b).2 = 0 then X3 x t sp (k + 1) (Y2 x t sp k L b).1 bs else (WC, (Y2 x t sp k L b).2)
def XZ (t : Typ) (st : Int) : Lab := ⟨max t.opn st, 0, zShe⟩
theorem Wy {x : Inst} {t : Typ} {sp : List Stp} : ∀ (bs : List Bool) (k : Nat) (L : Lab), Us (X1 x t sp) k L bs = if (X3 x t sp k L bs).2 = 0 then some (X3 x t sp k L bs).1 else none
 | [], k, L => by simp [Us, X3]
 | b :: bs, k, L => by
  rw [Us, X3, X1]
  by_cases h : (Y2 x t sp k L b).2 = 0
  ·simp only [h, if_true];exact Wy bs (k + 1) _
  ·simp [h]
structure TrpOk (x : Inst) (t : Typ) (sp : List Stp) : Prop where
 net : netR x.net
 mil : ∀ a ∈ x.net.arcs, 0 <= a.miles /\ a.miles <= 10000
 opn : 0 <= t.opn /\ t.opn <= t.cls /\ t.cls <= 4096
 drv : 1 <= t.drive /\ t.drive <= 4096
 rst : 0 <= t.rest /\ t.rest <= 4096
 stp : ∀ s ∈ sp, 0 <= s.opn /\ s.opn <= s.cls /\ s.cls <= 4096 /\ 0 <= s.serv /\ s.serv <= 4096
 len : sp.length <= 20
structure LabR (k : Nat) (L : Lab) : Prop where
 rdy : 0 <= L.ready /\ L.ready <= 8192
 snc : -(12288 * (k : Int)) <= L.since /\ L.since <= 4096
 mil : 0 <= L.she.miles /\ L.she.miles <= 10000 * (k : Int)
theorem Zkr {n : Net} {pr f t τ : Int} (hn : netR n) (hm : ∀ a ∈ n.arcs, 0 <= a.miles /\ a.miles <= 10000) (hτ : 0 <= τ /\ τ <= 1073741824) : (0 <= (goN n pr f t τ).1 /\ (goN n pr f t τ).1 <= 1107369984) /\ (0 <= (goN n pr f t τ).2.1 /\ (goN n pr f t τ).2.1 <= 10000) := by
 unfold goN
 split
 ·simp
 ·split
  ·simp only; omega
  ·split
   ·rename_i h;have hA := Qp h;have h1 := JP (hn.2.2 _ hA).1 hτ;have h2 := Vx (t := τ) (fun p hp => ((hn.2.2 _ hA).2.2 p hp).2.2) _ (Nat.le_refl _);have h3 := (hn.2.2 _ hA).2.1;have h4 := hm _ hA;simp only [Zjr];omega
   ·simp
theorem VA {x t sp k L} (h : TrpOk x t sp) (hl : LabR k L) (b : Bool) : 0 <= ZT t L b /\ ZT t L b <= 12288 := by
 have := h.rst;have := hl.rdy;unfold ZT
 split <;> omega
theorem Jp {k L} (hl : LabR k L) (b : Bool) : -(12288 * (k : Int)) <= W9 L b /\ W9 L b <= 4096 := by
 have := hl.snc;unfold W9
 split <;> omega
theorem Zbb {x t sp k L} (h : TrpOk x t sp) (hl : LabR k L) (b : Bool) : (0 <= (goL x t sp k (ZT t L b)).1 /\ (goL x t sp k (ZT t L b)).1 <= 1107369984) /\ (0 <= (goL x t sp k (ZT t L b)).2.1 /\ (goL x t sp k (ZT t L b)).2.1 <= 10000) := by
 have := VA h hl b;exact Zkr h.net h.mil (by omega)
theorem W4 {k d b s} : (Xu k d b s).miles = s.miles := by unfold Xu; split <;> rfl
theorem Zaf {k d b s} : (Xu k d b s).fin = s.fin := by unfold Xu; split <;> rfl
theorem Vg {k d b s} : (Xu k d b s).times.length = s.times.length := by unfold Xu; split <;> simp [Zh9]
theorem ZaR {x t sp k L b} (h : TrpOk x t sp) (hk : k <= sp.length) (hl : LabR k L) (he : (Y2 x t sp k L b).2 = 0) : LabR (k + 1) (Y2 x t sp k L b).1 := by
 have h1 := VA h hl b;have h2 := Jp hl b;obtain ⟨h3, h4⟩ := Zbb h hl b;have h5 := hl.mil;have h6 := h.opn;have h7 := h.drv;have hm : (Xu k (ZT t L b) b L.she).miles = L.she.miles := W4;unfold Y2 at he ⊢
 generalize goL x t sp k (ZT t L b) = g at *
 generalize ZT t L b = d at *
 generalize W9 L b = s at *
 generalize Xu k d b L.she = m at *
 unfold W8 at he ⊢
 split at he
 ·simp at he
 ·rename_i c1;rw [if_neg c1]
  split at he
  ·rename_i c2;rw [if_pos c2]
   split at he
   ·simp at he
   ·rename_i c3;rw [if_neg c3]
    split at he
    ·simp at he
    ·rename_i c4;rw [if_neg c4];exact ⟨by simp only; omega, by simp only; omega, by simp only; omega⟩
  ·rename_i c2;rw [if_neg c2];have h8 := h.stp _ (Z7 (show k < sp.length by omega))
   split at he
   ·simp at he
   ·rename_i c3;rw [if_neg c3]
    split at he
    ·simp at he
    ·rename_i c4;rw [if_neg c4];exact ⟨by simp only; omega, by simp only; omega, by simp only; omega⟩
theorem QX {x t sp k L b} (hl : L.she.times.length = k) (he : (Y2 x t sp k L b).2 = 0) (hk : k < sp.length) : (Y2 x t sp k L b).1.she.times.length = k + 1 := by
 have hm : (Xu k (ZT t L b) b L.she).times.length = L.she.times.length := Vg;unfold Y2 at he ⊢
 generalize goL x t sp k (ZT t L b) = g at *
 generalize ZT t L b = d at *
 generalize W9 L b = s at *
 generalize Xu k d b L.she = m at *
 have hk2 : ¬ k = sp.length := by omega
 unfold W8 at he ⊢;simp only [if_neg hk2] at he ⊢
 split at he
 ·simp at he
 ·rename_i c1;rw [if_neg c1]
  split at he
  ·simp at he
  ·rename_i c3;rw [if_neg c3]
   split at he
   ·simp at he
   ·rename_i c4;rw [if_neg c4];simp [hm, hl]
def ZI (m x : Lab) : Bool := decide (m.ready = x.ready) && decide (m.since <= x.since)
theorem Zdp {x t sp k} {m y z : Lab} {b : Bool} (hb : ZI m y = true) (hn : X1 x t sp k y b = some z) : ∃ u, X1 x t sp k m b = some u /\ ZI u z = true := by
 simp only [ZI, Bool.and_eq_true, decide_eq_true_eq] at hb;obtain ⟨hb1, hb2⟩ := hb
 have hd : ZT t m b = ZT t y b := by simp [ZT, hb1]
 have hs : W9 m b <= W9 y b := by unfold W9; split <;> omega
 unfold X1 at hn ⊢;unfold Y2 at hn ⊢;rw [hd]
 generalize goL x t sp k (ZT t y b) = g at *
 generalize ZT t y b = d at *
 generalize W9 y b = s at *
 generalize W9 m b = s2 at *
 generalize Xu k d b y.she = h1 at *
 generalize Xu k d b m.she = h2 at *
 unfold W8 at hn ⊢
 by_cases c1 : g.2.2 = 0
 ·by_cases c2 : k = sp.length
  ·simp only [c1, c2, not_true, if_true, if_false] at hn ⊢
   by_cases c3 : t.cls < g.1
   ·simp [c3] at hn
   ·by_cases c4 : t.drive < s + g.1 - d
    ·simp [c3, c4] at hn
    ·have c5 : ¬ t.drive < s2 + g.1 - d := by omega
     simp only [c3, c4, if_false, if_true, Option.some.injEq] at hn;subst hn;refine ⟨_, by simp only [c3, c5, if_false, if_true]; rfl, ?_⟩;simp [ZI]; omega
  ·simp only [c1, c2, not_true, if_true, if_false] at hn ⊢
   by_cases c3 : (nth sp k).cls < max g.1 (nth sp k).opn
   ·simp [c3] at hn
   ·by_cases c4 : t.drive < s + g.1 - d
    ·simp [c3, c4] at hn
    ·have c5 : ¬ t.drive < s2 + g.1 - d := by omega
     simp only [c3, c4, if_false, if_true, Option.some.injEq] at hn;subst hn;refine ⟨_, by simp only [c3, c5, if_false, if_true]; rfl, ?_⟩;simp [ZI]; omega
 ·simp [c1] at hn
def WJ (L : Lab) : Int := L.she.fin
theorem ZbK {x t sp} {y z : Lab} {b : Bool} (hn : X1 x t sp sp.length y b = some z) : z.she.fin = z.ready := by
 unfold X1 Y2 W8 at hn
 by_cases c1 : (goL x t sp sp.length (ZT t y b)).2.2 = 0
 ·by_cases c3 : t.cls < (goL x t sp sp.length (ZT t y b)).1
  ·simp [c1, c3] at hn
  ·by_cases c4 : t.drive < W9 y b + (goL x t sp sp.length (ZT t y b)).1 - ZT t y b
   ·simp [c1, c3, c4] at hn
   ·simp only [c1, c3, c4, not_true, if_true, if_false, Option.some.injEq] at hn;subst hn; rfl
 ·simp [c1] at hn
theorem Kp {x t sp} (ch : Nat -> List Bool) (L : Lab) : fmL WJ none (Ux ZI (X1 x t sp) ch (sp.length + 1) 0 [L]) = fmL WJ none (Yq (X1 x t sp) ch (sp.length + 1) 0 L) := by
 have h := Zfr WJ ZI (X1 x t sp) ch (n := sp.length + 1) (Inv := fun k y => k = sp.length + 1 -> y.she.fin = y.ready)
  (fun k y b z _ hn hk => by
   have : k = sp.length := by omega
   subst this
   exact ZbK hn) (fun k m y b z _ _ hb hn => Zdp hb hn)
  (fun m y h1 h2 hb => by
   simp only [ZI, Bool.and_eq_true, decide_eq_true_eq] at hb
   rw [WJ, WJ, h1 rfl, h2 rfl]; omega) (sp.length + 1) 0 [L] (by omega) (fun y _ hk => by omega)
 rw [h]; simp
def chF (r : List Bool) (k : Nat) : List Bool := match r[k]? with | some b => [b] | none => [false, true]
theorem ZfB (r : List Bool) (n : Nat) (hn : r.length <= n) : ∀ (j k : Nat), k + j = r.length -> Zhd (chF r) (n - k) k = (X8 (List.replicate (n - r.length) false)).map (r.drop k ++ ·)
 | 0, k, h => by
  have hk : k = r.length := by omega
  subst hk;rw [ZcP (n := n) _ _ _ (fun q hq => by simp [chF, List.getElem?_eq_none hq])];simp
 | j + 1, k, h => by
  have e : n - k = (n - (k + 1)) + 1 := by omega
  have hlt : k < r.length := by omega
  rw [e, Zhd, ZfB r n hn j (k + 1) (by omega)]
  have : chF r k = [r[k]] := by simp [chF, hlt]
  rw [this, List.flatMap_cons, List.flatMap_nil, List.append_nil, List.map_map, List.drop_eq_getElem_cons hlt]
  rfl
theorem KG (r : List Bool) (n : Nat) (hn : r.length <= n) : Zhd (chF r) n 0 = (X8 (List.replicate (n - r.length) false)).map (r ++ ·) := by
 have := ZfB r n hn r.length 0 (by omega);simpa using this
def YN (r : List Bool) (n : Nat) : List (List Bool) := (X8 (List.replicate (n - r.length) false)).map (r ++ ·)
def WW (r : List Bool) (n : Nat) : List Bool := r ++ List.replicate (n - r.length) false
def Uw (x : Inst) (t : Typ) (sp : List Stp) (st : Int) (r : List Bool) : She × Int :=
 match fmL WJ none ((YN r (sp.length + 1)).filterMap (Us (X1 x t sp) 0 (XZ t st))) with
 | some L => (L.she, 0)
 | none => (zShe, (X3 x t sp 0 (XZ t st) (WW r (sp.length + 1))).2)
theorem Zar {x t sp} {st : Int} {r : List Bool} (hr : r.length <= sp.length + 1) : Uw x t sp st r = match fmL WJ none (Ux ZI (X1 x t sp) (chF r) (sp.length + 1) 0 [XZ t st]) with
 | some L => (L.she, 0)
 | none => (zShe, (X3 x t sp 0 (XZ t st) (WW r (sp.length + 1))).2) := by
 rw [Kp, Yq, KG r _ hr]; rfl
theorem Zb8 {x t sp} : ∀ (bs : List Bool) (k : Nat) (L : Lab), L.she.times.length = k -> k + bs.length = sp.length + 1 -> 0 < bs.length -> (X3 x t sp k L bs).2 = 0 -> (X3 x t sp k L bs).1.she.times.length = sp.length
 | [], k, L, h1, h2, h3, h => by simp at h3
 | b :: bs, k, L, h1, h2, _, h => by
  rw [X3] at h ⊢
  by_cases h4 : (Y2 x t sp k L b).2 = 0
  ·simp only [h4, if_true] at h ⊢
   cases bs with
   | nil =>
    simp at h2;subst h2;rw [X3];unfold Y2 at h4 ⊢;unfold W8 at h4 ⊢
    split at h4
    ·simp at h4
    ·rename_i c1;rw [if_neg c1];simp only [if_true] at h4 ⊢
     split at h4
     ·simp at h4
     ·rename_i c2;rw [if_neg c2]
      split at h4
      ·simp at h4
      ·rename_i c3;rw [if_neg c3];simp [Vg, h1]
   | cons b2 bs =>
    simp at h2;exact Zb8 (b2 :: bs) (k + 1) _ (QX h1 h4 (by omega)) (by simp; omega) (by simp) h
  ·simp [h4] at h
theorem bestF_len {x t sp} {st : Int} {r : List Bool} (hr : r.length <= sp.length + 1) (h : (Uw x t sp st r).2 = 0) : (Uw x t sp st r).1.times.length = sp.length := by
 unfold Uw at h ⊢
 cases hf : fmL WJ none ((YN r (sp.length + 1)).filterMap (Us (X1 x t sp) 0 (XZ t st))) with
 | none =>
  rw [hf] at h;simp only at h ⊢;exfalso
  have hm : WW r (sp.length + 1) ∈ YN r (sp.length + 1) := by
   unfold YN WW;rw [fromB_next];simp
  have h2 : Us (X1 x t sp) 0 (XZ t st) (WW r (sp.length + 1)) = some (X3 x t sp 0 (XZ t st) (WW r (sp.length + 1))).1 := by rw [Wy, if_pos h]
  have h3 : (X3 x t sp 0 (XZ t st) (WW r (sp.length + 1))).1 ∈ (YN r (sp.length + 1)).filterMap (Us (X1 x t sp) 0 (XZ t st)) := List.mem_filterMap.2 ⟨_, hm, h2⟩;generalize (YN r (sp.length + 1)).filterMap (Us (X1 x t sp) 0 (XZ t st)) = l at hf h3
  cases l with
  | nil => simp at h3
  | cons a l =>
   rw [fmL] at hf;obtain ⟨z, e, _⟩ := Vc WJ l a;rw [e] at hf
   cases hf
 | some L =>
  simp only;have hm := fmL_mem _ _ hf;obtain ⟨bs, hbs, hrun⟩ := List.mem_filterMap.1 hm;rw [Wy] at hrun
  split at hrun
  ·rename_i h5;simp at hrun;subst hrun;obtain ⟨q, hq, rfl⟩ := List.mem_map.1 hbs;have hql := fromB_len _ _ hq;simp at hql;exact Zb8 _ 0 _ rfl (by simp [hql]; omega) (by simp [hql]; omega) h5
  ·cases hrun
where
 fmL_mem : ∀ (l : List Lab) (L : Lab), fmL WJ none l = some L -> L ∈ l
 | [], L, h => by simp [fmL] at h
 | a :: l, L, h => by
  rw [fmL] at h;exact fmL_mem2 l a L h
 fmL_mem2 : ∀ (l : List Lab) (a L : Lab), fmL WJ (some a) l = some L -> L ∈ a :: l
 | [], a, L, h => by simp [fmL] at h; subst h; simp
 | y :: l, a, L, h => by
  rw [fmL] at h
  split at h
  ·have := fmL_mem2 l y L h; simp only [List.mem_cons] at this ⊢; rcases this with h | h <;> simp [h]
  ·have := fmL_mem2 l a L h; simp only [List.mem_cons] at this ⊢; rcases this with h | h <;> simp [h]
 fromB_len : ∀ (l q : List Bool), q ∈ X8 l -> q.length = l.length
 | [], q, h => by simp [X8] at h; subst h; rfl
 | b :: bs, q, h => by
  rw [X8] at h
  split at h
  ·obtain ⟨q', hq, rfl⟩ := List.mem_map.1 h;simp [fromB_len bs q' hq]
  ·rcases List.mem_append.1 h with h | h
   ·obtain ⟨q', hq, rfl⟩ := List.mem_map.1 h;simp [fromB_len bs q' hq]
   ·obtain ⟨q', hq, rfl⟩ := List.mem_map.1 h;simp [fromB_len (List.replicate bs.length false) q' hq]
 termination_by l => l.length
 decreasing_by all_goals simp
def XL (x : Inst) (v : Vis) : Stp := if v.drp = true then (nth x.orders v.order.toNat).drp else (nth x.orders v.order.toNat).pick
def ZV (x : Inst) (l : List Vis) : List Stp := l.map (XL x)
def Ye (t : Typ) (s : Int) : Bool := decide (0 <= t.skills) && decide (0 <= s) && (List.range 63).all fun i => !s.toNat.testBit i || t.skills.toNat.testBit i
def YR (a c : List Int) : Bool := decide (a.length = c.length) && (List.range a.length).all fun i => decide (nth a i <= nth c i)
def VF (x : Inst) (c : List Int) (l : List Vis) : Bool := (List.range (l.length + 1)).all fun n => YR (Wl x l n) c
def Z0 (x : Inst) (r : Rte) : Typ := nth x.types r.typ.toNat
def Y4 (l : List Vis) (i : Nat) : Bool := !((l.take i).any fun v => decide (v.order = (nth l i).order))
def ZH (k t : Int) : Bool := decide (k ≠ -1) && decide (k ≠ t)
def chgF (x : Inst) (l : List Vis) (t : Int) : Nat -> Int × Int
 | 0 => (0, 0)
 | n + 1 => if Y4 l n = true then ((chgF x l t n).1 + (if ZH (nth x.orders (nth l n).order.toNat).now t = true then 1 else 0), (chgF x l t n).2 + (if ZH (nth x.orders (nth l n).order.toNat).last t = true then 1 else 0)) else chgF x l t n
def ZjX (x : Inst) (r : Rte) (s : She) : Sco :=
 ⟨(Z0 x r).fixed + (Z0 x r).perMile * s.miles + (Z0 x r).perTick * (s.fin - (Z0 x r).opn), (chgF x r.visits r.typ r.visits.length).1, (chgF x r.visits r.typ r.visits.length).2, (s.fin - (Z0 x r).opn).tdiv 64 * (s.fin - (Z0 x r).opn).tdiv 64⟩
def XP (x : Inst) (r : Rte) : Int :=
 if ¬ (0 <= r.typ /\ r.typ < (x.types.length : Int)) then 2
 else if ¬ ZQ x r.visits = 0 then ZQ x r.visits
 else if (r.visits.any fun v => !Ye (Z0 x r) (nth x.orders v.order.toNat).skills) = true then 18
 else if VF x (Z0 x r).cap r.visits = false then 17
 else if ¬ (0 <= r.start /\ r.start <= 4096 /\ r.rests.length <= r.visits.length + 1) then 2
 else 0
def Xk (x : Inst) (r : Rte) : She × Int := Uw x (Z0 x r) (ZV x r.visits) r.start r.rests
def Z2 (x : Inst) (r : Rte) : Int := if XP x r = 0 then (Xk x r).2 else XP x r
def W1 (x : Inst) (r : Rte) : She := if Z2 x r = 0 then (Xk x r).1 else zShe
def QD (x : Inst) (r : Rte) : Sco := if Z2 x r = 0 then ZjX x r (Xk x r).1 else zSco
def Zyr : Stp := ⟨0, 0, 0, 0⟩
def inB (x : Inst) (v : Vis) : Bool := decide (0 <= v.order) && decide (v.order < (x.orders.length : Int))
def J6 (x : Inst) (v : Vis) : Bool := inB x v && decide (0 <= (XL x v).place)
def JM (x : Inst) (v : Vis) : Stp := if inB x v = true then XL x v else Zyr
theorem Zch (x : Inst) (v : Vis) (ho : x.orders.length <= 1048576) : PT 287 [.p (ZG x), .p (eVis v)] [.p (ZhB (JM x v)), .p (.bool (J6 x v))] := by
 refine Zc [] Tryz.func287 rfl Zte ?_;simp (disch := omega) only [Tryz.f287, go_sem, seval];refine gF ?_ ?_ <;> intro h1 <;> simp (disch := omega) only [Sh.out h1, go_sem, seval]
 ·have e : inB x v = false := by
   have : ¬ 0 <= v.order := by omega
   simp [inB, this]
  simp only [JM, J6, e, Bool.false_and, Bool.false_eq_true, if_false, Zyr];exact we
 ·refine cD ?_ ?_ <;> intro h2 <;> simp (disch := omega) only [Sh.out h2, go_sem, seval]
  ·have e : inB x v = false := by
    have : ¬ v.order < (x.orders.length : Int) := by omega
    simp [inB, this]
   simp only [JM, J6, e, Bool.false_and, Bool.false_eq_true, if_false, Zyr];exact we
  ·have e : inB x v = true := by simp [inB]; omega
   have hi : v.order.toNat < x.orders.length := by omega
   refine cD ?_ ?_ <;> intro hd <;> simp (disch := omega) only [Sh.out hd, go_sem, seval]
   ·have hG : JM x v = (nth x.orders v.order.toNat).drp := by simp [JM, e, XL, hd]
    have hV : J6 x v = decide (0 <= (nth x.orders v.order.toNat).drp.place) := by simp [J6, e, XL, hd]
    rw [hG, hV];refine ZcC (.cons 0 (.cons 1 (.cons 2 (.cons 3 (.cons 4 (.cons 5 .nil .nil) .nil) (.cons 4 (.cons 3 (.cons 5 .nil .nil) .nil) .nil)) (.cons 4 (.cons 2 (.cons 3 (.cons 5 .nil .nil) .nil) .nil) .nil)) (.cons 4 (.cons 1 (.cons 2 (.cons 3 (.cons 5 .nil .nil) .nil) .nil) .nil) .nil)) (.cons 1 (.cons 0 (.cons 2 (.cons 3 (.cons 4 (.cons 5 .nil .nil) .nil) (.cons 4 (.cons 3 (.cons 5 .nil .nil) .nil) .nil)) (.cons 4 (.cons 2 (.cons 3 (.cons 5 .nil .nil) .nil) .nil) .nil)) (.cons 2 (.cons 0 (.cons 3 (.cons 4 (.cons 5 .nil .nil) .nil) (.cons 4 (.cons 3 (.cons 5 .nil .nil) .nil) .nil)) (.cons 3 (.cons 0 (.cons 4 (.cons 5 .nil .nil) .nil) .nil) .nil)) .nil)) .nil)) mixed (by kernel_rfl) ?_
    simp (disch := omega) only [go_sem, seval]
    repeat' first
     | refine K9 ?_ ?_
     | exact we
     | simp (disch := omega) only [go_sem, seval]
   ·have hG : JM x v = (nth x.orders v.order.toNat).pick := by simp [JM, e, XL, hd]
    have hV : J6 x v = decide (0 <= (nth x.orders v.order.toNat).pick.place) := by simp [J6, e, XL, hd]
    rw [hG, hV];refine ZcC (.cons 0 (.cons 1 (.cons 2 (.cons 3 (.cons 4 (.cons 5 .nil .nil) .nil) (.cons 4 (.cons 3 (.cons 5 .nil .nil) .nil) .nil)) (.cons 4 (.cons 2 (.cons 3 (.cons 5 .nil .nil) .nil) .nil) .nil)) (.cons 4 (.cons 1 (.cons 2 (.cons 3 (.cons 5 .nil .nil) .nil) .nil) .nil) .nil)) (.cons 1 (.cons 0 (.cons 2 (.cons 3 (.cons 4 (.cons 5 .nil .nil) .nil) (.cons 4 (.cons 3 (.cons 5 .nil .nil) .nil) .nil)) (.cons 4 (.cons 2 (.cons 3 (.cons 5 .nil .nil) .nil) .nil) .nil)) (.cons 2 (.cons 0 (.cons 3 (.cons 4 (.cons 5 .nil .nil) .nil) (.cons 4 (.cons 3 (.cons 5 .nil .nil) .nil) .nil)) (.cons 3 (.cons 0 (.cons 4 (.cons 5 .nil .nil) .nil) .nil) .nil)) .nil)) .nil)) mixed (by kernel_rfl) ?_
    simp (disch := omega) only [go_sem, seval]
    repeat' first
     | refine K9 ?_ ?_
     | exact we
     | simp (disch := omega) only [go_sem, seval]
def Y9 (x : Inst) (r : Rte) : Bool := (decide (0 <= r.typ) && decide (r.typ < (x.types.length : Int)) && decide (0 <= r.start) && decide (r.start <= 4096) && decide (r.visits.length <= 20)) && r.visits.all (J6 x)
theorem Jv (x : Inst) (r : Rte) (ho : x.orders.length <= 1048576) (ht : x.types.length <= 1048576) (hl : r.visits.length <= 1048576) : PC 228 [.p (ZG x), .p (YZ r)] (.bool (Y9 x r)) := by
 refine Za Tryz.func228 rfl Ztw ?_;simp (disch := omega) only [Tryz.f228, go_sem, seval];refine gF ?_ ?_ <;> intro h1 <;> simp (disch := omega) only [Sh.out h1, go_sem, seval]
 ·simp [Y9]; omega
 ·refine gF ?_ ?_ <;> intro h2 <;> simp (disch := omega) only [Sh.out h2, go_sem, seval]
  ·simp [Y9]; omega
  ·refine gF ?_ ?_ <;> intro h3 <;> simp (disch := omega) only [Sh.out h3, go_sem, seval]
   ·simp [Y9]; omega
   ·refine gF ?_ ?_ <;> intro h4 <;> simp (disch := omega) only [Sh.out h4, go_sem, seval]
    ·simp [Y9]; omega
    ·refine cD ?_ ?_ <;> intro h5 <;> simp (disch := omega) only [Sh.out h5, go_sem, seval]
     ·simp [Y9]; omega
     ·refine Zf [2, 3] (fun k : Nat => [(5, .p (.int .i64 k))]) (fun _ => [Zb x, Zw r]) (fun k => k <= r.visits.length /\ ∀ j, j < k -> J6 x (nth r.visits j) = true) (fun k => r.visits.length - k) 0 (by simp) (Weak.mk ?_) ?_
      ·simp (disch := omega) only [Zb, Zw, go_sem, seval]
      ·rintro k ⟨hk, hno⟩;simp (disch := omega) only [Zb, Zw, go_sem, seval];refine cD ?_ ?_ <;> intro h <;> simp (disch := omega) only [Sh.out h, go_sem, seval]
       ·have hk2 : k < r.visits.length := by omega
        refine Xq [10, 11] 12 mixed (by kernel_rfl) (by kernel_rfl) (by kernel_rfl) (by simp) ?_;simp (disch := omega) only [go_sem, seval];refine ZaB (Zch x (nth r.visits k) ho) ?_;simp (disch := omega) only [go_sem, seval];refine ZX _ _ (by simp (disch := omega) only [go_sem, seval]; exact ⟨rfl, rfl⟩) ?_;simp (disch := omega) only [go_sem, seval];refine ZX _ _ (by simp (disch := omega) only [go_sem, seval]; exact ⟨rfl, rfl⟩) ?_;simp (disch := omega) only [go_sem, seval];refine cD ?_ ?_ <;> intro h6 <;> simp (disch := omega) only [Sh.out h6, go_sem, seval]
        ·have : r.visits.all (J6 x) = false := by
          rw [List.all_eq_false]; exact ⟨nth r.visits k, Zl hk2, by simpa using h6⟩
         simp [Y9, this]
        ·exact ⟨k + 1, ⟨by omega, Zh.2 ⟨hno, by simpa using h6⟩⟩, by omega, Weak.mk (by simp (disch := omega) only [Zb, Zw, go_sem, seval])⟩
       ·have hkl : k = r.visits.length := by omega
        subst hkl
        have : r.visits.all (J6 x) = true := by
         rw [List.all_eq_true];intro v hv;obtain ⟨j, hj, rfl⟩ := List.mem_iff_getElem.1 hv;rw [<- Ze hj]; exact hno j hj
        simp [Y9, this]; omega
@[go_sem high] theorem ZvY {k k' : IntKind} {a b : Int} : J9 false [.p (.int k a), .p (.int k' b)] = some (.int k (max a b)) := by
 simp only [J9]
 by_cases h : a < b
 ·simp [h]; omega
 ·simp [h]; omega
theorem ZdL {l : List Tim} {m : Tim} {d : Int} {b : Bool} : Zh9 (l ++ [m]) l.length d b = l ++ [{ m with dep := d, rest := b }] := by
 have : nth (l ++ [m]) l.length = m := by rw [Ze (by simp)]; simp
 rw [Zh9, this];simp
theorem ZeB {x : Inst} {t : Typ} {sp : List Stp} {k : Nat} {d s m : Int} {h : She} (hk : k < sp.length) (ho : (nth sp k).opn <= (nth sp k).cls) (hm : h.miles = m) :
  (V0 x t ⟨J7 t sp k, d, s, m⟩ (nth sp k).place (nth sp k).cls 14).2 = (W8 t sp k (goL x t sp k d) d s h).2 /\
  ((W8 t sp k (goL x t sp k d) d s h).2 = 0 -> (V0 x t ⟨J7 t sp k, d, s, m⟩ (nth sp k).place (nth sp k).cls 14).1 = ⟨(nth sp k).place, (goL x t sp k d).1, s + (goL x t sp k d).1 - d, m + (goL x t sp k d).2.1⟩ /\
   (W8 t sp k (goL x t sp k d) d s h).1 = ⟨max (goL x t sp k d).1 (nth sp k).opn + (nth sp k).serv, s + (goL x t sp k d).1 - d, { h with times_c := false, times := h.times ++ [⟨(goL x t sp k d).1, max (goL x t sp k d).1 (nth sp k).opn, 0, false⟩], miles := m + (goL x t sp k d).2.1 }⟩) := by
 have hne : ¬ k = sp.length := by omega
 have e : goN x.net t.prof (J7 t sp k) (nth sp k).place d = goL x t sp k d := by simp [goL, toF, hne]
 unfold V0 W8;simp only [e, if_neg hne];subst hm;generalize goL x t sp k d = g
 by_cases c1 : g.2.2 = 0
 ·by_cases c2 : (nth sp k).cls < g.1
  ·have c3 : (nth sp k).cls < max g.1 (nth sp k).opn := by omega
   simp [c1, c2, c3]
  ·have c3 : ¬ (nth sp k).cls < max g.1 (nth sp k).opn := by omega
   by_cases c4 : t.drive < s + g.1 - d
   ·simp [c1, c2, c3, c4]
   ·simp [c1, c2, c3, c4]
 ·simp [c1]
theorem ZgO {x : Inst} {t : Typ} {sp : List Stp} {d s m : Int} {h : She} (hm : h.miles = m) :
  (V0 x t ⟨J7 t sp sp.length, d, s, m⟩ t.dst t.cls 15).2 = (W8 t sp sp.length (goL x t sp sp.length d) d s h).2 /\
  ((W8 t sp sp.length (goL x t sp sp.length d) d s h).2 = 0 -> (V0 x t ⟨J7 t sp sp.length, d, s, m⟩ t.dst t.cls 15).1 = ⟨t.dst, (goL x t sp sp.length d).1, s + (goL x t sp sp.length d).1 - d, m + (goL x t sp sp.length d).2.1⟩ /\
   (W8 t sp sp.length (goL x t sp sp.length d) d s h).1 = ⟨(goL x t sp sp.length d).1, s + (goL x t sp sp.length d).1 - d, { h with fin := (goL x t sp sp.length d).1, miles := m + (goL x t sp sp.length d).2.1 }⟩) := by
 have e : goN x.net t.prof (J7 t sp sp.length) t.dst d = goL x t sp sp.length d := by simp [goL, toF]
 unfold V0 W8;simp only [e, if_true];subst hm;generalize goL x t sp sp.length d = g
 by_cases c1 : g.2.2 = 0
 ·by_cases c2 : t.cls < g.1
  ·simp [c1, c2]
  ·by_cases c4 : t.drive < s + g.1 - d
   ·simp [c1, c2, c4]
   ·simp [c1, c2, c4]
 ·simp [c1]
def Zt0 (s : StD) : AM.Obj := .cells [.p (.int .i64 s.place), .p (.int .i64 s.time), .p (.int .i64 s.driven), .p (.int .i64 s.miles)]
def QR (t : Typ) (sp : List Stp) (k : Nat) (L : Lab) (b : Bool) : StD := ⟨J7 t sp k, ZT t L b, W9 L b, L.she.miles⟩
theorem ZwM {g : FuncId} {args : List V} {a c : PV} {H : List AM.Obj} {K : V -> List AM.Obj -> Prop} (h : ACalls Tryz.prog g args [] fun x H' => ∃ b : PV, x = .tup [.p a, .p b, .p c] /\ H' = []) (k : ∀ b : PV, K (.tup [.p a, .p b, .p c]) H) (ha : refBs 0 args = true := by rfl) : ACalls Tryz.prog g args H K :=
 (h.behind ha H).mono fun x H' hq => by
  obtain ⟨y, H1, ⟨b, rfl, rfl⟩, rfl, rfl⟩ := hq;simpa [shV, J4] using k b
theorem Xh {x : Inst} {l : List Vis} : (ZV x l).length = l.length := by simp [ZV]
theorem Q1 {x : Inst} {l : List Vis} {k : Nat} (h : k < l.length) : nth (ZV x l) k = XL x (nth l k) := by
 rw [Ze (by simpa [ZV] using h), Ze h]; simp [ZV]
theorem ZmL (x : Inst) (r : Rte) (rests : List Bool) (c : Bool) (hok : TrpOk x (Z0 x r) (ZV x r.visits)) (ho : x.orders.length <= 1048576) (ht : x.types.length <= 1048576) (hne : 0 < r.visits.length) (hp : Y9 x r = true) (hl : rests.length = r.visits.length + 1) :
  ACalls Tryz.prog 288 [.p (ZG x), .p (YZ r), .p (.list c (rests.map eB))] [] fun y H' => ∃ d : PV, y = .tup [.p (ZgD (X3 x (Z0 x r) (ZV x r.visits) 0 (XZ (Z0 x r) r.start) rests).1.she), .p d, .p (.int .i64 (X3 x (Z0 x r) (ZV x r.visits) 0 (XZ (Z0 x r) r.start) rests).2)] /\ H' = [] := by
 have hp2 := hp;simp only [Y9, Bool.and_eq_true, decide_eq_true_eq] at hp2;obtain ⟨⟨⟨⟨⟨p1, p2⟩, p3⟩, p4⟩, p5⟩, p6⟩ := hp2;have hvis : ∀ k, k < r.visits.length -> J6 x (nth r.visits k) = true := fun k hk => List.all_eq_true.1 p6 _ (Zl hk)
 have hstop : ∀ k, k < r.visits.length -> JM x (nth r.visits k) = nth (ZV x r.visits) k := fun k hk => by
  have := hvis k hk;simp only [J6, Bool.and_eq_true] at this;rw [JM, if_pos this.1, Q1 hk]
 have hti : r.typ.toNat < x.types.length := by omega
 have hopn := hok.opn;have hrst := hok.rst;have htd : Z0 x r = nth x.types r.typ.toNat := rfl
 generalize hT : Z0 x r = t at *
 have hsl : (ZV x r.visits).length = r.visits.length := Xh
 generalize hS : ZV x r.visits = sp at *
 refine Zc [26] Tryz.func288 rfl Zpy ?_;simp (disch := omega) only [Tryz.f288, go_sem, seval];refine (Jv x r ho ht (by omega)).use ?_;simp (disch := omega) only [go_sem, seval];rw [hp];simp (disch := omega) only [go_sem, seval];refine cD ?_ ?_ <;> intro h0 <;> simp (disch := omega) only [Sh.out h0, <- htd, go_sem, seval]
 ·omega
 ·refine Xq [13] 14 mixed (by kernel_rfl) (by kernel_rfl) (by kernel_rfl) (by simp) ?_;simp (disch := omega) only [go_sem, seval];refine Zm (ZcQ t ⟨t.src, max t.opn r.start, 0, 0⟩ (nth rests 0) (by simp only; omega)) ?_;simp (disch := omega) only [go_sem, seval];refine ZX _ _ (by simp (disch := omega) only [go_sem, seval]; exact ⟨rfl, rfl⟩) ?_;simp (disch := omega) only [go_sem, seval];refine Xq [6] 7 mixed (by kernel_rfl) (by kernel_rfl) (by kernel_rfl) (by simp) ?_;simp (disch := omega) only [go_sem, seval];refine ZX _ _ (by simp (disch := omega) only [go_sem, seval]; exact ⟨rfl, rfl⟩) ?_
  simp (disch := omega) only [go_sem, seval];have hL0 : LabR 0 (XZ t r.start) := ⟨by simp only [XZ]; omega, by simp [XZ], by simp [XZ, zShe]⟩
  have hS0 : ZaX t ⟨t.src, max t.opn r.start, 0, 0⟩ (nth rests 0) = QR t sp 0 (XZ t r.start) (nth rests 0) := by
   simp only [ZaX, QR, J7, ZT, W9, XZ, zShe, if_true]
   split <;> rfl
  simp (disch := omega) only [hS0, go_sem, seval]
  refine ZY [26] [2, 3, 4, 6, 9, 10, 11] (fun q : Nat × Lab × List Int => [(12, .sl 7 0 q.2.2.length q.2.2.length), (13, .p (.int .i64 q.1))])
   (fun q => [Zb x, Zw r, .cells [.p (.bool false), .p (.int .i64 0), .p (.list true []), .p (.int .i64 0), .p (.int .i64 0)], Xm t, Zt0 (QR t sp q.1 q.2.1 (nth rests q.1)),
    .cells [.p (.bool (Xu q.1 (ZT t q.2.1 (nth rests q.1)) (nth rests q.1) q.2.1.she).rest), .p (.int .i64 (Xu q.1 (ZT t q.2.1 (nth rests q.1)) (nth rests q.1) q.2.1.she).dep), .sl 6 0 (Xu q.1 (ZT t q.2.1 (nth rests q.1)) (nth rests q.1) q.2.1.she).times.length (Xu q.1 (ZT t q.2.1 (nth rests q.1)) (nth rests q.1) q.2.1.she).times.length, .p (.int .i64 0), .p (.int .i64 0)],
    .elems 4 ((Xu q.1 (ZT t q.2.1 (nth rests q.1)) (nth rests q.1) q.2.1.she).times.map eTim), .elems 1 (q.2.2.map eI)])
   (fun q => q.1 <= r.visits.length /\ X3 x t sp 0 (XZ t r.start) rests = X3 x t sp q.1 q.2.1 (rests.drop q.1) /\ LabR q.1 q.2.1 /\ q.2.1.she.times.length = q.1 /\ q.2.1.she.fin = 0 /\ (0 < q.1 -> q.2.1.she.times_c = false) /\ q.2.2.length = q.1) (fun q => r.visits.length - q.1) (0, XZ t r.start, [])
   ⟨by simp, by simp, hL0, by simp [XZ, zShe], by simp [XZ, zShe], by simp, by simp⟩ ((Weak.nilC (o := 5) (j := 2) 4 rfl rfl (by simp)).trans (Weak.ofNil 12 1 rfl (by simp) (Weak.mk ?_))) ?_
  ·simp (disch := omega) only [Zb, Zw, Xm, Zt0, QR, J7, Xu, XZ, zShe, List.map_nil, List.length_nil, List.set_cons_succ, List.set_cons_zero, List.cons_append, List.nil_append, go_sem, seval]
  ·rintro ⟨k, L, ds⟩ ⟨hk, hrun, hL, hlen, hfin, hclip, hds⟩;simp only at hk hrun hL hlen hfin hclip hds
   have hmlen : (Xu k (ZT t L (nth rests k)) (nth rests k) L.she).times.length = k := by rw [Vg]; exact hlen
   have hd := VA hok hL (nth rests k);have hs := Jp hL (nth rests k);have hg := Zbb hok hL (nth rests k);have hmi := hL.mil
   generalize hm : Xu k (ZT t L (nth rests k)) (nth rests k) L.she = m at *
   have hmm : m.miles = L.she.miles := by rw [<- hm, W4]
   have hmf : m.fin = 0 := by rw [<- hm, Zaf, hfin]
   have hdrop : rests.drop k = nth rests k :: rests.drop (k + 1) := by rw [List.drop_eq_getElem_cons (by omega), Ze (by omega)]
   have hnx : Y2 x t sp k L (nth rests k) = W8 t sp k (goL x t sp k (ZT t L (nth rests k))) (ZT t L (nth rests k)) (W9 L (nth rests k)) m := by rw [Y2, hm]
   rw [hdrop, X3] at hrun;simp (disch := omega) only [Zb, Zw, Xm, Zt0, go_sem, seval];refine cD ?_ ?_ <;> intro h <;> simp (disch := omega) only [Sh.out h, go_sem, seval]
   ·have hk2 : k < r.visits.length := by omega
    have hsp := hok.stp _ (Z7 (show k < sp.length by omega));refine Xq [10, 11] 12 mixed (by kernel_rfl) (by kernel_rfl) (by kernel_rfl) (by simp) ?_;simp (disch := omega) only [go_sem, seval];refine ZaB (Zch x (nth r.visits k) ho) ?_;simp (disch := omega) only [go_sem, seval];refine ZX _ _ (by simp (disch := omega) only [go_sem, seval]; exact ⟨rfl, rfl⟩) ?_;simp (disch := omega) only [go_sem, seval];refine ZX _ _ (by simp (disch := omega) only [go_sem, seval]; exact ⟨rfl, rfl⟩) ?_;simp (disch := omega) only [hstop k hk2, go_sem, seval];obtain ⟨f1, f2⟩ := ZeB (x := x) (t := t) (d := ZT t L (nth rests k)) (s := W9 L (nth rests k)) (h := m) (show k < sp.length by omega) hsp.2.1 hmm
    have he2 : goN x.net t.prof (J7 t sp k) (nth sp k).place (ZT t L (nth rests k)) = goL x t sp k (ZT t L (nth rests k)) := by
     have hne : ¬ k = sp.length := by omega
     simp [goL, toF, hne]
    refine Xs (Zco x t (QR t sp k L (nth rests k)) (nth sp k).place (nth sp k).cls 14 hok.net ?_ ?_ ?_ ?_) ?_
    ·simp only [QR]; omega
    ·simp only [QR, Sml]; omega
    ·simp only [QR, Sml]; omega
    ·simp only [QR, Sml]; rw [he2]; omega
    have f1' : (V0 x t (QR t sp k L (nth rests k)) (nth sp k).place (nth sp k).cls 14).2 = (Y2 x t sp k L (nth rests k)).2 := by rw [hnx, <- f1]; rfl
    simp (disch := omega) only [go_sem, seval];rw [f1'];refine cD ?_ ?_ <;> intro h3 <;> simp (disch := omega) only [Sh.out h3, go_sem, seval]
    ·rw [if_neg h3] at hrun;rw [hrun];simp only [WC, zShe];exact ⟨_, _, Weak.mk (by simp (disch := omega) only [List.map_nil, go_sem, seval]), .list true [], rfl, rfl⟩
    ·have h3' : (Y2 x t sp k L (nth rests k)).2 = 0 := Classical.not_not.1 h3;rw [if_pos h3'] at hrun;have hL' := ZaR hok (by omega) hL h3';rw [hnx] at h3';obtain ⟨f3, f4⟩ := f2 h3';have f3' : (V0 x t (QR t sp k L (nth rests k)) (nth sp k).place (nth sp k).cls 14).1 = ⟨(nth sp k).place, (goL x t sp k (ZT t L (nth rests k))).1, W9 L (nth rests k) + (goL x t sp k (ZT t L (nth rests k))).1 - ZT t L (nth rests k), L.she.miles + (goL x t sp k (ZT t L (nth rests k))).2.1⟩ := f3
     have hL2 : (Y2 x t sp k L (nth rests k)).1 = ⟨max (goL x t sp k (ZT t L (nth rests k))).1 (nth sp k).opn + (nth sp k).serv, W9 L (nth rests k) + (goL x t sp k (ZT t L (nth rests k))).1 - ZT t L (nth rests k), { m with times_c := false, times := m.times ++ [⟨(goL x t sp k (ZT t L (nth rests k))).1, max (goL x t sp k (ZT t L (nth rests k))).1 (nth sp k).opn, 0, false⟩], miles := L.she.miles + (goL x t sp k (ZT t L (nth rests k))).2.1 }⟩ := by rw [hnx]; exact f4
     simp (disch := omega) only [f3', go_sem, seval];refine Xq [13] 14 mixed (by kernel_rfl) (by kernel_rfl) (by kernel_rfl) (by simp) ?_;simp (disch := omega) only [go_sem, seval];refine ZX _ _ (by simp (disch := omega) only [go_sem, seval]; exact ⟨rfl, rfl⟩) ?_;simp (disch := omega) only [go_sem, seval]
     generalize (Y2 x t sp k L (nth rests k)).1 = L2 at *
     have hS1 : ZaX t ⟨(nth sp k).place, max (goL x t sp k (ZT t L (nth rests k))).1 (nth sp k).opn + (nth sp k).serv, W9 L (nth rests k) + (goL x t sp k (ZT t L (nth rests k))).1 - ZT t L (nth rests k), L.she.miles + (goL x t sp k (ZT t L (nth rests k))).2.1⟩ (nth rests (k + 1)) = QR t sp (k + 1) L2 (nth rests (k + 1)) := by
      rw [hL2];simp only [ZaX, QR, J7, ZT, W9, Nat.add_sub_cancel, if_neg (show ¬ k + 1 = 0 by omega)]
      split <;> rfl
     have hM : Xu (k + 1) (ZT t L2 (nth rests (k + 1))) (nth rests (k + 1)) L2.she = { m with times_c := false, times := m.times ++ [⟨(goL x t sp k (ZT t L (nth rests k))).1, max (goL x t sp k (ZT t L (nth rests k))).1 (nth sp k).opn, ZT t L2 (nth rests (k + 1)), nth rests (k + 1)⟩], miles := L.she.miles + (goL x t sp k (ZT t L (nth rests k))).2.1 } := by
      have he : L2.she = { m with times_c := false, times := m.times ++ [⟨(goL x t sp k (ZT t L (nth rests k))).1, max (goL x t sp k (ZT t L (nth rests k))).1 (nth sp k).opn, 0, false⟩], miles := L.she.miles + (goL x t sp k (ZT t L (nth rests k))).2.1 } := by rw [hL2]
      rw [he, Xu, if_neg (by omega), Nat.add_sub_cancel];simp only [<- hmlen, ZdL]
     have hd2 := VA hok hL' (nth rests (k + 1));refine ZA 8 mixed (by kernel_rfl) (by kernel_rfl) ?_;simp (disch := omega) only [go_sem, seval];refine Zm (ZcQ t ⟨(nth sp k).place, max (goL x t sp k (ZT t L (nth rests k))).1 (nth sp k).opn + (nth sp k).serv, W9 L (nth rests k) + (goL x t sp k (ZT t L (nth rests k))).1 - ZT t L (nth rests k), L.she.miles + (goL x t sp k (ZT t L (nth rests k))).2.1⟩ (nth rests (k + 1)) (by simp only; omega)) ?_;simp (disch := omega) only [go_sem, seval];simp (disch := omega) only [hS1, go_sem, seval];refine ⟨(k + 1, L2, ds ++ [L2.since]), ⟨by simp only; omega, hrun, hL', by rw [hL2]; simp [hmlen], by rw [hL2]; exact hmf, by rw [hL2]; simp, by simp [hds]⟩, by simp only; omega, Weak.mk ?_⟩
     simp (disch := omega) only [hM, Zb, Zw, Xm, Zt0, hmlen, List.length_append, List.length_cons, List.length_nil, List.map_append, List.map_cons, List.map_nil, go_sem, seval];exact ⟨rfl, by rw [show L2.since = W9 L (nth rests k) + (goL x t sp k (ZT t L (nth rests k))).1 - ZT t L (nth rests k) by rw [hL2]]⟩
   ·have hkl : k = sp.length := by omega
    subst hkl;obtain ⟨f1, f2⟩ := ZgO (x := x) (t := t) (sp := sp) (d := ZT t L (nth rests sp.length)) (s := W9 L (nth rests sp.length)) (h := m) hmm
    have he2 : goN x.net t.prof (J7 t sp sp.length) t.dst (ZT t L (nth rests sp.length)) = goL x t sp sp.length (ZT t L (nth rests sp.length)) := by simp [goL, toF]
    refine Xs (Zco x t (QR t sp sp.length L (nth rests sp.length)) t.dst t.cls 15 hok.net ?_ ?_ ?_ ?_) ?_
    ·simp only [QR]; omega
    ·simp only [QR, Sml]; omega
    ·simp only [QR, Sml]; omega
    ·simp only [QR, Sml]; rw [he2]; omega
    have f1' : (V0 x t (QR t sp sp.length L (nth rests sp.length)) t.dst t.cls 15).2 = (Y2 x t sp sp.length L (nth rests sp.length)).2 := by rw [hnx, <- f1]; rfl
    simp (disch := omega) only [go_sem, seval];rw [f1'];have hdl : rests.drop (sp.length + 1) = [] := List.drop_eq_nil_of_le (by omega);rw [hdl, X3] at hrun;refine cD ?_ ?_ <;> intro h3 <;> simp (disch := omega) only [Sh.out h3, go_sem, seval]
    ·rw [if_neg h3] at hrun;rw [hrun];simp only [WC, zShe];exact ⟨_, _, Weak.mk (by simp (disch := omega) only [List.map_nil, go_sem, seval]), .list true [], rfl, rfl⟩
    ·have h3' : (Y2 x t sp sp.length L (nth rests sp.length)).2 = 0 := Classical.not_not.1 h3;rw [if_pos h3'] at hrun;rw [hnx] at h3';obtain ⟨f3, f4⟩ := f2 h3';have f3' : (V0 x t (QR t sp sp.length L (nth rests sp.length)) t.dst t.cls 15).1 = ⟨t.dst, (goL x t sp sp.length (ZT t L (nth rests sp.length))).1, W9 L (nth rests sp.length) + (goL x t sp sp.length (ZT t L (nth rests sp.length))).1 - ZT t L (nth rests sp.length), L.she.miles + (goL x t sp sp.length (ZT t L (nth rests sp.length))).2.1⟩ := f3;rw [hrun, hnx, f4];simp (disch := omega) only [f3', go_sem, seval];refine Zn (Weak.fz (o := 6) (by rfl)) ?_
     refine Zn (Weak.fz (o := 7) (by rfl)) ?_;refine Zd [] _ _ _ _ ?_;simp (disch := omega) only [List.map_cons, List.map_nil, List.set_cons_succ, List.set_cons_zero, go_sem, seval]
     have hmc : m.times_c = false := by
      rw [<- hm, <- hclip (by omega)];unfold Xu
      split <;> rfl
     exact ⟨_, _, Weak.mk (by simp (disch := omega) only [hmc, go_sem, seval]), .list false (ds.map eI ++ [.int .i64 (W9 L (nth rests sp.length) + (goL x t sp sp.length (ZT t L (nth rests sp.length))).1 - ZT t L (nth rests sp.length))]), rfl, rfl⟩
theorem Zkq (x : Inst) (r : Rte) (rests : List Bool) (c : Bool) (hok : TrpOk x (Z0 x r) (ZV x r.visits)) (ho : x.orders.length <= 1048576) (ht : x.types.length <= 1048576) (hne : 0 < r.visits.length) (hp : Y9 x r = true) (hl : rests.length = r.visits.length + 1) :
  PT 229 [.p (ZG x), .p (YZ r), .p (.list c (rests.map eB))] [.p (ZgD (X3 x (Z0 x r) (ZV x r.visits) 0 (XZ (Z0 x r) r.start) rests).1.she), .p (.int .i64 (X3 x (Z0 x r) (ZV x r.visits) 0 (XZ (Z0 x r) r.start) rests).2)] := by
 have cr := ZmL x r rests c hok ho ht hne hp hl;generalize (X3 x (Z0 x r) (ZV x r.visits) 0 (XZ (Z0 x r) r.start) rests) = q at cr ⊢;obtain ⟨L, e⟩ := q;refine Zc [] Tryz.func229 rfl Zsm ?_;simp (disch := omega) only [Tryz.f229, go_sem, seval];refine ZwM cr fun d => ?_;simp (disch := omega) only [go_sem, seval];exact we
def KO (l : List Bool) (n : Nat) : Option (List Bool) := (Xw (l.drop n)).map (l.take n ++ ·)
def Zld : Option (List Bool) -> PV
 | some l => .list false (l.map eB)
 | none => .list true []
theorem W5 : ∀ m : Nat, Xw (List.replicate m true) = none
 | 0 => rfl
 | m + 1 => by rw [List.replicate_succ, Xw, W5 m]; rfl
theorem KZ : ∀ (a b r : List Bool), Xw b = some r -> Xw (a ++ b) = some (a ++ r)
 | [], b, r, h => h
 | x :: a, b, r, h => by rw [List.cons_append, Xw, KZ a b r h]; rfl
theorem ZiE (a : List Bool) (m : Nat) : Xw (a ++ false :: List.replicate m true) = some (a ++ true :: List.replicate m false) := by
 refine KZ _ _ _ ?_;rw [Xw, W5];simp
theorem ZbW {o : List Bool} {i : Nat} {b : Bool} : (o.map eB).set i (.bool b) = (o.set i b).map eB := by rw [List.map_set]; rfl
theorem Zjj (l : List Bool) (c : Bool) (n : Nat) (hn : n <= l.length) (h0 : 0 < l.length) (hl : l.length <= 1048576) : PT 230 [.p (.list c (l.map eB)), .p (.int .i64 (n : Nat))] [.p (Zld (KO l n)), .p (.bool (KO l n).isSome)] := by
 refine Zc [8] Tryz.func230 rfl ZsZ ?_;simp (disch := omega) only [Tryz.f230, go_sem, seval];rw [if_pos ⟨by omega, by omega⟩];simp (disch := omega) only [go_sem, seval];refine ZY [8] [1] (fun q : Nat × List Bool => [(6, .sl 0 0 q.2.length q.2.length), (7, .p (.int .i64 ((q.1 : Int) - 1)))]) (fun q => [.elems 1 (q.2.map eB)]) (fun q => n <= q.1 /\ q.1 <= l.length /\ q.2 = l.take q.1 ++ List.replicate (l.length - q.1) false /\ l.drop q.1 = List.replicate (l.length - q.1) true) (fun q => q.1) (l.length, l) (by simp; omega) (Weak.mk ?_) ?_
 ·simp (disch := omega) only [go_sem, seval]
 ·rintro ⟨j, o⟩ ⟨hj1, hj2, ho, hjt⟩;simp only at hj1 hj2 ho hjt
  have hol : o.length = l.length := by rw [ho]; simp; omega
  simp (disch := omega) only [go_sem, seval];refine cD ?_ ?_ <;> intro h <;> simp (disch := omega) only [Sh.out h, go_sem, seval]
  ·obtain ⟨i, rfl⟩ : ∃ i, j = i + 1 := ⟨j - 1, by omega⟩
   have hij : (((i + 1 : Nat) : Int) - 1) = (i : Int) := by omega
   have hat : nth o i = nth l i := by
    rw [Ze (by omega), Ze (by omega)];simp only [ho];rw [List.getElem_append_left (by simp; omega)]; simp
   have hdr : l.drop i = nth l i :: List.replicate (l.length - (i + 1)) true := by
    rw [List.drop_eq_getElem_cons (by omega), hjt, Ze (by omega)]
   have hio : i < o.length := by omega
   simp (disch := first | omega | (simp only [List.length_cons, List.length_nil, List.length_append, List.length_map, List.length_take, List.length_drop] <;> omega)) only [Int.add_sub_cancel, Xi, hat, hio, go_sem, seval];refine cD ?_ ?_ <;> intro h2 <;> simp (disch := omega) only [Sh.out h2, go_sem, seval]
   ·have hf : nth l i = false := by simpa using h2
    have hres : KO l n = some (o.set i true) := by
     rw [hf] at hdr
     have e : l.drop n = (l.drop n).take (i - n) ++ false :: List.replicate (l.length - (i + 1)) true := by
      rw [<- hdr, show l.drop i = (l.drop n).drop (i - n) by rw [List.drop_drop]; congr 1; omega, List.take_append_drop]
     rw [KO, e, ZiE, ho];simp only [Option.map_some, Option.some.injEq]
     have e2 : l.take (i + 1) = l.take n ++ (l.drop n).take (i - n) ++ [nth l i] := by
      rw [List.take_succ_eq_append_getElem (by omega), Ze (by omega)]
      congr 1
      have : l.take i = l.take (n + (i - n)) := by congr 1; omega
      rw [this, List.take_add]
     rw [e2, hf]
     have el : (l.take n ++ (l.drop n).take (i - n)).length = i := by simp; omega
     rw [List.append_assoc (l.take n ++ (l.drop n).take (i - n)), List.set_append_right _ _ (by omega), el];simp
    rw [hres];simp (disch := first | omega | (simp only [List.length_cons, List.length_nil, List.length_append, List.length_map, List.length_take, List.length_drop] <;> omega)) only [hio, ZbW, go_sem, seval];refine Zn (Weak.fz (o := 0) (by rfl)) ?_;refine Zd [] _ _ _ _ ?_;simp (disch := omega) only [List.map_cons, List.map_nil, List.set_cons_succ, List.set_cons_zero, go_sem, seval];simp only [List.length_set, List.length_map, if_true];exact we (by simp (disch := omega) only [Zld, Option.isSome_some, go_sem, seval])
   ·have hf : nth l i = true := by simpa using h2
    simp (disch := first | omega | (simp only [List.length_cons, List.length_nil, List.length_append, List.length_map, List.length_take, List.length_drop] <;> omega)) only [hio, ZbW, go_sem, seval];refine ⟨(i, o.set i false), ⟨by simp only; omega, by simp only; omega, ?_, ?_⟩, by simp only; omega, Weak.mk (by simp (disch := first | omega | (simp only [List.length_cons, List.length_nil, List.length_append, List.length_map, List.length_take, List.length_drop] <;> omega)) only [List.length_set, Int.add_sub_cancel, go_sem, seval])⟩
    ·simp only;rw [ho, show l.length - i = (l.length - (i + 1)) + 1 by omega, List.replicate_succ, List.take_succ_eq_append_getElem (by omega), List.append_assoc, List.set_append_right _ _ (by simp; omega), show i - (l.take i).length = 0 by simp; omega];simp
    ·simp only;rw [hdr, hf, show l.length - i = (l.length - (i + 1)) + 1 by omega, List.replicate_succ]
  ·have hjn : j = n := by omega
   have hres : KO l n = none := by rw [KO, <- hjn, hjt, W5]; rfl
   rw [hres];exact we (by simp (disch := omega) only [Zld, Option.isSome_none, go_sem, seval])
theorem ZeS {r q : List Bool} : KO (r ++ q) r.length = (Xw q).map (r ++ ·) := by simp [KO]
theorem Zgb {l : List Bool} : Zld (some l) = .list false (l.map eB) := rfl
theorem Zek : Zld none = .list true [] := rfl
def Zd5 (b : Option Lab) : She := match b with | some L => L.she | none => zShe
def Zg1 (r : List Bool) (cur : Option (List Bool)) : List (List Bool) := match cur with | some q => (X8 q).map (r ++ ·) | none => []
theorem Qq {r s : List Bool} : Zg1 r (some s) = (r ++ s) :: Zg1 r (Xw s) := by
 unfold Zg1;simp only;rw [fromB_next s, List.map_cons]
 cases Xw s <;> rfl
theorem ZbT {x : Inst} {t : Typ} {sp : List Stp} : ∀ (bs : List Bool) (k : Nat) (L : Lab), ¬ (X3 x t sp k L bs).2 = 0 -> (X3 x t sp k L bs).1 = WC
 | [], k, L, h => by simp [X3] at h
 | b :: bs, k, L, h => by
  rw [X3] at h ⊢
  split
  ·rename_i c; rw [if_pos c] at h; exact ZbT bs _ _ h
  ·rfl
theorem Zil (x : Inst) (r : Rte) (hok : TrpOk x (Z0 x r) (ZV x r.visits)) (ho : x.orders.length <= 1048576) (ht : x.types.length <= 1048576) (hne : 0 < r.visits.length) (hp : Y9 x r = true) (hl : r.rests.length <= r.visits.length + 1) :
  PT 176 [.p (ZG x), .p (YZ r)] [.p (ZgD (Xk x r).1), .p (.int .i64 (Xk x r).2)] := by
 have hsl : (ZV x r.visits).length = r.visits.length := Xh;have hp2 := hp;simp only [Y9, Bool.and_eq_true, decide_eq_true_eq] at hp2;have hv20 := hp2.1.2;have hrun := fun rests (c : Bool) (h : rests.length = r.visits.length + 1) => Zkq x r rests c hok ho ht hne hp h;have hopt := fun bs => Wy (x := x) (t := Z0 x r) (sp := ZV x r.visits) bs 0 (XZ (Z0 x r) r.start);unfold Xk Uw
 generalize hS : ZV x r.visits = sp at *
 generalize Z0 x r = t at *
 generalize XZ t r.start = L0 at *
 refine Zc [5, 6] Tryz.func176 rfl Zjl ?_;simp (disch := omega) only [Tryz.f176, go_sem, seval];refine (Jv x r ho ht (by omega)).use ?_;simp (disch := omega) only [go_sem, seval];rw [hp];simp (disch := omega) only [go_sem, seval];refine cD ?_ ?_ <;> intro h0 <;> simp (disch := omega) only [Sh.out h0, go_sem, seval]
 ·omega
 ·refine XQ (Zgj 3 rfl rfl ?_);simp (disch := omega) only [go_sem, seval];refine ⟨_, _, ZbN (e := 4) rfl Tryz.underlying41 (by kernel_rfl) rfl rfl rfl ?_ ?_ ?_, ?_⟩
  ·simp
  ·simp; omega
  ·intro q hq;obtain ⟨b, _, rfl⟩ := List.mem_map.1 hq
   rfl
  ·have hpl : (WW r.rests (sp.length + 1)).length = r.visits.length + 1 := by simp [WW]; omega
   have hpad : r.rests.map eB ++ (PV.bool false :: List.replicate r.visits.length (PV.bool false)).drop (r.rests.map eB).length = (WW r.rests (sp.length + 1)).map eB := by
    rw [WW, List.map_append, <- List.replicate_succ, List.drop_replicate, List.map_replicate, hsl, List.length_map]; rfl
   simp only [List.set_cons_succ, List.set_cons_zero];rw [hpad];have h0r := hopt (WW r.rests (sp.length + 1))
   have cn : ∀ s : List Bool, (r.rests ++ s).length = r.visits.length + 1 -> PT 230 [.p (.list false ((r.rests ++ s).map eB)), .p (.int .i64 (r.rests.length : Nat))] [.p (Zld ((Xw s).map (r.rests ++ ·))), .p (.bool ((Xw s).map (r.rests ++ ·)).isSome)] := fun s hs => by
    have := Zjj (r.rests ++ s) false r.rests.length (by simp) (by omega) (by omega);rwa [ZeS] at this
   have e1 : (X3 x t sp 0 L0 (WW r.rests (sp.length + 1))).1.she = Zd5 (Us (X1 x t sp) 0 L0 (WW r.rests (sp.length + 1))) := by
    rw [h0r]
    split
    ·rfl
    ·rename_i c; rw [ZbT _ _ _ c]; rfl
   have e2 : decide ((X3 x t sp 0 L0 (WW r.rests (sp.length + 1))).2 = 0) = (Us (X1 x t sp) 0 L0 (WW r.rests (sp.length + 1))).isSome := by
    rw [h0r]
    split
    ·rename_i c; simp [c]
    ·rename_i c; simp [c]
   have hrp := hrun (WW r.rests (sp.length + 1)) false hpl;have XC : YN r.rests (sp.length + 1) = Zg1 r.rests (some (List.replicate (sp.length + 1 - r.rests.length) false)) := rfl;refine Zn (Weak.fz (o := 3) (by rfl)) ?_;refine Zd [] _ _ _ _ ?_;simp (disch := omega) only [List.map_cons, List.map_nil, List.set_cons_succ, List.set_cons_zero, go_sem, seval];rw [if_pos hpl];refine Xs hrp ?_;simp (disch := omega) only [go_sem, seval];refine Xs (cn (List.replicate (sp.length + 1 - r.rests.length) false) hpl) ?_;simp (disch := omega) only [e1, e2, go_sem, seval]
   have hfm : fmL WJ none ((YN r.rests (sp.length + 1)).filterMap (Us (X1 x t sp) 0 L0)) = fmL WJ (Us (X1 x t sp) 0 L0 (WW r.rests (sp.length + 1))) ((Zg1 r.rests (Xw (List.replicate (sp.length + 1 - r.rests.length) false))).filterMap (Us (X1 x t sp) 0 L0)) := by
    rw [XC, Qq, List.filterMap_cons];rw [show r.rests ++ List.replicate (sp.length + 1 - r.rests.length) false = WW r.rests (sp.length + 1) from rfl]
    cases Us (X1 x t sp) 0 L0 (WW r.rests (sp.length + 1)) with
    | none => rfl
    | some L => rfl
   clear XC;generalize fmL WJ none ((YN r.rests (sp.length + 1)).filterMap (Us (X1 x t sp) 0 L0)) = res at hfm ⊢;generalize (X3 x t sp 0 L0 (WW r.rests (sp.length + 1))).2 = err0
   refine Zf [2, 3, 4, 8, 9] (fun q : Option (List Bool) × Option Lab => [(7, .p (Zld (q.1.map (r.rests ++ ·)))), (10, .p (.bool q.2.isSome)), (11, .p (.bool (q.1.map (r.rests ++ ·)).isSome))])
    (fun q => [Zb x, Zw r, .cells [.p (.bool false), .p (.int .i64 0), .p (.list true []), .p (.int .i64 0), .p (.int .i64 0)], .dead, .cells [.p (.bool (Zd5 q.2).rest), .p (.int .i64 (Zd5 q.2).dep), .p (.list (Zd5 q.2).times_c ((Zd5 q.2).times.map eTim)), .p (.int .i64 (Zd5 q.2).fin), .p (.int .i64 (Zd5 q.2).miles)]])
    (fun q => res = fmL WJ q.2 ((Zg1 r.rests q.1).filterMap (Us (X1 x t sp) 0 L0)) /\ ∀ s, q.1 = some s -> s.length = sp.length + 1 - r.rests.length) (fun q => (Zg1 r.rests q.1).length)
    (Xw (List.replicate (sp.length + 1 - r.rests.length) false), Us (X1 x t sp) 0 L0 (WW r.rests (sp.length + 1))) ⟨hfm, fun s hs => by have := fromB_next.nlen _ _ hs; simpa using this⟩ (Weak.mk ?_) ?_
   ·simp (disch := omega) only [Zb, Zw, go_sem, seval]
   ·rintro ⟨cur, b⟩ ⟨hR, hcl⟩;simp only at hR hcl
    cases cur with
    | none =>
     simp only [Zg1, List.filterMap_nil] at hR;simp (disch := omega) only [Option.map_none, Option.isSome_none, Zek, Zb, Zw, go_sem, seval]
     cases b with
     | none =>
      rw [fmL] at hR;subst hR;simp (disch := omega) only [Option.isSome_none, Bool.not_false, go_sem, seval];exact we (by simp (disch := omega) only [zShe, List.map_nil, go_sem, seval])
     | some m =>
      rw [fmL] at hR;subst hR;simp (disch := omega) only [Option.isSome_some, Bool.not_true, Zd5, go_sem, seval];exact we
    | some s =>
     have hsl2 := hcl s rfl;rw [Qq, List.filterMap_cons, hopt] at hR
     have hmu : (Zg1 r.rests (Xw s)).length < (Zg1 r.rests (some s)).length := by rw [Qq]; simp
     have hnl : ∀ s', Xw s = some s' -> s'.length = sp.length + 1 - r.rests.length := fun s' hs' => by rw [fromB_next.nlen _ _ hs', hsl2]
     have hlen : (r.rests ++ s).length = r.visits.length + 1 := by simp; omega
     have hr1 := hrun (r.rests ++ s) false hlen;have cn1 := cn s hlen;rw [List.map_append] at hr1 cn1;simp (disch := omega) only [Option.map_some, Option.isSome_some, Zgb, Zb, Zw, go_sem, seval];generalize X3 x t sp 0 L0 (r.rests ++ s) = g at hR hr1;obtain ⟨Lg, eg⟩ := g;simp only at hR hr1;refine Xs hr1 ?_;simp (disch := omega) only [go_sem, seval];refine gT ?_ ?_ <;> intro h1 <;> simp (disch := omega) only [Sh.out h1, go_sem, seval]
     ·subst h1
      cases b with
      | none =>
       simp (disch := omega) only [Option.isSome_none, Bool.not_false, go_sem, seval];refine Xs cn1 ?_;simp (disch := omega) only [go_sem, seval];exact ⟨(Xw s, some Lg), ⟨hR, hnl⟩, hmu, Weak.mk (by simp (disch := omega) only [Zb, Zw, Zd5, Option.isSome_some, go_sem, seval])⟩
      | some m =>
       simp (disch := omega) only [Option.isSome_some, Bool.not_true, Zd5, go_sem, seval];refine cD ?_ ?_ <;> intro h2 <;> simp (disch := omega) only [Sh.out h2, go_sem, seval]
       ·refine Xs cn1 ?_;simp (disch := omega) only [go_sem, seval];exact ⟨(Xw s, some Lg), ⟨by rw [hR]; simp only [if_true, fmL, WJ, h2], hnl⟩, hmu, Weak.mk (by simp (disch := omega) only [Zb, Zw, Zd5, Option.isSome_some, go_sem, seval])⟩
       ·refine Xs cn1 ?_;simp (disch := omega) only [go_sem, seval];exact ⟨(Xw s, some m), ⟨by rw [hR]; simp only [if_true, fmL, WJ, h2, if_false], hnl⟩, hmu, Weak.mk (by simp (disch := omega) only [Zb, Zw, Zd5, Option.isSome_some, go_sem, seval])⟩
     ·rw [if_neg h1] at hR;refine Xs cn1 ?_;simp (disch := omega) only [go_sem, seval];exact ⟨(Xw s, b), ⟨hR, hnl⟩, hmu, Weak.mk (by simp (disch := omega) only [Zb, Zw, go_sem, seval])⟩
def eR (p : Bool × List Int) : PV := .list p.1 (p.2.map eI)
@[go_sem] theorem ZBp (p : Bool × List Int) : eR p = .list p.1 (p.2.map eI) := Eq.trans rfl rfl
theorem Ziz (L : List (Bool × List Int)) (c : Bool) (d : Nat) (hd : d <= 3) (hL : L.length <= 1048576) (h : ∀ p ∈ L, p.2.length = d) : PC 335 [.p (.list c (L.map eR)), .p (.int .i64 (d : Nat))] (.bool true) := by
 refine Za Tryz.func335 rfl Zq9 ?_
 have e1 : ¬ (d : Int) < 0 := by omega
 have e2 : ¬ (3 : Int) < d := by omega
 simp (disch := omega) only [Tryz.f335, e1, e2, go_sem, seval];refine Zf [0, 1] (fun k : Nat => [(5, .p (.int .i64 k))]) (fun _ => []) (fun k => k <= L.length) (fun k => L.length - k) 0 (by simp) (Weak.mk ?_) ?_
 ·simp (disch := omega) only [go_sem, seval]
 ·intro k hk;simp (disch := omega) only [go_sem, seval];refine cD ?_ ?_ <;> intro h1 <;> simp (disch := omega) only [Sh.out h1, go_sem, seval]
  ·have hk2 : k < L.length := by omega
   have hp := h _ (Zl hk2);simp (disch := omega) only [hp, go_sem, seval];exact ⟨k + 1, by omega, by omega, wk⟩
def ZdJ (L : List (Bool × List Int)) (k j : Nat) : Int := ((L.take k).map fun p => nth p.2 j).sum
theorem KI {L : List (Bool × List Int)} {k j : Nat} (h : k < L.length) : ZdJ L (k + 1) j = ZdJ L k j + nth (nth L k).2 j := by
 rw [ZdJ, ZdJ, List.take_succ_eq_append_getElem h, List.map_append, List.sum_append, Ze h]; simp
theorem ZcW {L : List (Bool × List Int)} {d j : Nat} (h : ∀ p ∈ L, p.2.length = d /\ ∀ n ∈ p.2, 0 <= n /\ n <= 1000) (hj : j < d) : ∀ k, k <= L.length -> 0 <= ZdJ L k j /\ ZdJ L k j <= 1000 * (k : Int)
 | 0, _ => by simp [ZdJ]
 | k + 1, hk => by
  have ih := ZcW h hj k (by omega);obtain ⟨h1, h2⟩ := h _ (Zl (show k < L.length by omega));have := h2 _ (Zl (show j < (nth L k).2.length by omega));rw [KI (by omega)];omega
def ZvU (L : List (Bool × List Int)) (d : Nat) : List Int := (List.range d).map fun j => ZdJ L L.length j
theorem Zkz (L : List (Bool × List Int)) (c : Bool) (d : Nat) (hd : 1 <= d /\ d <= 3) (hL : L.length <= 1048576) (h : ∀ p ∈ L, p.2.length = d /\ ∀ n ∈ p.2, 0 <= n /\ n <= 1000) :
  PT 314 [.p (.list c (L.map eR)), .p (.int .i64 (d : Nat))] [.p (.list false ((ZvU L d).map eI)), .p (.int .i64 0)] := by
 refine Zc [13] Tryz.func314 rfl Zpx ?_;simp (disch := omega) only [Tryz.f314, go_sem, seval];refine (Ziz L c d hd.2 hL fun p hp => (h p hp).1).use ?_;simp (disch := omega) only [go_sem, seval];refine ZY [13] [0, 1] (fun q : Nat × List Int => [(6, .sl 0 0 q.2.length q.2.length), (7, .p (.int .i64 q.1))]) (fun q => [.elems 1 (q.2.map eI)]) (fun q => q.1 <= d /\ q.2 = (List.range q.1).map fun j => ZdJ L L.length j) (fun q => d - q.1) (0, []) (by simp) (Weak.ofNil 6 1 rfl (by simp) (Weak.mk ?_)) ?_
 ·simp (disch := omega) only [List.map_nil, List.length_nil, go_sem, seval]
 ·rintro ⟨j, o⟩ ⟨hj, ho⟩;simp only at hj ho
  have hol : o.length = j := by rw [ho]; simp
  simp (disch := omega) only [go_sem, seval];refine cD ?_ ?_ <;> intro h1 <;> simp (disch := omega) only [Sh.out h1, go_sem, seval]
  ·have hj2 : j < d := by omega
   refine Zf [0, 1, 6, 7] (fun k : Nat => [(8, .p (.int .i64 (ZdJ L k j))), (9, .p (.int .i64 k))]) (fun _ => [.elems 1 (o.map eI)]) (fun k => k <= L.length) (fun k => L.length - k) 0 (by simp) (Weak.mk ?_) ?_
   ·simp (disch := omega) only [ZdJ, List.take_zero, List.map_nil, List.sum_nil, go_sem, seval]
   ·intro k hk;simp (disch := omega) only [go_sem, seval];refine cD ?_ ?_ <;> intro h2 <;> simp (disch := omega) only [Sh.out h2, go_sem, seval]
    ·have hk2 : k < L.length := by omega
     obtain ⟨g1, g2⟩ := h _ (Zl hk2);have g3 := g2 _ (Zl (show j < (nth L k).2.length by omega));have g4 := ZcW h hj2 k hk;have g5 := KI (j := j) hk2
     have g6 : j < (nth L k).2.length := by omega
     simp (disch := omega) only [go_sem, seval];exact ⟨k + 1, by omega, by omega, Weak.mk (by simp (disch := omega) only [g5, go_sem, seval])⟩
    ·have hkl : k = L.length := by omega
     subst hkl;refine ⟨(j + 1, o ++ [ZdJ L L.length j]), ⟨by simp only; omega, by simp only; rw [ho, List.range_succ, List.map_append]; rfl⟩, by simp only; omega, Weak.mk (by simp (disch := omega) only [List.length_append, List.length_cons, List.length_nil, List.map_append, List.map_cons, List.map_nil, go_sem, seval])⟩
  ·have hjd : j = d := by omega
   subst hjd;refine Zn (Weak.fz (o := 0) (by rfl)) ?_;refine Zd [] _ _ _ _ ?_;simp (disch := omega) only [List.map_cons, List.map_nil, List.set_cons_succ, List.set_cons_zero, go_sem, seval];rw [ZvU, <- ho];exact we
theorem Zhh (a b : List Int) (c d : Bool) (ha : a.length <= 1048576) (hb : b.length <= 1048576) : PC 227 [.p (.list c (a.map eI)), .p (.list d (b.map eI))] (.bool (YR a b)) := by
 refine Za Tryz.func227 rfl ZsO ?_;simp (disch := omega) only [Tryz.f227, go_sem, seval];refine cD ?_ ?_ <;> intro h1 <;> simp (disch := omega) only [Sh.out h1, go_sem, seval]
 ·have : ¬ a.length = b.length := by omega
  simp [YR, this]
 ·have h1' : a.length = b.length := by omega
  refine Zf [0, 1] (fun k : Nat => [(5, .p (.int .i64 k))]) (fun _ => []) (fun k => k <= a.length /\ ∀ j, j < k -> nth a j <= nth b j) (fun k => a.length - k) 0 (by simp) (Weak.mk ?_) ?_
  ·simp (disch := omega) only [go_sem, seval]
  ·rintro k ⟨hk, hno⟩;simp (disch := omega) only [go_sem, seval];refine cD ?_ ?_ <;> intro h2 <;> simp (disch := omega) only [Sh.out h2, go_sem, seval]
   ·have hk2 : k < a.length := by omega
    refine Zi mixed (by kernel_rfl) (by kernel_rfl) ?_;simp (disch := omega) only [go_sem, seval];refine cD ?_ ?_ <;> intro h3 <;> simp (disch := omega) only [Sh.out h3, go_sem, seval]
    ·have : YR a b = false := by
      cases hf : YR a b with
      | false => rfl
      | true => simp [YR, List.all_eq_true] at hf; have := hf.2 k hk2; omega
     rw [this]
    ·exact ⟨k + 1, ⟨by omega, Zh.2 ⟨hno, by omega⟩⟩, by omega, wk⟩
   ·have hkl : k = a.length := by omega
    subst hkl
    have : YR a b = true := by
     simp only [YR, Bool.and_eq_true, decide_eq_true_eq, List.all_eq_true, List.mem_range];exact ⟨h1', fun i hi => hno i hi⟩
    rw [this]
theorem ZhJ (x : Inst) (ht : x.types.length <= 1048576) : PC 315 [.p (ZG x)] (.int .i64 (dimsOf x.types)) := by
 refine Za Tryz.func315 rfl ZsF ?_;simp (disch := omega) only [Tryz.f315, go_sem, seval];refine cD ?_ ?_ <;> intro h1 <;> simp (disch := omega) only [Sh.out h1, go_sem, seval]
 ·have : x.types.length = 0 := by omega
  simp [dimsOf, this]
 ·have h2 : ¬ x.types.length = 0 := by omega
  simp only [dimsOf, h2, if_false]
structure LdOk (x : Inst) : Prop where
 ord : x.orders.length <= 10
 typ : x.types.length <= 1048576
 dim : 1 <= dimsOf x.types /\ dimsOf x.types <= 3
 load : ∀ o ∈ x.orders, (o.load.length : Int) = dimsOf x.types /\ ∀ n ∈ o.load, 0 <= n /\ n <= 1000
theorem Wh {x : Inst} (h : InstOk x) : LdOk x := by
 have ht := h.types.1;simp only [rng, decide_eq_true_eq] at ht;have ho := h.orders
 have h0 : 0 < x.types.length := by omega
 have hcap := h.types.2 0 h0;unfold QF at hcap;obtain ⟨⟨⟨⟨⟨⟨⟨⟨_, _⟩, _⟩, _⟩, hcap⟩, _⟩, _⟩, _⟩, _⟩ := hcap;simp only [WR, Bool.and_eq_true, decide_eq_true_eq, rng] at hcap;refine ⟨ho.1, by omega, by omega, fun o hm => ?_⟩;obtain ⟨i, hi, rfl⟩ := List.mem_iff_getElem.1 hm;have := (ho.2 i hi).load;rw [Ze hi] at this;simp only [loadOk, Bool.and_eq_true, decide_eq_true_eq, List.all_eq_true, rng] at this;exact ⟨this.1, this.2⟩
def Zg6 (x : Inst) (l : List Vis) (n k : Nat) : List (Bool × List Int) := ((List.range k).filter fun i => onB x l n i && hasO l i).map fun i => ((nth x.orders i).load_c, (nth x.orders i).load)
theorem ZeP {x : Inst} {l : List Vis} {n k : Nat} : Zg6 x l n (k + 1) = Zg6 x l n k ++ if (onB x l n k && hasO l k) = true then [((nth x.orders k).load_c, (nth x.orders k).load)] else [] := by
 unfold Zg6;rw [List.range_succ, List.filter_append, List.map_append]
 congr 1
 simp only [List.filter_cons, List.filter_nil]
 split <;> rfl
theorem Zhn {x : Inst} {l : List Vis} {n : Nat} : ∀ k, (Zg6 x l n k).length <= k := fun k => by
 unfold Zg6;have := List.length_filter_le (fun i => onB x l n i && hasO l i) (List.range k);simp only [List.length_map, List.length_range] at this ⊢;exact this
theorem ZmK {x : Inst} {l : List Vis} {n k : Nat} (h : LdOk x) (hk : k <= x.orders.length) : ∀ p ∈ Zg6 x l n k, p.2.length = (dimsOf x.types).toNat /\ ∀ m ∈ p.2, 0 <= m /\ m <= 1000 := fun p hp => by
 obtain ⟨i, hi, rfl⟩ := List.mem_map.1 hp;have hi2 := List.mem_range.1 (List.mem_filter.1 hi).1;have := h.load _ (Zl (show i < x.orders.length by omega));exact ⟨by simp only; omega, this.2⟩
theorem ZiX {x : Inst} {l : List Vis} {n : Nat} : ZvU (Zg6 x l n x.orders.length) (dimsOf x.types).toNat = Wl x l n := by
 unfold ZvU Wl;refine List.map_congr_left fun j _ => ?_;rw [ZdJ, List.take_length, Zg6, List.map_map, Zd3, <- Ws]
 rfl
def onK (x : Inst) (l : List Vis) (n i k : Nat) : Bool := (l.take (min k n)).foldl (fun on v => if v.order = (i : Int) then !v.drp else on) (decide ((nth x.orders i).pick.place < 0))
def ZkN (l : List Vis) (i k : Nat) : Bool := (l.take k).any fun v => decide (v.order = (i : Int))
theorem Zg9 {x : Inst} {l : List Vis} {n i k : Nat} (h : k < l.length) : onK x l n i (k + 1) = if (nth l k).order = (i : Int) then (if k < n then !(nth l k).drp else onK x l n i k) else onK x l n i k := by
 unfold onK
 by_cases hn : k < n
 ·rw [show min (k + 1) n = min k n + 1 by omega, show min k n = k by omega, List.take_succ_eq_append_getElem h, List.foldl_append, Ze h];simp [hn]
 ·rw [show min (k + 1) n = min k n by omega];simp [hn]
theorem ZfW {l : List Vis} {i k : Nat} (h : k < l.length) : ZkN l i (k + 1) = if (nth l k).order = (i : Int) then true else ZkN l i k := by
 unfold ZkN;rw [List.take_succ_eq_append_getElem h, List.any_append, Ze h]
 by_cases hc : (l[k]).order = (i : Int) <;> simp [hc]
theorem ZkZ {x : Inst} {l : List Vis} {n i : Nat} (h : n <= l.length) : onK x l n i l.length = onB x l n i := by
 unfold onK onB;rw [show min l.length n = n by omega]
theorem Zjc {l : List Vis} {i : Nat} : ZkN l i l.length = hasO l i := by unfold ZkN hasO; rw [List.take_length]
theorem Zff (x : Inst) (l : List Vis) (c : Bool) (n : Nat) (hx : LdOk x) (hl : l.length <= 1048576) (hn : n <= l.length) :
  PT 286 [.p (ZG x), .p (.list c (l.map eVis)), .p (.int .i64 (n : Nat))] [.p (.list false ((Wl x l n).map eI)), .p (.int .i64 0)] := by
 have ho := hx.ord;refine Zc [15] Tryz.func286 rfl Zp1 ?_;simp (disch := omega) only [Tryz.f286, go_sem, seval];refine ZY [15] [1, 2, 3] (fun q : Nat × List (Bool × List Int) => [(8, .sl 1 0 q.2.length q.2.length), (9, .p (.int .i64 q.1))]) (fun q => [Zb x, .elems 1 (q.2.map eR)]) (fun q => q.1 <= x.orders.length /\ q.2 = Zg6 x l n q.1) (fun q => x.orders.length - q.1) (0, []) (by simp [Zg6]) (Weak.ofNil 8 1 rfl (by simp) (Weak.mk ?_)) ?_
 ·simp (disch := omega) only [Zb, List.map_nil, List.length_nil, List.cons_append, List.nil_append, go_sem, seval]
 ·rintro ⟨i, o⟩ ⟨hi, hob⟩;simp only at hi hob
  have hol : o.length <= i := by rw [hob]; exact Zhn i
  simp (disch := omega) only [Zb, go_sem, seval];refine cD ?_ ?_ <;> intro h1 <;> simp (disch := omega) only [Sh.out h1, go_sem, seval]
  ·have hi2 : i < x.orders.length := by omega
   refine Zf [1, 2, 3, 8, 9] (fun k : Nat => [(10, .p (.bool (onK x l n i k))), (11, .p (.bool (ZkN l i k))), (12, .p (.int .i64 k))]) (fun _ => [Zb x, .elems 1 (o.map eR)]) (fun k => k <= l.length) (fun k => l.length - k) 0 (by simp) (Weak.mk ?_) ?_
   ·simp (disch := omega) only [Zb, onK, ZkN, Nat.zero_min, List.take_zero, List.foldl_nil, List.any_nil, go_sem, seval]
   ·intro k hk;simp (disch := omega) only [Zb, go_sem, seval];refine cD ?_ ?_ <;> intro h2 <;> simp (disch := omega) only [Sh.out h2, go_sem, seval]
    ·have hk2 : k < l.length := by omega
     have s1 := Zg9 (x := x) (n := n) (i := i) hk2;have s2 := ZfW (i := i) hk2;refine cD ?_ ?_ <;> intro h3 <;> simp (disch := omega) only [Sh.out h3, go_sem, seval]
     ·rw [if_neg h3] at s1 s2;exact ⟨k + 1, by omega, by omega, Weak.mk (by simp (disch := omega) only [Zb, s1, s2, go_sem, seval])⟩
     ·have h3' := Classical.not_not.1 h3;rw [if_pos h3'] at s1 s2;refine cD ?_ ?_ <;> intro h4 <;> simp (disch := omega) only [Sh.out h4, go_sem, seval]
      ·rw [if_pos (by omega)] at s1;exact ⟨k + 1, by omega, by omega, Weak.mk (by simp (disch := omega) only [Zb, s1, s2, go_sem, seval])⟩
      ·rw [if_neg (by omega)] at s1;exact ⟨k + 1, by omega, by omega, Weak.mk (by simp (disch := omega) only [Zb, s1, s2, go_sem, seval])⟩
    ·have hkl : k = l.length := by omega
     subst hkl;have s3 := ZeP (x := x) (l := l) (n := n) (k := i);rw [ZkZ hn, Zjc];refine gT ?_ ?_ <;> intro h5 <;> simp (disch := omega) only [Sh.out h5, go_sem, seval]
     ·refine cD ?_ ?_ <;> intro h6 <;> simp (disch := omega) only [Sh.out h6, go_sem, seval]
      ·rw [h5, h6, Bool.and_self, if_pos rfl] at s3;exact ⟨(i + 1, o ++ [((nth x.orders i).load_c, (nth x.orders i).load)]), ⟨by simp only; omega, by simp only; rw [s3, hob]⟩, by simp only; omega, Weak.mk (by simp (disch := omega) only [Zb, List.length_append, List.length_cons, List.length_nil, List.map_append, List.map_cons, List.map_nil, go_sem, seval])⟩
      ·rw [h5, h6, Bool.and_false, if_neg (by simp), List.append_nil] at s3;exact ⟨(i + 1, o), ⟨by simp only; omega, by simp only; rw [s3, hob]⟩, by simp only; omega, Weak.mk (by simp (disch := omega) only [Zb, go_sem, seval])⟩
     ·have h5' : onB x l n i = false := by simpa using h5
      rw [h5', Bool.false_and, if_neg (by simp), List.append_nil] at s3;exact ⟨(i + 1, o), ⟨by simp only; omega, by simp only; rw [s3, hob]⟩, by simp only; omega, Weak.mk (by simp (disch := omega) only [Zb, go_sem, seval])⟩
  ·have hik : i = x.orders.length := by omega
   subst hik
   have hD : dimsOf x.types = ((dimsOf x.types).toNat : Int) := by have := hx.dim; omega
   have hok := ZmK (l := l) (n := n) hx (Nat.le_refl _);rw [<- hob] at hok;have hs := ZiX (x := x) (l := l) (n := n);rw [<- hob] at hs;refine Zn (Weak.fz (o := 1) (by rfl)) ?_;refine Zd [] _ _ _ _ ?_;simp (disch := omega) only [List.map_cons, List.map_nil, List.set_cons_succ, List.set_cons_zero, go_sem, seval];refine (ZhJ x hx.typ).use ?_;simp (disch := omega) only [go_sem, seval];rw [hD];refine Xs (Zkz o false (dimsOf x.types).toNat (by have := hx.dim; omega) (by omega) hok) ?_;simp (disch := omega) only [go_sem, seval];rw [<- hs];exact we
def eIL (l : List Int) : PV := .list false (l.map eI)
@[go_sem] theorem ZqG (l : List Int) : eIL l = .list false (l.map eI) := Eq.trans rfl rfl
def VI (x : Inst) (l : List Vis) : List (List Int) := (List.range (l.length + 1)).map (Wl x l)
theorem ZeI (x : Inst) (r : Rte) (hx : InstOk x) (hl : r.visits.length <= 1048576) (h0 : ZQ x r.visits = 0) (hchk : PC 173 [.p (ZG x), .p (YZ r)] (.int .i64 (ZQ x r.visits))) :
  PT 226 [.p (ZG x), .p (YZ r)] [.p (.list false ((VI x r.visits).map eIL)), .p (.int .i64 0)] := by
 have hd := Wh hx;refine Zc [12] Tryz.func226 rfl ZqW ?_;simp (disch := omega) only [Tryz.f226, go_sem, seval];refine (hchk).use ?_;simp (disch := omega) only [go_sem, seval];simp (disch := omega) only [h0, go_sem, seval];refine ZY [12] [2, 3] (fun q : Nat × List (List Int) => [(7, .sl 2 0 q.2.length q.2.length), (8, .p (.int .i64 q.1))]) (fun q => [Zb x, Zw r, .elems 1 (q.2.map eIL)]) (fun q => q.1 <= r.visits.length + 1 /\ q.2 = (List.range q.1).map (Wl x r.visits)) (fun q => r.visits.length + 1 - q.1) (0, []) (by simp) (Weak.ofNil 7 1 rfl (by simp) (Weak.mk ?_)) ?_
 ·simp (disch := omega) only [Zb, Zw, List.map_nil, List.length_nil, List.cons_append, List.nil_append, go_sem, seval]
 ·rintro ⟨k, o⟩ ⟨hk, ho⟩;simp only at hk ho
  have hol : o.length = k := by rw [ho]; simp
  simp (disch := omega) only [Zb, Zw, go_sem, seval];refine cD ?_ ?_ <;> intro h1 <;> simp (disch := omega) only [Sh.out h1, go_sem, seval]
  ·refine Xs (Zff x r.visits r.visits_c k hd hl (by omega)) ?_;simp (disch := omega) only [go_sem, seval];exact ⟨(k + 1, o ++ [Wl x r.visits k]), ⟨by simp only; omega, by simp only; rw [ho, List.range_succ, List.map_append]; rfl⟩, by simp only; omega, Weak.mk (by simp (disch := omega) only [Zb, Zw, List.length_append, List.length_cons, List.length_nil, List.map_append, List.map_cons, List.map_nil, go_sem, seval])⟩
  ·have hkl : k = r.visits.length + 1 := by omega
   subst hkl;refine Zn (Weak.fz (o := 2) (by rfl)) ?_;refine Zd [] _ _ _ _ ?_;simp (disch := omega) only [List.map_cons, List.map_nil, List.set_cons_succ, List.set_cons_zero, go_sem, seval];rw [VI, <- ho];exact we
theorem Zhw (x : Inst) (r : Rte) (hx : InstOk x) (hl : r.visits.length <= 1048576) (hty : 0 <= r.typ /\ r.typ < (x.types.length : Int)) (h0 : ZQ x r.visits = 0) (hchk : PC 173 [.p (ZG x), .p (YZ r)] (.int .i64 (ZQ x r.visits))) :
  PC 175 [.p (ZG x), .p (YZ r)] (.int .i64 (if VF x (Z0 x r).cap r.visits = true then 0 else 17)) := by
 have hd := Wh hx;have htl := hd.typ
 have hti : r.typ.toNat < x.types.length := by omega
 have hcp : (nth x.types r.typ.toNat).cap.length <= 3 := by
  have hcap := hx.types.2 _ hti;unfold QF at hcap;obtain ⟨⟨⟨⟨⟨⟨⟨⟨_, _⟩, _⟩, _⟩, hcap⟩, _⟩, _⟩, _⟩, _⟩ := hcap;simp only [WR, Bool.and_eq_true, decide_eq_true_eq, rng] at hcap;omega
 have hll : (VI x r.visits).length = r.visits.length + 1 := by simp [VI]
 have hln : ∀ k, k < r.visits.length + 1 -> nth (VI x r.visits) k = Wl x r.visits k := fun k hk => by
  rw [Ze (by omega)]; simp [VI]
 have hal : ∀ k, (Wl x r.visits k).length <= 3 := fun k => by rw [VO]; have := hd.dim; omega
 have cl := ZeI x r hx hl h0 hchk;unfold Z0
 generalize hL : VI x r.visits = L at *
 refine Za Tryz.func175 rfl Zpg ?_
 have e1 : ¬ r.typ < 0 := by omega
 have e2 : ¬ (x.types.length : Int) <= r.typ := by omega
 simp (disch := omega) only [Tryz.f175, e1, e2, go_sem, seval];refine Xs cl ?_;simp (disch := omega) only [go_sem, seval];refine Zf [2, 3, 5] (fun k : Nat => [(7, .p (.int .i64 k))]) (fun _ => [Zb x, Zw r]) (fun k => k <= r.visits.length + 1 /\ ∀ j, j < k -> YR (Wl x r.visits j) (nth x.types r.typ.toNat).cap = true) (fun k => r.visits.length + 1 - k) 0 (by simp) (Weak.mk ?_) ?_
 ·simp (disch := omega) only [Zb, Zw, go_sem, seval]
 ·rintro k ⟨hk, hno⟩;simp (disch := omega) only [Zb, Zw, hll, go_sem, seval];refine cD ?_ ?_ <;> intro h1 <;> simp (disch := omega) only [Sh.out h1, go_sem, seval]
  ·have hk2 : k < r.visits.length + 1 := by omega
   have hk3 : k < L.length := by omega
   have hk4 := hal k;refine Zi mixed (by kernel_rfl) (by kernel_rfl) ?_;simp (disch := omega) only [hln k hk2, go_sem, seval];refine Zm (Zhh (Wl x r.visits k) (nth x.types r.typ.toNat).cap false (nth x.types r.typ.toNat).cap_c (by omega) (by omega)) ?_;simp (disch := omega) only [go_sem, seval];refine cD ?_ ?_ <;> intro h2 <;> simp (disch := omega) only [Sh.out h2, go_sem, seval]
   ·have h2' : YR (Wl x r.visits k) (nth x.types r.typ.toNat).cap = false := by simpa using h2
    have : ¬ VF x (nth x.types r.typ.toNat).cap r.visits = true := fun h => by
     rw [VF, List.all_eq_true] at h;have := h k (List.mem_range.2 hk2);rw [h2'] at this; cases this
    rw [if_neg this]
   ·exact ⟨k + 1, ⟨by omega, Zh.2 ⟨hno, by simpa using h2⟩⟩, by omega, Weak.mk (by simp (disch := omega) only [Zb, Zw, go_sem, seval])⟩
  ·have : VF x (nth x.types r.typ.toNat).cap r.visits = true := by
    rw [VF, List.all_eq_true];intro j hj;exact hno j (by have := List.mem_range.1 hj; omega)
   rw [if_pos this]
def Zjq (j : Nat) : Int := if j = 63 then -9223372036854775808 else ((pw j : Nat) : Int)
theorem Zbh {j : Nat} (h : j < 63) : Zjq j = ((pw j : Nat) : Int) := by rw [Zjq, if_neg (by omega)]
theorem ZpJ {j : Nat} (h : j <= 62) : pw j <= 4611686018427387904 := by have := Z3 h; rwa [Qe] at this
theorem Zcn {j : Nat} (h : j <= 63) : 0 < Zjq j ↔ j < 63 := by
 unfold Zjq
 split
 ·omega
 ·have := Um j; omega
theorem ZtG {S q : Nat} (hS : S < 9223372036854775808) (h : q <= S) : IntKind.i64.wrap (q : Int) = (q : Int) := by rw [IntKind.wrap_i64]; omega
theorem Zb3 {P : Program} {t : TypeId} {S j : Nat} (hS : S < 9223372036854775808) : Yb P .quo t (.p (.int .i64 (S : Int))) (.p (.int .i64 ((pw j : Nat) : Int))) = some (.int .i64 ((S / pw j : Nat) : Int)) := by
 have hp := Um j;rw [Zjb (by omega)]
 have e : (S : Int).tdiv ((pw j : Nat) : Int) = ((S / pw j : Nat) : Int) := by
  rw [Int.tdiv_eq_ediv_of_nonneg (by omega)]; exact (Int.natCast_ediv _ _).symm
 have hle := Nat.div_le_self S (pw j);rw [e, ZtG hS hle]
theorem ZgH {P : Program} {t : TypeId} {S : Nat} : Yb P .rem t (.p (.int .i64 (S : Int))) (.p (.int .i64 2)) = some (.int .i64 ((S % 2 : Nat) : Int)) := by
 rw [Zii (by omega), Int.tmod_eq_emod_of_nonneg (by omega)]
 rfl
theorem ZtY {S j : Nat} (hS : S < 9223372036854775808) : (IntKind.i64.wrap ((S : Int) / ((pw j : Nat) : Int))).tmod 2 = ((S / pw j % 2 : Nat) : Int) := by
 have hle := Nat.div_le_self S (pw j);rw [<- Int.natCast_ediv, ZtG hS hle, Int.tmod_eq_emod_of_nonneg (Int.natCast_nonneg _)]
 rfl
theorem Zep {P : Program} {t : TypeId} {j : Nat} (h : j < 63) : Yb P .mul t (.p (.int .i64 ((pw j : Nat) : Int))) (.p (.int .i64 2)) = some (.int .i64 (Zjq (j + 1))) := by
 rw [Zg8]
 congr 2
 have hs := WV j;unfold Zjq
 split
 ·have hj : j = 62 := by omega
  subst hj;rw [Qe]; decide
 ·have := ZpJ (show j + 1 <= 62 by omega)
  have e : ((pw j : Nat) : Int) * 2 = ((pw (j + 1) : Nat) : Int) := by omega
  rw [e]
  exact by rw [IntKind.wrap_i64]; omega
theorem Zh4 (t : Typ) (s : Int) (h1 : t.skills < 9223372036854775808) (h2 : s < 9223372036854775808) : PC 174 [.p (QP t), .p (.int .i64 s)] (.bool (Ye t s)) := by
 refine Za Tryz.func174 rfl Zsz ?_;simp (disch := omega) only [Tryz.f174, go_sem, seval];refine gF ?_ ?_ <;> intro c1 <;> simp (disch := omega) only [Sh.out c1, go_sem, seval]
 ·have : Ye t s = false := by
   have : ¬ 0 <= t.skills := by omega
   simp [Ye, this]
  rw [this]
 ·refine cD ?_ ?_ <;> intro c2 <;> simp (disch := omega) only [Sh.out c2, go_sem, seval]
  ·have : Ye t s = false := by
    have : ¬ 0 <= s := by omega
    simp [Ye, this]
   rw [this]
  ·obtain ⟨M, hM⟩ : ∃ M : Nat, t.skills = (M : Int) := ⟨t.skills.toNat, by omega⟩;obtain ⟨S, rfl⟩ : ∃ S : Nat, s = (S : Int) := ⟨s.toNat, by omega⟩
   have hMl : M < 9223372036854775808 := by omega
   have hSl : S < 9223372036854775808 := by omega
   have hab : ∀ b : Bool, ((List.range 63).all fun i => !S.testBit i || M.testBit i) = b -> Ye t (S : Int) = b := fun b hb => by
    have g1 : 0 <= t.skills := by omega
    have g2 : (0 : Int) <= (S : Int) := by omega
    simp only [Ye, g1, g2, decide_true, Bool.true_and, hM, Int.toNat_natCast];exact hb
   refine Zf [1, 2] (fun j : Nat => [(5, .p (.int .i64 (Zjq j)))]) (fun _ => [Xm t]) (fun j => j <= 63 /\ ∀ i, i < j -> (!S.testBit i || M.testBit i) = true) (fun j => 63 - j) 0 (by simp) (Weak.mk ?_) ?_
   ·simp (disch := omega) only [Xm, hM, show Zjq 0 = 1 from rfl, go_sem, seval]
   ·rintro j ⟨hj, hno⟩;simp (disch := omega) only [Xm, hM, go_sem, seval];refine cD ?_ ?_ <;> intro c3 <;> simp (disch := omega) only [Sh.out c3, go_sem, seval]
    ·have hj2 : j < 63 := (Zcn hj).1 c3;simp (disch := omega) only [Zbh hj2, Zb3 hSl, Zb3 hMl, ZtY hSl, ZtY hMl, ZgH, Zep hj2, Zbz, ZgB, go_sem, seval];refine gT ?_ ?_ <;> intro c4 <;> simp (disch := omega) only [Sh.out c4, Zbh hj2, Zb3 hSl, Zb3 hMl, ZtY hSl, ZtY hMl, ZgH, Zep hj2, Zbz, ZgB, go_sem, seval]
     ·refine cD ?_ ?_ <;> intro c5 <;> simp (disch := omega) only [Sh.out c5, Zbh hj2, Zep hj2, go_sem, seval]
      ·rw [hab false (by rw [List.all_eq_false]; exact ⟨j, List.mem_range.2 hj2, by simp [c4, c5]⟩)]
      ·exact ⟨j + 1, ⟨by omega, Zh.2 ⟨hno, by simp [c4] at c5 ⊢; exact c5⟩⟩, by omega, Weak.mk (by simp (disch := omega) only [Xm, hM, go_sem, seval])⟩
     ·exact ⟨j + 1, ⟨by omega, Zh.2 ⟨hno, by simp at c4; simp [c4]⟩⟩, by omega, Weak.mk (by simp (disch := omega) only [Xm, hM, go_sem, seval])⟩
    ·have hj63 : j = 63 := by
      rcases Nat.lt_or_ge j 63 with h | h
      ·exact absurd ((Zcn hj).2 h) c3
      ·omega
     subst hj63;rw [hab true (by rw [List.all_eq_true]; intro i hi; exact hno i (List.mem_range.1 hi))]
def Zmd (s : Stp) (a : Int) : Int × Int := if max a s.opn > s.cls then (0, 14) else (max a s.opn, 0)
theorem ZlO (s : Stp) (a : Int) : PT 324 [.p (ZhB s), .p (.int .i64 a)] [.p (.int .i64 (Zmd s a).1), .p (.int .i64 (Zmd s a).2)] := by
 refine Zc [] Tryz.func324 rfl Zrt ?_;simp (disch := omega) only [Tryz.f324, go_sem, seval];refine cD ?_ ?_ <;> intro h <;> simp (disch := omega) only [Sh.out h, go_sem, seval]
 ·have e : Zmd s a = (0, 14) := by rw [Zmd, if_pos (by omega)]
  rw [e];exact we
 ·have e : Zmd s a = (max a s.opn, 0) := by rw [Zmd, if_neg (by omega)]
  rw [e];exact we
theorem Zig (l : List Ord) (c : Bool) (p : Int) (hl : l.length <= 1048576) : PC 246 [.p (.list c (l.map QJ)), .p (.int .i64 p)] (.bool (decide (0 <= p) && decide (p < (l.length : Int)))) := by
 refine Za Tryz.func246 rfl Zj2 ?_;simp (disch := omega) only [Tryz.f246, go_sem, seval];refine gT ?_ ?_ <;> intro h <;> simp (disch := omega) only [Sh.out h, go_sem, seval]
 all_goals simp [h]
theorem Zfe (x : Inst) (v : Vis) (ho : x.orders.length <= 1048576) (hv : inB x v = true) (hp : 0 <= (XL x v).place) : PT 218 [.p (.list x.orders_c (x.orders.map QJ)), .p (eVis v)] [.p (ZhB (XL x v)), .p (.int .i64 0)] := by
 refine Zc [] Tryz.func218 rfl ZoU ?_;simp (disch := omega) only [Tryz.f218, go_sem, seval];have hv' := hv;rw [inB] at hv';have ct := Zig x.orders x.orders_c v.order ho;rw [hv'] at ct;refine ct.use ?_;simp only [Bool.and_eq_true, decide_eq_true_eq] at hv';obtain ⟨h1, h2⟩ := hv'
 have hi : v.order.toNat < x.orders.length := by omega
 simp (disch := omega) only [go_sem, seval];refine cD ?_ ?_ <;> intro hd <;> simp (disch := omega) only [Sh.out hd, go_sem, seval]
 ·have e : XL x v = (nth x.orders v.order.toNat).drp := by simp [XL, hd]
  rw [e] at hp ⊢
  have e3 : ¬ (nth x.orders v.order.toNat).drp.place < 0 := by omega
  simp (disch := omega) only [e3, go_sem, seval];exact we
 ·have e : XL x v = (nth x.orders v.order.toNat).pick := by simp [XL, hd]
  rw [e] at hp ⊢
  have e3 : ¬ (nth x.orders v.order.toNat).pick.place < 0 := by omega
  simp (disch := omega) only [e3, go_sem, seval];exact we
theorem Zlo (l : List Typ) (c : Bool) (ht : l.length <= 1048576) : PC 304 [.p (.list c (l.map QP))] (.int .i64 (dimsOf l)) := by
 refine Za Tryz.func304 rfl Zqp ?_;simp (disch := omega) only [Tryz.f304, go_sem, seval];refine cD ?_ ?_ <;> intro h1 <;> simp (disch := omega) only [Sh.out h1, go_sem, seval]
 ·have : l.length = 0 := by omega
  simp [dimsOf, this]
 ·have h2 : ¬ l.length = 0 := by omega
  simp only [dimsOf, h2, if_false]
theorem Zkp (a b : List Int) (c d : Bool) (ha : a.length <= 1048576) (hb : b.length <= 1048576) : PC 271 [.p (.list c (a.map eI)), .p (.list d (b.map eI))] (.bool (YR a b)) := by
 refine Za Tryz.func271 rfl Zr0 ?_;simp (disch := omega) only [Tryz.f271, go_sem, seval];refine cD ?_ ?_ <;> intro h1 <;> simp (disch := omega) only [Sh.out h1, go_sem, seval]
 ·have : ¬ a.length = b.length := by omega
  simp [YR, this]
 ·have h1' : a.length = b.length := by omega
  refine Zf [1, 12, 13] (fun k : Nat => [(14, .p (.int .i64 k))]) (fun _ => []) (fun k => k <= a.length /\ ∀ j, j < k -> nth a j <= nth b j) (fun k => a.length - k) 0 (by simp) (Weak.mk ?_) ?_
  ·simp (disch := omega) only [go_sem, seval]
  ·rintro k ⟨hk, hno⟩;simp (disch := omega) only [go_sem, seval];refine cD ?_ ?_ <;> intro h2 <;> simp (disch := omega) only [Sh.out h2, go_sem, seval]
   ·have hk2 : k < a.length := by omega
    refine cD ?_ ?_ <;> intro h3 <;> simp (disch := omega) only [Sh.out h3, go_sem, seval]
    ·have : YR a b = false := by
      cases hf : YR a b with
      | false => rfl
      | true => simp [YR, List.all_eq_true] at hf; have := hf.2 k hk2; omega
     rw [this]
    ·exact ⟨k + 1, ⟨by omega, Zh.2 ⟨hno, by omega⟩⟩, by omega, wk⟩
   ·have hkl : k = a.length := by omega
    subst hkl
    have : YR a b = true := by
     simp only [YR, Bool.and_eq_true, decide_eq_true_eq, List.all_eq_true, List.mem_range];exact ⟨h1', fun i hi => hno i hi⟩
    rw [this]
theorem Zbe {S M : Nat} (hS : S < 9223372036854775808) : (IntKind.i64.wrap ((BitVec.ofInt 64 (S : Int) &&& ~~~BitVec.ofInt 64 (M : Int)).toNat : Int) = 0) ↔ ((List.range 63).all fun i => !S.testBit i || M.testBit i) = true := by
 rw [BitVec.ofInt_natCast, BitVec.ofInt_natCast]
 have hz : (BitVec.ofNat 64 S &&& ~~~BitVec.ofNat 64 M).toNat <= S := by
  rw [BitVec.toNat_and];exact Nat.le_trans Nat.and_le_left (by simp [Nat.mod_le])
 have hw : IntKind.i64.wrap ((BitVec.ofNat 64 S &&& ~~~BitVec.ofNat 64 M).toNat : Int) = ((BitVec.ofNat 64 S &&& ~~~BitVec.ofNat 64 M).toNat : Int) := by rw [IntKind.wrap_i64]; omega
 rw [hw]
 constructor
 ·intro h;have h0 : BitVec.ofNat 64 S &&& ~~~BitVec.ofNat 64 M = 0#64 := BitVec.eq_of_toNat_eq (by rw [BitVec.toNat_ofNat]; omega);rw [List.all_eq_true];intro i hi;have hi := List.mem_range.1 hi;have := congrArg (fun b => b.getLsbD i) h0;simp only [BitVec.getLsbD_and, BitVec.getLsbD_not, BitVec.getLsbD_ofNat, show i < 64 by omega, decide_true, Bool.true_and, BitVec.getLsbD_zero] at this
  cases h1 : S.testBit i <;> cases h2 : M.testBit i <;> simp [h1, h2] at this ⊢
 ·intro h
  have h0 : BitVec.ofNat 64 S &&& ~~~BitVec.ofNat 64 M = 0#64 := by
   apply BitVec.eq_of_getLsbD_eq;intro i hi;simp only [BitVec.getLsbD_and, BitVec.getLsbD_not, BitVec.getLsbD_ofNat, hi, decide_true, Bool.true_and, BitVec.getLsbD_zero]
   by_cases g : i < 63
   ·have := List.all_eq_true.1 h i (List.mem_range.2 g)
    cases h1 : S.testBit i <;> cases h2 : M.testBit i <;> simp [h1, h2] at this ⊢
   ·have hi63 : i = 63 := by omega
    subst hi63;rw [Nat.testBit_lt_two_pow (by simpa using hS)]; rfl
  rw [h0]; rfl
theorem ZkB (t : Typ) (s : Int) (h1 : t.skills < 9223372036854775808) (h2 : s < 9223372036854775808) : PC 267 [.p (QP t), .p (.int .i64 s)] (.bool (Ye t s)) := by
 refine Za Tryz.func267 rfl Zpv ?_;simp (disch := omega) only [Tryz.f267, go_sem, seval];refine gT ?_ ?_ <;> intro c1 <;> simp (disch := omega) only [Sh.out c1, go_sem, seval]
 ·refine gT ?_ ?_ <;> intro c2 <;> simp (disch := omega) only [Sh.out c2, go_sem, seval]
  ·obtain ⟨M, hM⟩ : ∃ M : Nat, t.skills = (M : Int) := ⟨t.skills.toNat, by omega⟩;obtain ⟨S, rfl⟩ : ∃ S : Nat, s = (S : Int) := ⟨s.toNat, by omega⟩;have hb := Zbe (S := S) (M := M) (by omega)
   have e : Ye t (S : Int) = (List.range 63).all fun i => !S.testBit i || M.testBit i := by
    have g1 : (0 : Int) <= (M : Int) := by omega
    have g2 : (0 : Int) <= (S : Int) := c2;simp only [Ye, hM, g1, g2, decide_true, Bool.true_and, Int.toNat_natCast]
   have hd : decide (IntKind.i64.wrap ((BitVec.ofInt 64 (S : Int) &&& ~~~BitVec.ofInt 64 (M : Int)).toNat : Int) = 0) = ((List.range 63).all fun i => !S.testBit i || M.testBit i) := by
    rw [Bool.eq_iff_iff];simp only [decide_eq_true_eq];exact hb
   rw [e, hM];exact congrArg (fun b => V.p (PV.bool b)) hd
  ·have : ¬ 0 <= s := by omega
   simp [Ye, this]
 ·have : ¬ 0 <= t.skills := by omega
  simp [Ye, this]
theorem Zom (a b : Int) (h : -1073741824 <= a /\ a <= 1073741824 /\ -1073741824 <= b /\ b <= 1073741824) : PC 329 [.p (.int .i64 a), .p (.int .i64 b)] (.int .i64 (a + b)) := by
 refine Za Tryz.func329 rfl Zr2 ?_;simp (disch := omega) only [Tryz.f329, go_sem, seval]
theorem ZlY (a b : Int) (h : -1073741824 <= a /\ a <= 1073741824 /\ -1073741824 <= b /\ b <= 1073741824) : PC 330 [.p (.int .i64 a), .p (.int .i64 b)] (.int .i64 (a - b)) := by
 refine Za Tryz.func330 rfl Zob ?_;simp (disch := omega) only [Tryz.f330, go_sem, seval]
def mkR (f : Nat -> Int) (n k : Nat) : List Int := (List.range n).map fun j => if j < k then f j else 0
theorem ZlH {f : Nat -> Int} {n k : Nat} : (mkR f n k).length = n := by simp [mkR]
theorem ZhX {f : Nat -> Int} {n : Nat} : mkR f n 0 = List.replicate n 0 := by
 apply List.ext_getElem (by simp [mkR]); intro i h1 h2; simp [mkR]
theorem Zh8 {f : Nat -> Int} {n : Nat} : mkR f n n = (List.range n).map f := by
 apply List.ext_getElem (by simp [mkR]); intro i h1 h2;simp [mkR] at h1 ⊢; omega
theorem ZlC {f : Nat -> Int} {n k : Nat} (h : k < n) : (mkR f n k).set k (f k) = mkR f n (k + 1) := by
 apply List.ext_getElem (by simp [mkR]); intro i h1 h2;rw [List.getElem_set];simp [mkR] at h1 ⊢
 split
 ·rename_i e; subst e; simp
 ·rename_i e
  have : (i < k) ↔ (i < k + 1) := by omega
  simp only [this]
theorem K3 (a b : List Int) (c d : Bool) (g : FuncId) (f : Int -> Int -> Int) (hl : a.length = b.length) (ha : a.length <= 1048576)
  (hf : ∀ j, j < a.length -> ACalls Tryz.prog g [.p (.int .i64 (nth a j)), .p (.int .i64 (nth b j))] [] fun x H' => x = .p (.int .i64 (f (nth a j) (nth b j))) /\ H' = []) :
  PT 328 [.p (.list c (a.map eI)), .p (.list d (b.map eI)), .fn (.func g) [] []] [.p (.list false (((List.range a.length).map fun j => f (nth a j) (nth b j)).map eI)), .p (.int .i64 0)] := by
 refine Zc [9] Tryz.func328 rfl Zn7 ?_;simp (disch := omega) only [Tryz.f328, go_sem, seval];refine cD ?_ ?_ <;> intro h0 <;> simp (disch := omega) only [Sh.out h0, go_sem, seval]
 ·omega
 ·have hz := ZhX (f := fun j => f (nth a j) (nth b j)) (n := a.length);have hml := fun k => ZlH (f := fun j => f (nth a j) (nth b j)) (n := a.length) (k := k);refine ZY [9] [0, 1, 2, 8, 19] (fun k : Nat => [(20, .p (.int .i64 k))]) (fun k => [.elems 1 ((mkR (fun j => f (nth a j) (nth b j)) a.length k).map eI)]) (fun k => k <= a.length) (fun k => a.length - k) 0 (by simp) (Weak.mk ?_) ?_
  ·simp (disch := omega) only [hz, go_sem, seval];rw [List.map_replicate]; rfl
  ·intro k hk;simp (disch := omega) only [go_sem, seval];refine cD ?_ ?_ <;> intro h1 <;> simp (disch := omega) only [Sh.out h1, go_sem, seval]
   ·have hk2 : k < a.length := by omega
    have hs := ZlC (f := fun j => f (nth a j) (nth b j)) (n := a.length) hk2;have hk3 := hml k;refine ZA 12 mixed (by kernel_rfl) (by kernel_rfl) ?_;simp (disch := omega) only [go_sem, seval];refine Zm (hf k hk2) ?_;simp (disch := omega) only [go_sem, seval];simp (disch := first | omega | (simp only [List.length_cons, List.length_nil, List.length_append, List.length_map, List.length_take, List.length_drop] <;> omega)) only [go_sem, seval];refine ⟨k + 1, by omega, by omega, Weak.mk ?_⟩;simp (disch := omega) only [<- hs, go_sem, seval];rw [List.map_set]; rfl
   ·have hkl : k = a.length := by omega
    subst hkl;rw [<- Zh8];have hk3 := hml a.length;refine Zn (Weak.fz (o := 0) (by rfl)) ?_;refine Zd [] _ _ _ _ ?_;simp (disch := omega) only [List.map_cons, List.map_nil, List.set_cons_succ, List.set_cons_zero, go_sem, seval];rw [if_pos hk3];exact we
theorem ZjT (a b : List Int) (c d : Bool) (hl : a.length = b.length) (ha : a.length <= 1048576) (h : ∀ j, j < a.length -> -1073741824 <= nth a j /\ nth a j <= 1073741824 /\ -1073741824 <= nth b j /\ nth b j <= 1073741824) : PT 305 [.p (.list c (a.map eI)), .p (.list d (b.map eI))] [.p (.list false ((ZeO a b).map eI)), .p (.int .i64 0)] := by
 refine Zc [] Tryz.func305 rfl Ztg ?_;simp (disch := omega) only [Tryz.f305, go_sem, seval];refine Xs (K3 a b c d 329 (fun m n => m + n) hl ha fun j hj => Zom _ _ (h j hj)) ?_;simp (disch := omega) only [ZeO, go_sem, seval];exact we
theorem ZrW (a b : List Int) (c d : Bool) (hl : a.length = b.length) (ha : a.length <= 1048576) (h : ∀ j, j < a.length -> -1073741824 <= nth a j /\ nth a j <= 1073741824 /\ -1073741824 <= nth b j /\ nth b j <= 1073741824) : PT 306 [.p (.list c (a.map eI)), .p (.list d (b.map eI))] [.p (.list false ((Zu8 a b).map eI)), .p (.int .i64 0)] := by
 refine Zc [] Tryz.func306 rfl ZpS ?_;simp (disch := omega) only [Tryz.f306, go_sem, seval];refine Xs (K3 a b c d 330 (fun m n => m - n) hl ha fun j hj => ZlY _ _ (h j hj)) ?_;simp (disch := omega) only [Zu8, go_sem, seval];exact we
theorem ZhU (x : Inst) (r : Rte) (ht : 0 <= r.typ /\ r.typ < (x.types.length : Int)) (hv : ∀ v ∈ r.visits, inB x v = true) (hl : r.visits.length <= 1048576) (hxl : x.types.length <= 1048576) (hol : x.orders.length <= 1048576)
  (hs : (Z0 x r).skills < 9223372036854775808) (ho : ∀ o ∈ x.orders, o.skills < 9223372036854775808) :
  PC 195 [.p (ZG x), .p (YZ r)] (.int .i64 (if (r.visits.any fun v => !Ye (Z0 x r) (nth x.orders v.order.toNat).skills) = true then 18 else 0)) := by
 refine Za Tryz.func195 rfl ZsL ?_;simp (disch := omega) only [Tryz.f195, go_sem, seval];refine Zf [2, 3, 8, 9] (fun k : Nat => [(10, .p (.int .i64 k))]) (fun _ => [Zb x, .cells [.p (.int .i64 r.typ), .p (.int .i64 r.start), .p (.list r.rests_c (r.rests.map eB)), .p (.list r.visits_c (r.visits.map eVis))]]) (fun k => k <= r.visits.length /\ ∀ j, j < k -> Ye (Z0 x r) (nth x.orders (nth r.visits j).order.toNat).skills = true) (fun k => r.visits.length - k) 0 (by simp) (Weak.mk ?_) ?_
 ·simp (disch := omega) only [Zb, go_sem, seval]
 ·rintro k ⟨hk, hno⟩;simp (disch := omega) only [Zb, go_sem, seval];refine cD ?_ ?_ <;> intro h1 <;> simp (disch := omega) only [Sh.out h1, go_sem, seval]
  ·have hk2 : k < r.visits.length := by omega
   have hin := hv _ (Z7 hk2);simp only [inB, Bool.and_eq_true, decide_eq_true_eq] at hin;obtain ⟨i1, i2⟩ := hin
   have hi : (nth r.visits k).order.toNat < x.orders.length := by omega
   have ho' := ho _ (Z7 hi);refine Zi mixed (by kernel_rfl) (by kernel_rfl) ?_;simp (disch := omega) only [go_sem, seval];refine Zm (ZkB (Z0 x r) (nth x.orders (nth r.visits k).order.toNat).skills (by omega) (by omega)) ?_;simp (disch := omega) only [go_sem, seval];refine cD ?_ ?_ <;> intro h2 <;> simp (disch := omega) only [Sh.out h2, go_sem, seval]
   ·have : (r.visits.any fun v => !Ye (Z0 x r) (nth x.orders v.order.toNat).skills) = true := by
     rw [List.any_eq_true]; exact ⟨_, Z7 hk2, h2⟩
    rw [if_pos this]
   ·exact ⟨k + 1, ⟨by omega, Zh.2 ⟨hno, by simpa using h2⟩⟩, by omega, Weak.mk (by simp (disch := omega) only [Zb, go_sem, seval])⟩
  ·have : ¬ (r.visits.any fun v => !Ye (Z0 x r) (nth x.orders v.order.toNat).skills) = true := by
    rw [List.any_eq_true];rintro ⟨v, hv, e⟩;obtain ⟨j, hj, rfl⟩ := List.mem_iff_getElem.1 hv;have := hno j (by omega);rw [Ze hj] at this;rw [this] at e; cases e
   rw [if_neg this]
theorem orN {a b : Nat} (ha : a < 4611686018427387904) (hb : b < 4611686018427387904) : IntKind.i64.wrap ((BitVec.ofInt 64 (a : Int) ||| BitVec.ofInt 64 (b : Int)).toNat : Int) = ((a ||| b : Nat) : Int) := by
 have h : (a ||| b) < 2 ^ 62 := Nat.or_lt_two_pow (by simpa using ha) (by simpa using hb);rw [BitVec.ofInt_natCast, BitVec.ofInt_natCast, BitVec.toNat_or, BitVec.toNat_ofNat, BitVec.toNat_ofNat, Nat.mod_eq_of_lt (by omega), Nat.mod_eq_of_lt (by omega), IntKind.wrap_i64];omega
@[go_sem high] theorem Zis {P : Program} {t : TypeId} {a b : Nat} (ha : a < 4611686018427387904) (hb : b < 4611686018427387904) : Yb P .or t (.p (.int .i64 (a : Int))) (.p (.int .i64 (b : Int))) = some (.int .i64 ((a ||| b : Nat) : Int)) := by
 rw [ZgN]; exact congrArg (fun z => some (PV.int .i64 z)) (orN ha hb)
def stF (x : Inst) (d : Nat) (ms : List Int) (k : Nat) : List Int := (ms.take k).foldl (fun s i => if (nth x.orders i.toNat).pick.place < 0 then ZeO s (nth x.orders i.toNat).load else s) (List.replicate d 0)
theorem Zca {x : Inst} {d : Nat} {ms : List Int} {k : Nat} (h : k < ms.length) : stF x d ms (k + 1) = if (nth x.orders (nth ms k).toNat).pick.place < 0 then ZeO (stF x d ms k) (nth x.orders (nth ms k).toNat).load else stF x d ms k := by
 rw [stF, List.take_succ_eq_append_getElem h, List.foldl_append, Ze h]; rfl
theorem Zeb {x : Inst} {d : Nat} {ms : List Int} (hms : ∀ i ∈ ms, ∀ j, j < d -> 0 <= nth (nth x.orders i.toNat).load j /\ nth (nth x.orders i.toNat).load j <= 1000) : ∀ k, k <= ms.length -> (stF x d ms k).length = d /\ ∀ j, j < d -> 0 <= nth (stF x d ms k) j /\ nth (stF x d ms k) j <= 1000 * k
 | 0, _ => by
  refine ⟨by simp [stF], fun j hj => ?_⟩
  have : nth (stF x d ms 0) j = 0 := by
   show nth (List.replicate d 0) j = 0
   rw [Ze (by simpa using hj)]; simp
  omega
 | k + 1, h => by
  obtain ⟨h1, h2⟩ := Zeb hms k (by omega);rw [Zca (by omega)]
  split
  ·refine ⟨by simp [ZeO, h1], fun j hj => ?_⟩;have a1 := h2 j hj;have a2 := hms _ (Z7 (show k < ms.length by omega)) j hj;rw [ZeO, VQ (by omega)];omega
  ·exact ⟨h1, fun j hj => by have := h2 j hj; omega⟩
theorem Zll (x : Inst) (S : Int) (d : Nat) (hd : d <= 3) (hol : x.orders.length <= 1048576) (hms : ∀ i ∈ Z6 S 63, 0 <= i /\ i < (x.orders.length : Int)) (hml : (Z6 S 63).length <= 63)
  (hld : ∀ o ∈ x.orders, o.load.length = d /\ ∀ n ∈ o.load, 0 <= n /\ n <= 1000) :
  PC 303 [.p (ZG x), .p (.int .i64 S), .p (.int .i64 (d : Int))] (.list false ((stF x d (Z6 S 63) (Z6 S 63).length).map eI)) := by
 have hmo : ∀ i ∈ Z6 S 63, i.toNat < x.orders.length := fun i hi => by have := hms i hi; omega
 have hrg := Zeb (x := x) (d := d) (ms := Z6 S 63) fun i hi j hj => by
  obtain ⟨l1, l2⟩ := hld _ (Z7 (hmo i hi));exact l2 _ (Z7 (by omega))
 refine Za Tryz.func303 rfl ZsJ ?_;simp (disch := omega) only [Tryz.f303, go_sem, seval];refine (YG S).useF ?_;simp (disch := omega) only [go_sem, seval];refine Zn ((Weak.fz (o := 1) (by rfl)).trans (Weak.fz (o := 2) (by rfl))) ?_;simp (disch := omega) only [List.map_cons, List.map_nil, List.set_cons_succ, List.set_cons_zero, List.cons_append, List.nil_append, List.length_replicate, eq_self, if_true, go_sem, seval]
 have hz : List.replicate d (PV.int .i64 0) = (stF x d (Z6 S 63) 0).map eI := by
  show _ = (List.replicate d 0).map eI
  rw [List.map_replicate]; rfl
 refine Zf [3, 13, 14] (fun k : Nat => [(7, .p (.list false ((stF x d (Z6 S 63) k).map eI))), (15, .p (.int .i64 k))]) (fun _ => [Zb x, .dead, .dead]) (fun k => k <= (Z6 S 63).length) (fun k => (Z6 S 63).length - k) 0 (by simp) (Weak.mk ?_) ?_
 ·simp (disch := omega) only [Zb, hz, go_sem, seval]
 ·intro k hk;have hk1 := hrg k hk;have hsn := fun h => Zca (x := x) (d := d) (ms := Z6 S 63) (k := k) h;simp (disch := omega) only [Zb, go_sem, seval];refine cD ?_ ?_ <;> intro h1 <;> simp (disch := omega) only [Sh.out h1, go_sem, seval]
  ·have hk2 : k < (Z6 S 63).length := by omega
   have hm := hms _ (Z7 hk2);have hi := hmo _ (Z7 hk2);have hlo := hld _ (Z7 hi);have hsn := hsn hk2;simp (disch := omega) only [go_sem, seval];refine cD ?_ ?_ <;> intro h2 <;> simp (disch := omega) only [Sh.out h2, go_sem, seval]
   ·rw [if_pos h2] at hsn;refine Xs (ZjT (stF x d (Z6 S 63) k) (nth x.orders (nth (Z6 S 63) k).toNat).load false (nth x.orders (nth (Z6 S 63) k).toNat).load_c (by omega) (by omega) fun j hj => ?_) ?_
    ·have b1 := hk1.2 j (by omega);have b2 := hlo.2 _ (Z7 (show j < (nth x.orders (nth (Z6 S 63) k).toNat).load.length by omega));omega
    ·simp (disch := omega) only [go_sem, seval];exact ⟨k + 1, by omega, by omega, Weak.mk (by simp (disch := omega) only [Zb, hsn, go_sem, seval])⟩
   ·rw [if_neg h2] at hsn;exact ⟨k + 1, by omega, by omega, Weak.mk (by simp (disch := omega) only [Zb, hsn, go_sem, seval])⟩
  ·have hkl : k = (Z6 S 63).length := by omega
   subst hkl
   trivial
theorem ZdF {p : Nat -> Bool} {n : Nat} (h : ∀ i, n <= i -> p i = false) : ∀ k, n <= k -> (List.range k).filter p = (List.range n).filter p := by
  intro k hk
  induction k with
  | zero => have : n = 0 := by omega
            subst this; rfl
  | succ k ih =>
    by_cases e : n = k + 1
    · subst e; rfl
    · rw [List.range_succ, List.filter_append, ih (by omega)]
      simp [h k (by omega)]
theorem Zzg {x : Inst} {l : List Vis} (hi : Inr x l) (hn : x.orders.length <= 10) : Z6 ((XJ l : Nat) : Int) 63 = ((List.range x.orders.length).filter fun (i : Nat) => hasO l (i : Int)).map fun (i : Nat) => (i : Int) := by
 have key : ∀ i : Nat, i <= 62 -> Ze8 ((XJ l : Nat) : Int) (i : Int) = hasO l (i : Int) := fun i h => by
  rw [VL _ _ h, Bool.eq_iff_iff, Zcs, XM]
  constructor
  ·rintro ⟨v, hv, e⟩;exact ⟨v, hv, by have := hi v hv; omega⟩
  ·rintro ⟨v, hv, e⟩;exact ⟨v, hv, by omega⟩
 unfold Z6;rw [List.filter_congr (q := fun (i : Nat) => hasO l (i : Int)) (fun i hm => key i (by have := List.mem_range.1 hm; omega)), ZdF (n := x.orders.length) (fun i h => ?_) 63 (by omega)]
 cases hh : hasO l (i : Int) with
 | false => rfl
 | true =>
  obtain ⟨v, hv, e⟩ := XM.1 hh;have := hi v hv;omega
theorem Zmc {x : Inst} {d : Nat} : ∀ (L : List Nat) (g : Nat -> Int), (L.map fun (i : Nat) => (i : Int)).foldl (fun s (i : Int) => if (nth x.orders i.toNat).pick.place < 0 then ZeO s (nth x.orders i.toNat).load else s) ((List.range d).map g) = (List.range d).map fun j => g j + (L.map fun i => if (nth x.orders i).pick.place < 0 then nth (nth x.orders i).load j else 0).sum
 | [], g => by simp
 | i :: L, g => by
  rw [List.map_cons, List.foldl_cons, Int.toNat_natCast]
  by_cases h : (nth x.orders i).pick.place < 0
  ·have e : ZeO ((List.range d).map g) (nth x.orders i).load = (List.range d).map fun j => g j + nth (nth x.orders i).load j := by
    rw [ZeO, List.length_map, List.length_range]
    exact List.map_congr_left fun j hj => by rw [VQ (List.mem_range.1 hj)]
   rw [if_pos h, e, Zmc L];refine List.map_congr_left fun j _ => ?_;rw [List.map_cons, List.sum_cons, if_pos h]; omega
  ·rw [if_neg h, Zmc L];refine List.map_congr_left fun j _ => ?_;rw [List.map_cons, List.sum_cons, if_neg h]; omega
theorem Zeo {x : Inst} {l : List Vis} (hi : Inr x l) (hn : x.orders.length <= 10) : stF x (dimsOf x.types).toNat (Z6 ((XJ l : Nat) : Int) 63) (Z6 ((XJ l : Nat) : Int) 63).length = Wl x l 0 := by
 rw [stF, List.take_length, Zzg hi hn];have := Zmc (x := x) (d := (dimsOf x.types).toNat) ((List.range x.orders.length).filter fun (i : Nat) => hasO l (i : Int)) fun _ => 0
 have e : (List.range (dimsOf x.types).toNat).map (fun _ => (0 : Int)) = List.replicate (dimsOf x.types).toNat 0 := by
  rw [List.map_const', List.length_range]
 rw [e] at this;rw [this, Wl];refine List.map_congr_left fun j _ => ?_;rw [Int.zero_add, Ws, Zd3]
 congr 1
 refine List.map_congr_left fun i _ => ?_;rw [ZiV]
 by_cases h : (nth x.orders i).pick.place < 0 <;> cases hasO l (i : Int) <;> simp [h]
theorem ZiT {x : Inst} {l : List Vis} {n j : Nat} {d : Nat} (hj : j < d) (hld : ∀ o ∈ x.orders, o.load.length = d /\ ∀ n ∈ o.load, 0 <= n /\ n <= 1000) (hn : x.orders.length <= 10) : 0 <= Zd3 x l n j /\ Zd3 x l n j <= 10000 := by
 have key := Zef (f := fun i => if i < x.orders.length then (if (onB x l n i && hasO l i) = true then nth (nth x.orders i).load j else 0) else 0) (b := 1000) (by omega) (fun q => by
  split
  ·rename_i hq
   split
   ·obtain ⟨h1, h2⟩ := hld _ (Z7 hq);exact h2 _ (Z7 (by omega))
   ·omega
  ·omega) x.orders.length
 have e : Zd3 x l n j = ((List.range x.orders.length).map fun i => if i < x.orders.length then (if (onB x l n i && hasO l i) = true then nth (nth x.orders i).load j else 0) else 0).sum := by
  rw [Zd3]
  congr 1
  exact List.map_congr_left fun i hi => by rw [if_pos (List.mem_range.1 hi)]
 rw [e]
 have : (1000 : Int) * x.orders.length <= 10000 := by omega
 omega
theorem Zip {x : Inst} {l : List Vis} {n j : Nat} (hj : j < (dimsOf x.types).toNat) (hd : LdOk x) : 0 <= nth (Wl x l n) j /\ nth (Wl x l n) j <= 10000 := by
 rw [Wl, VQ hj];exact ZiT hj (fun o ho => by obtain ⟨h1, h2⟩ := hd.load o ho; exact ⟨by omega, h2⟩) hd.ord
theorem Zdm (l : List Vis) (c : Bool) (n : Nat) (hn : n < l.length) (hl : l.length <= 1048576) : PC 231 [.p (.list c (l.map eVis)), .p (.int .i64 (n : Nat))] (.bool (Y4 l n)) := by
 refine Za Tryz.func231 rfl Zro ?_;simp (disch := omega) only [Tryz.f231, go_sem, seval];refine Zf [0, 1] (fun k : Nat => [(5, .p (.int .i64 k))]) (fun _ => []) (fun k => k <= n /\ ∀ j, j < k -> (nth l j).order ≠ (nth l n).order) (fun k => n - k) 0 (by simp) (Weak.mk ?_) ?_
 ·simp (disch := omega) only [go_sem, seval]
 ·rintro k ⟨hk, hno⟩;simp (disch := omega) only [go_sem, seval];refine cD ?_ ?_ <;> intro h1 <;> simp (disch := omega) only [Sh.out h1, go_sem, seval]
  ·have hk2 : k < n := by omega
   have hk3 : k < l.length := by omega
   refine Zi mixed (by kernel_rfl) (by kernel_rfl) ?_;simp (disch := omega) only [go_sem, seval];refine cD ?_ ?_ <;> intro h2 <;> simp (disch := omega) only [Sh.out h2, go_sem, seval]
   ·have : Y4 l n = false := by
     unfold Y4;rw [Bool.not_eq_false', List.any_eq_true];exact ⟨nth l k, J0 hk2 hk3, by simpa using h2⟩
    rw [this]
   ·exact ⟨k + 1, ⟨by omega, Zh.2 ⟨hno, h2⟩⟩, by omega, wk⟩
  ·have hkn : k = n := by omega
   subst hkn
   have : Y4 l k = true := by
    unfold Y4;rw [Bool.not_eq_true', List.any_eq_false];intro v hv;obtain ⟨j, j1, j2, rfl⟩ := UE hv;simpa using hno j j1
   rw [this]
def WH (c m o w : Int) : AM.Obj := .cells [.p (.int .i64 c), .p (.int .i64 m), .p (.int .i64 o), .p (.int .i64 w)]
theorem UJ {x : Inst} {l : List Vis} {t : Int} : ∀ n : Nat, (0 <= (chgF x l t n).1 /\ (chgF x l t n).1 <= n) /\ (0 <= (chgF x l t n).2 /\ (chgF x l t n).2 <= n)
 | 0 => by simp [chgF]
 | n + 1 => by
  have ih := UJ (x := x) (l := l) (t := t) n;rw [chgF]
  split
  ·simp only
   constructor <;> split <;> omega
  ·omega
theorem Zfu (x : Inst) (r : Rte) (s : She) (hty : 0 <= r.typ /\ r.typ < (x.types.length : Int)) (ho : x.orders.length <= 1048576) (ht : x.types.length <= 1048576) (hl : r.visits.length <= 1048576) (hv : Inr x r.visits)
  (hc : 0 <= (Z0 x r).fixed /\ (Z0 x r).fixed <= 100000 /\ 0 <= (Z0 x r).perMile /\ (Z0 x r).perMile <= 100 /\ 0 <= (Z0 x r).perTick /\ (Z0 x r).perTick <= 100) (ho2 : 0 <= (Z0 x r).opn /\ (Z0 x r).opn <= 4096)
  (hf : -4096 <= s.fin /\ s.fin <= 8192) (hm : 0 <= s.miles /\ s.miles <= 1000000) :
  PC 177 [.p (ZG x), .p (YZ r), .p (ZgD s)] (ZeT (ZjX x r s)) := by
 have hti : r.typ.toNat < x.types.length := by omega
 unfold ZjX;have htd : nth x.types r.typ.toNat = Z0 x r := rfl
 generalize Z0 x r = t at *
 have e1 : ¬ r.typ < 0 := by omega
 have e2 : ¬ (x.types.length : Int) <= r.typ := by omega
 have p1 : 0 <= t.perMile * s.miles /\ t.perMile * s.miles <= 100 * 1000000 := ⟨Int.mul_nonneg (by omega) (by omega), Int.mul_le_mul (by omega) (by omega) (by omega) (by omega)⟩
 have hW : -8192 <= s.fin - t.opn /\ s.fin - t.opn <= 8192 := by omega
 have p2 : -819200 <= t.perTick * (s.fin - t.opn) /\ t.perTick * (s.fin - t.opn) <= 819200 := by
  generalize s.fin - t.opn = w at hW;have a1 := Int.mul_le_mul_of_nonneg_left hW.2 (show 0 <= t.perTick by omega);have a2 := Int.mul_le_mul_of_nonneg_left hW.1 (show 0 <= t.perTick by omega);omega
 have p3 : -128 <= (s.fin - t.opn).tdiv 64 /\ (s.fin - t.opn).tdiv 64 <= 128 := by
  generalize s.fin - t.opn = w at hW;rcases Int.le_total 0 w with h | h
  ·rw [Int.tdiv_eq_ediv_of_nonneg h]; omega
  ·have : w.tdiv 64 = -((-w) / 64) := by rw [<- Int.tdiv_eq_ediv_of_nonneg (by omega), Int.neg_tdiv, Int.neg_neg]
   rw [this]; omega
 have p4 : 0 <= (s.fin - t.opn).tdiv 64 * (s.fin - t.opn).tdiv 64 /\ (s.fin - t.opn).tdiv 64 * (s.fin - t.opn).tdiv 64 <= 16384 := by
  generalize (s.fin - t.opn).tdiv 64 = q at p3;refine ⟨?_, ?_⟩
  ·rcases Int.le_total 0 q with h | h
   ·exact Int.mul_nonneg h h
   ·exact Int.mul_nonneg_of_nonpos_of_nonpos h h
  ·rcases Int.le_total 0 q with h | h
   ·have := Int.mul_le_mul p3.2 p3.2 h (by omega); omega
   ·have h2 : 0 <= -q := by omega
    have := Int.mul_le_mul (show -q <= 128 by omega) (show -q <= 128 by omega) h2 (by omega);rw [Int.neg_mul_neg] at this; omega
 refine Za Tryz.func177 rfl ZqJ ?_;simp (disch := omega) only [Tryz.f177, e1, e2, htd, go_sem, seval];refine Zf [3, 4, 6, 9] (fun k : Nat => [(10, .p (.int .i64 k))]) (fun k => [Zb x, Zw r, .cells [.p (.bool s.rest), .p (.int .i64 s.dep), .p (.list s.times_c (s.times.map eTim)), .p (.int .i64 s.fin), .p (.int .i64 s.miles)], WH 0 0 0 0, Xm t, WH (t.fixed + t.perMile * s.miles + t.perTick * (s.fin - t.opn)) (chgF x r.visits r.typ k).1 (chgF x r.visits r.typ k).2 ((s.fin - t.opn).tdiv 64 * (s.fin - t.opn).tdiv 64)]) (fun k => k <= r.visits.length) (fun k => r.visits.length - k) 0 (by simp) (Weak.mk ?_) ?_
 ·simp (disch := omega) only [Zb, Zw, Xm, WH, chgF, go_sem, seval]
 ·intro k hk;have hch := UJ (x := x) (l := r.visits) (t := r.typ) k;simp (disch := omega) only [Zb, Zw, Xm, WH, go_sem, seval];refine cD ?_ ?_ <;> intro h1 <;> simp (disch := omega) only [Sh.out h1, go_sem, seval]
  ·have hk2 : k < r.visits.length := by omega
   obtain ⟨v1, v2⟩ := hv _ (Zl hk2)
   have e3 : ¬ (nth r.visits k).order < 0 := by omega
   have e4 : ¬ (x.orders.length : Int) <= (nth r.visits k).order := by omega
   have v3 : (nth r.visits k).order.toNat < x.orders.length := by omega
   simp (disch := omega) only [e3, e4, go_sem, seval];refine (Zdm r.visits r.visits_c k hk2 hl).use ?_;simp (disch := omega) only [go_sem, seval];have hcs : chgF x r.visits r.typ (k + 1) = _ := chgF.eq_2 x r.visits r.typ k;refine cD ?_ ?_ <;> intro h2 <;> simp (disch := omega) only [Sh.out h2, go_sem, seval]
   ·have h2' : ¬ Y4 r.visits k = true := by simpa using h2
    exact ⟨k + 1, by omega, by omega, Weak.mk (by simp (disch := omega) only [Zb, Zw, Xm, WH, hcs, if_neg h2', go_sem, seval])⟩
   ·have h2' : Y4 r.visits k = true := by simpa using h2
    refine Zi mixed (by kernel_rfl) (by kernel_rfl) ?_;simp (disch := omega) only [go_sem, seval];refine gT ?_ ?_ <;> intro h3 <;> simp (disch := omega) only [Sh.out h3, go_sem, seval]
    ·refine cD ?_ ?_ <;> intro h4 <;> simp (disch := omega) only [Sh.out h4, go_sem, seval]
     ·have hn : ZH (nth x.orders (nth r.visits k).order.toNat).now r.typ = true := by simp [ZH, h3, h4]
      refine Zi mixed (by kernel_rfl) (by kernel_rfl) ?_;simp (disch := omega) only [go_sem, seval];refine gT ?_ ?_ <;> intro h5 <;> simp (disch := omega) only [Sh.out h5, go_sem, seval]
      ·refine cD ?_ ?_ <;> intro h6 <;> simp (disch := omega) only [Sh.out h6, go_sem, seval]
       ·have hl2 : ZH (nth x.orders (nth r.visits k).order.toNat).last r.typ = true := by simp [ZH, h5, h6]
        exact ⟨k + 1, by omega, by omega, Weak.mk (by simp (disch := omega) only [Zb, Zw, Xm, WH, hcs, if_pos h2', hn, hl2, Int.add_zero, Bool.false_eq_true, go_sem, seval])⟩
       ·have hl2 : ZH (nth x.orders (nth r.visits k).order.toNat).last r.typ = false := by simp only [Classical.not_not] at h6; simp [ZH, h6]
        exact ⟨k + 1, by omega, by omega, Weak.mk (by simp (disch := omega) only [Zb, Zw, Xm, WH, hcs, if_pos h2', hn, hl2, Int.add_zero, Bool.false_eq_true, go_sem, seval])⟩
      ·have hl2 : ZH (nth x.orders (nth r.visits k).order.toNat).last r.typ = false := by simp only [Classical.not_not] at h5; simp [ZH, h5]
       exact ⟨k + 1, by omega, by omega, Weak.mk (by simp (disch := omega) only [Zb, Zw, Xm, WH, hcs, if_pos h2', hn, hl2, Int.add_zero, Bool.false_eq_true, go_sem, seval])⟩
     ·have hn : ZH (nth x.orders (nth r.visits k).order.toNat).now r.typ = false := by simp only [Classical.not_not] at h4; simp [ZH, h4]
      refine Zi mixed (by kernel_rfl) (by kernel_rfl) ?_;simp (disch := omega) only [go_sem, seval];refine gT ?_ ?_ <;> intro h5 <;> simp (disch := omega) only [Sh.out h5, go_sem, seval]
      ·refine cD ?_ ?_ <;> intro h6 <;> simp (disch := omega) only [Sh.out h6, go_sem, seval]
       ·have hl2 : ZH (nth x.orders (nth r.visits k).order.toNat).last r.typ = true := by simp [ZH, h5, h6]
        exact ⟨k + 1, by omega, by omega, Weak.mk (by simp (disch := omega) only [Zb, Zw, Xm, WH, hcs, if_pos h2', hn, hl2, Int.add_zero, Bool.false_eq_true, go_sem, seval])⟩
       ·have hl2 : ZH (nth x.orders (nth r.visits k).order.toNat).last r.typ = false := by simp only [Classical.not_not] at h6; simp [ZH, h6]
        exact ⟨k + 1, by omega, by omega, Weak.mk (by simp (disch := omega) only [Zb, Zw, Xm, WH, hcs, if_pos h2', hn, hl2, Int.add_zero, Bool.false_eq_true, go_sem, seval])⟩
      ·have hl2 : ZH (nth x.orders (nth r.visits k).order.toNat).last r.typ = false := by simp only [Classical.not_not] at h5; simp [ZH, h5]
       exact ⟨k + 1, by omega, by omega, Weak.mk (by simp (disch := omega) only [Zb, Zw, Xm, WH, hcs, if_pos h2', hn, hl2, Int.add_zero, Bool.false_eq_true, go_sem, seval])⟩
    ·have hn : ZH (nth x.orders (nth r.visits k).order.toNat).now r.typ = false := by simp only [Classical.not_not] at h3; simp [ZH, h3]
     refine Zi mixed (by kernel_rfl) (by kernel_rfl) ?_;simp (disch := omega) only [go_sem, seval];refine gT ?_ ?_ <;> intro h5 <;> simp (disch := omega) only [Sh.out h5, go_sem, seval]
     ·refine cD ?_ ?_ <;> intro h6 <;> simp (disch := omega) only [Sh.out h6, go_sem, seval]
      ·have hl2 : ZH (nth x.orders (nth r.visits k).order.toNat).last r.typ = true := by simp [ZH, h5, h6]
       exact ⟨k + 1, by omega, by omega, Weak.mk (by simp (disch := omega) only [Zb, Zw, Xm, WH, hcs, if_pos h2', hn, hl2, Int.add_zero, Bool.false_eq_true, go_sem, seval])⟩
      ·have hl2 : ZH (nth x.orders (nth r.visits k).order.toNat).last r.typ = false := by simp only [Classical.not_not] at h6; simp [ZH, h6]
       exact ⟨k + 1, by omega, by omega, Weak.mk (by simp (disch := omega) only [Zb, Zw, Xm, WH, hcs, if_pos h2', hn, hl2, Int.add_zero, Bool.false_eq_true, go_sem, seval])⟩
     ·have hl2 : ZH (nth x.orders (nth r.visits k).order.toNat).last r.typ = false := by simp only [Classical.not_not] at h5; simp [ZH, h5]
      exact ⟨k + 1, by omega, by omega, Weak.mk (by simp (disch := omega) only [Zb, Zw, Xm, WH, hcs, if_pos h2', hn, hl2, Int.add_zero, Bool.false_eq_true, go_sem, seval])⟩
  ·have hkl : k = r.visits.length := by omega
   subst hkl
   rfl
theorem SqOk.len {x : Inst} {l : List Vis} (h : SqOk x l) (hn : x.orders.length <= 10) : l.length <= 20 := by
 have h1 := List.Nodup.length_le_of_subset (l₁ := l) (l₂ := (List.range 10).flatMap fun i : Nat => [(⟨(i : Int), false⟩ : Vis), ⟨(i : Int), true⟩]) h.nd (fun v hv => by
  obtain ⟨v1, v2⟩ := h.inr v hv;rw [List.mem_flatMap];refine ⟨v.order.toNat, List.mem_range.2 (by omega), ?_⟩;obtain ⟨o, d⟩ := v
  have e : ((o.toNat : Nat) : Int) = o := by simp only at v1; omega
  cases d <;> simp [e])
 have h2 : ((List.range 10).flatMap fun i : Nat => [(⟨(i : Int), false⟩ : Vis), ⟨(i : Int), true⟩]).length = 20 := rfl;omega
theorem SqOk.vis {x : Inst} {l : List Vis} (h : SqOk x l) {v : Vis} (hv : v ∈ l) : J6 x v = true := by
 obtain ⟨v1, v2⟩ := h.inr v hv;obtain ⟨i, hi⟩ : ∃ i : Nat, v.order = (i : Int) := ⟨v.order.toNat, by omega⟩;have ho := h.own (i := i) ⟨v, hv, hi⟩
 have hpl : 0 <= (XL x v).place := by
  unfold XL;rw [hi, Int.toNat_natCast]
  cases hd : v.drp with
  | true => exact ho.isD (by rw [<- hi, <- hd]; exact hv)
  | false => exact ho.isP (by rw [<- hi, <- hd]; exact hv)
 simp [J6, inB, v1, v2, hpl]
theorem Zml {x : Inst} {r : Rte} (h : SqOk x r.visits) (hn : x.orders.length <= 10) (ht : 0 <= r.typ /\ r.typ < (x.types.length : Int)) : Y9 x r = (decide (0 <= r.start) && decide (r.start <= 4096)) := by
 have h1 : r.visits.all (J6 x) = true := List.all_eq_true.2 fun v hv => h.vis hv;have h2 := h.len hn;simp [Y9, h1, h2, ht.1, ht.2]
theorem ZlE {n : Net} (h : netOk n) : netR n /\ ∀ a ∈ n.arcs, 0 <= a.miles /\ a.miles <= 10000 := by
 obtain ⟨⟨⟨h1, _⟩, h2⟩, h3⟩ := h
 have ha : ∀ a ∈ n.arcs, ZuV a /\ 0 <= a.miles /\ a.miles <= 10000 := fun a hm => by
  obtain ⟨i, hi, rfl⟩ := List.mem_iff_getElem.1 hm;have := h3 i hi;unfold ZcZ at this;rw [Ze hi] at this;obtain ⟨⟨⟨⟨⟨_, g1⟩, _⟩, g2⟩, g3⟩, g4⟩ := this;refine ⟨⟨g2, g3, fun p hp => ?_⟩, g1.2.2.1, g1.2.2.2.1⟩;obtain ⟨j, hj, rfl⟩ := List.mem_iff_getElem.1 hp;have := g4 j hj;unfold Vm at this;rw [Ze hj] at this;simp only [ZhS, rng, decide_eq_true_eq] at this;exact ⟨this.1.1, this.1.2, this.2.1.1, this.2.1.2⟩
 exact ⟨⟨by omega, by omega, fun a hm => (ha a hm).1⟩, fun a hm => (ha a hm).2⟩
theorem UG {x : Inst} (hx : InstOk x) {i : Nat} (hi : i < x.types.length) : (0 <= (nth x.types i).opn /\ (nth x.types i).opn <= (nth x.types i).cls /\ (nth x.types i).cls <= 4096) /\ (1 <= (nth x.types i).drive /\ (nth x.types i).drive <= 4096) /\ (0 <= (nth x.types i).rest /\ (nth x.types i).rest <= 4096) /\
  (0 <= (nth x.types i).fixed /\ (nth x.types i).fixed <= 100000 /\ 0 <= (nth x.types i).perMile /\ (nth x.types i).perMile <= 100 /\ 0 <= (nth x.types i).perTick /\ (nth x.types i).perTick <= 100) /\ (0 <= (nth x.types i).skills /\ (nth x.types i).skills <= 1073741823) := by
 have ht := hx.types.2 i hi;unfold QF at ht;obtain ⟨⟨⟨⟨⟨⟨⟨⟨_, _⟩, _⟩, _⟩, _⟩, h1⟩, h2⟩, h3⟩, h4⟩ := ht;simp only [rng, decide_eq_true_eq] at h1 h2 h3 h4;omega
theorem UL {x : Inst} {r : Rte} (hx : InstOk x) (ht : 0 <= r.typ /\ r.typ < (x.types.length : Int)) (h : SqOk x r.visits) : TrpOk x (Z0 x r) (ZV x r.visits) := by
 have hti : r.typ.toNat < x.types.length := by omega
 obtain ⟨t1, t2, t3, _⟩ := UG hx hti;obtain ⟨n1, n2⟩ := ZlE hx.net;refine ⟨n1, n2, t1, t2, t3, fun s hs => ?_, by rw [Xh]; exact h.len hx.orders.1⟩;obtain ⟨v, hv, rfl⟩ := List.mem_map.1 hs;obtain ⟨v1, v2⟩ := h.inr v hv
 have hi : v.order.toNat < x.orders.length := by omega
 have ho := hx.orders.2 _ hi;have hvis := h.vis hv;have hp := ho.pstp;have hd := ho.dstp;simp only [stpOk, decide_eq_true_eq] at hp hd;simp only [J6, Bool.and_eq_true, decide_eq_true_eq] at hvis;have h3 := hvis.2;unfold XL at h3 ⊢
 split
 ·rename_i c; rw [if_pos c] at h3; omega
 ·rename_i c; rw [if_neg c] at h3; omega
theorem ZbR {x t sp} (h : TrpOk x t sp) : ∀ (bs : List Bool) (k : Nat) (L : Lab), k + bs.length = sp.length + 1 -> LabR k L -> (X3 x t sp k L bs).2 = 0 -> LabR (sp.length + 1) (X3 x t sp k L bs).1 /\ (bs ≠ [] -> (X3 x t sp k L bs).1.she.fin = (X3 x t sp k L bs).1.ready)
 | [], k, L, hk, hl, h0 => by
  simp at hk; subst hk;exact ⟨hl, fun h => absurd rfl h⟩
 | b :: bs, k, L, hk, hl, h0 => by
  simp at hk;rw [X3] at h0 ⊢
  split at h0
  ·rename_i c;rw [if_pos c];obtain ⟨h1, h2⟩ := ZbR h bs (k + 1) _ (by omega) (ZaR h (by omega) hl c) h0;refine ⟨h1, fun _ => ?_⟩
   cases bs with
   | nil =>
    simp at hk;subst hk;exact ZbK (x := x) (t := t) (sp := sp) (y := L) (b := b) (by rw [X1, if_pos c]; rfl)
   | cons b2 bs => exact h2 (by simp)
  ·simp at h0; rename_i c; exact absurd h0 c
theorem Jo {x t sp} {st : Int} {r : List Bool} (h : TrpOk x t sp) (hs : 0 <= st /\ st <= 4096) (hr : r.length <= sp.length + 1) (h0 : (Uw x t sp st r).2 = 0) : (0 <= (Uw x t sp st r).1.fin /\ (Uw x t sp st r).1.fin <= 8192) /\ (0 <= (Uw x t sp st r).1.miles /\ (Uw x t sp st r).1.miles <= 210000) := by
 have hL0 : LabR 0 (XZ t st) := ⟨by have := h.opn; simp only [XZ]; omega, by simp [XZ], by simp [XZ, zShe]⟩;have hl := h.len
 have key : ∀ bs ∈ YN r (sp.length + 1), (X3 x t sp 0 (XZ t st) bs).2 = 0 -> (0 <= (X3 x t sp 0 (XZ t st) bs).1.she.fin /\ (X3 x t sp 0 (XZ t st) bs).1.she.fin <= 8192) /\ (0 <= (X3 x t sp 0 (XZ t st) bs).1.she.miles /\ (X3 x t sp 0 (XZ t st) bs).1.she.miles <= 210000) := fun bs hbs he => by
  obtain ⟨q, hq, rfl⟩ := List.mem_map.1 hbs;have hql := bestF_len.fromB_len _ _ hq;simp at hql
  have hne : r ++ q ≠ [] := fun e => by
   have h2 : (r ++ q).length = 0 := by rw [e]; rfl
   rw [List.length_append] at h2; omega
  obtain ⟨g1, g2⟩ := ZbR h (r ++ q) 0 _ (by simp; omega) hL0 he;rw [g2 hne];have := g1.rdy;have := g1.mil;omega
 unfold Uw at h0 ⊢
 cases hf : fmL WJ none ((YN r (sp.length + 1)).filterMap (Us (X1 x t sp) 0 (XZ t st))) with
 | some L =>
  simp only;have := bestF_len.fmL_mem _ _ hf;obtain ⟨bs, hbs, hrun⟩ := List.mem_filterMap.1 this;rw [Wy] at hrun
  split at hrun
  ·rename_i c; simp at hrun; subst hrun; exact key bs hbs c
  ·cases hrun
 | none =>
  simp only;simp [zShe]
theorem ZfX (x : Inst) (r : Rte) (ho : x.orders.length <= 1048576) (ht : x.types.length <= 1048576) (hl : r.visits.length <= 1048576) (hbad : Y9 x r = false \/ r.visits.length + 1 < r.rests.length) :
  PT 176 [.p (ZG x), .p (YZ r)] [.p (ZgD zShe), .p (.int .i64 2)] := by
 refine Zc [] Tryz.func176 rfl Zjl ?_;simp (disch := omega) only [Tryz.f176, go_sem, seval];refine (Jv x r ho ht hl).use ?_;simp (disch := omega) only [go_sem, seval];refine gF ?_ ?_ <;> intro h1 <;> simp (disch := omega) only [Sh.out h1, go_sem, seval]
 ·exact we (by simp (disch := omega) only [zShe, List.map_nil, go_sem, seval])
 ·have h2 : r.visits.length + 1 < r.rests.length := hbad.resolve_left (by simpa using h1);refine cD ?_ ?_ <;> intro h3 <;> simp (disch := omega) only [Sh.out h3, go_sem, seval]
  ·exact we (by simp (disch := omega) only [zShe, List.map_nil, go_sem, seval])
  ·omega
theorem ZmA (x : Inst) (r : Rte) (hx : InstOk x) (hl : r.visits.length <= 1048576) : PC 173 [.p (ZG x), .p (YZ r)] (.int .i64 (ZQ x r.visits)) := by
 have hf := VC hx;have hr := hx.rules;obtain ⟨h1, h2⟩ := List.append_eq_nil_iff.1 hr
 have ha : x.apart.length <= 1048576 := by
  have h3 := (List.append_eq_nil_iff.1 h1).1;unfold hdr at h3
  split at h3
  ·simp at h3
  ·omega
 have hb : x.before.length <= 1048576 := by
  have h3 := (List.append_eq_nil_iff.1 h2).1;unfold hdr at h3
  split at h3
  ·simp at h3
  ·omega
 have := Zdy x r (by have := hf.len; omega) hl ha hb hf.plc;rwa [ZkV hf] at this
def K6 (x : Inst) (r : Rte) : V := .tup [.p (ZgD (W1 x r)), .p (ZeT (QD x r)), .p (.int .i64 (Z2 x r))]
theorem Xg {x : Inst} {r : Rte} {e : Int} (h : Z2 x r = e) (h0 : e ≠ 0) : K6 x r = .tup [.p (ZgD zShe), .p (ZeT zSco), .p (.int .i64 e)] := by
 unfold K6 W1 QD;rw [h, if_neg h0, if_neg h0]
theorem Zag (x : Inst) (r : Rte) (hx : InstOk x) (hl : r.visits.length <= 1048576) (hrl : r.rests.length <= 1048576) : ACalls Tryz.prog 120 [.p (ZG x), .p (YZ r)] [] fun y H' => y = K6 x r /\ H' = [] := by
 have hld := Wh hx;have htl := hld.typ;have hol := hld.ord;have chk := ZmA x r hx hl
 have htb : x.types.length <= 6 := by have := hx.types.1; simp only [rng, decide_eq_true_eq] at this; omega
 refine Zc [] Tryz.func120 rfl Zoh ?_;simp (disch := omega) only [Tryz.f120, go_sem, seval];refine gF ?_ ?_ <;> intro h1 <;> simp (disch := omega) only [Sh.out h1, go_sem, seval]
 ·have e : XP x r = 2 := by rw [XP, if_pos (by omega)]
  rw [Xg (e := 2) (by rw [Z2, e]; rfl) (by omega)];exact we (by simp (disch := omega) only [zShe, zSco, List.map_nil, go_sem, seval])
 ·refine cD ?_ ?_ <;> intro h2 <;> simp (disch := omega) only [Sh.out h2, go_sem, seval]
  ·have e : XP x r = 2 := by rw [XP, if_pos (by omega)]
   rw [Xg (e := 2) (by rw [Z2, e]; rfl) (by omega)];exact we (by simp (disch := omega) only [zShe, zSco, List.map_nil, go_sem, seval])
  ·have hty : 0 <= r.typ /\ r.typ < (x.types.length : Int) := by omega
   have hti : r.typ.toNat < x.types.length := by omega
   refine (chk).use ?_;simp (disch := omega) only [go_sem, seval];refine cD ?_ ?_ <;> intro h3 <;> simp (disch := omega) only [Sh.out h3, go_sem, seval]
   ·have e : XP x r = ZQ x r.visits := by rw [XP, if_neg (fun h => h hty), if_pos h3]
    rw [Xg (e := ZQ x r.visits) (by rw [Z2, e, if_neg h3]) h3];exact we (by simp (disch := omega) only [zShe, zSco, List.map_nil, go_sem, seval])
   ·have h3' := Classical.not_not.1 h3;have hsq := Y7 h3'
    have hvn : 0 < r.visits.length := by
     have := hsq.ne
     cases hv : r.visits with
     | nil => exact absurd hv this
     | cons a b => simp
    have hok := UL hx hty hsq;have hnum := UG hx hti
    have hr0 : XP x r = if (r.visits.any fun v => !Ye (Z0 x r) (nth x.orders v.order.toNat).skills) = true then 18 else if VF x (Z0 x r).cap r.visits = false then 17 else if ¬ (0 <= r.start /\ r.start <= 4096 /\ r.rests.length <= r.visits.length + 1) then 2 else 0 := by
     rw [XP, if_neg (fun h => h hty), if_neg h3]
    have htyp : nth x.types r.typ.toNat = Z0 x r := rfl;rw [htyp] at hnum;have hf17 := Zhw x r hx hl hty h3' chk;have hposs := Zml hsq hol hty
    have hsk : ∀ k, k < r.visits.length -> (nth r.visits k).order.toNat < x.orders.length /\ 0 <= (nth x.orders (nth r.visits k).order.toNat).skills /\ (nth x.orders (nth r.visits k).order.toNat).skills <= 1073741823 := fun k hk => by
     obtain ⟨v1, v2⟩ := hsq.inr _ (Zl hk)
     have hi : (nth r.visits k).order.toNat < x.orders.length := by omega
     exact ⟨hi, (hx.orders.2 _ hi).skills⟩
    refine Zf [2, 3, 4, 5] (fun k : Nat => [(8, .p (.int .i64 k))]) (fun _ => [Zb x, Zw r, .cells [.p (.bool false), .p (.int .i64 0), .p (.list true []), .p (.int .i64 0), .p (.int .i64 0)], WH 0 0 0 0])
     (fun k => k <= r.visits.length /\ ∀ j, j < k -> Ye (Z0 x r) (nth x.orders (nth r.visits j).order.toNat).skills = true) (fun k => r.visits.length - k) 0 (by simp) (Weak.mk ?_) ?_
    ·simp (disch := omega) only [Zb, Zw, WH, go_sem, seval]
    ·rintro k ⟨hk, hno⟩;simp (disch := omega) only [Zb, Zw, WH, go_sem, seval];refine cD ?_ ?_ <;> intro h4 <;> simp (disch := omega) only [Sh.out h4, go_sem, seval]
     ·have hk2 : k < r.visits.length := by omega
      obtain ⟨s1, s2, s3⟩ := hsk k hk2;obtain ⟨v1, v2⟩ := hsq.inr _ (Zl hk2);refine Zi mixed (by kernel_rfl) (by kernel_rfl) ?_;simp (disch := omega) only [htyp, go_sem, seval];refine Zm (Zh4 (Z0 x r) (nth x.orders (nth r.visits k).order.toNat).skills (by omega) (by omega)) ?_;simp (disch := omega) only [go_sem, seval];refine cD ?_ ?_ <;> intro h5 <;> simp (disch := omega) only [Sh.out h5, go_sem, seval]
      ·have e : XP x r = 18 := by
        rw [hr0, if_pos];exact List.any_eq_true.2 ⟨_, Zl hk2, h5⟩
       rw [Xg (e := 18) (by rw [Z2, e]; rfl) (by omega)];exact we (by simp (disch := omega) only [zShe, zSco, List.map_nil, go_sem, seval])
      ·exact ⟨k + 1, ⟨by omega, Zh.2 ⟨hno, by simpa using h5⟩⟩, by omega, Weak.mk (by simp (disch := omega) only [Zb, Zw, WH, go_sem, seval])⟩
     ·have hkl : k = r.visits.length := by omega
      subst hkl
      have XC : ¬ (r.visits.any fun v => !Ye (Z0 x r) (nth x.orders v.order.toNat).skills) = true := fun h => by
       obtain ⟨v, hv, hb⟩ := List.any_eq_true.1 h;obtain ⟨j, hj, rfl⟩ := List.mem_iff_getElem.1 hv;rw [<- Ze hj, hno j hj] at hb; simp at hb
      rw [if_neg XC] at hr0;refine (hf17).use ?_;simp (disch := omega) only [go_sem, seval]
      cases hlb : VF x (Z0 x r).cap r.visits with
      | false =>
       have e : XP x r = 17 := by rw [hr0, hlb]; rfl
       simp only [Bool.false_eq_true, if_false];simp (disch := omega) only [go_sem, seval];rw [Xg (e := 17) (by rw [Z2, e]; rfl) (by omega)];exact we (by simp (disch := omega) only [zShe, zSco, List.map_nil, go_sem, seval])
      | true =>
       rw [hlb, if_neg (by simp)] at hr0;simp only [if_true];simp (disch := omega) only [go_sem, seval]
       by_cases h6 : 0 <= r.start /\ r.start <= 4096 /\ r.rests.length <= r.visits.length + 1
       ·have e : XP x r = 0 := by rw [hr0, if_neg (fun h => h h6)]
        have hp : Y9 x r = true := by rw [hposs]; simp [h6.1, h6.2.1]
        have ee : Z2 x r = (Xk x r).2 := by rw [Z2, if_pos e]
        have cb := Zil x r hok (by omega) htl hvn hp h6.2.2;have hbr := Jo hok ⟨h6.1, h6.2.1⟩ (by rw [Xh]; exact h6.2.2);have hbr : (Xk x r).2 = 0 -> _ := hbr
        change (Xk x r).2 = 0 -> (0 <= (Xk x r).1.fin /\ (Xk x r).1.fin <= 8192) /\ (0 <= (Xk x r).1.miles /\ (Xk x r).1.miles <= 210000) at hbr
        have es : W1 x r = if (Xk x r).2 = 0 then (Xk x r).1 else zShe := by rw [W1, ee]
        have ep : QD x r = if (Xk x r).2 = 0 then ZjX x r (Xk x r).1 else zSco := by rw [QD, ee]
        unfold K6;rw [ee, es, ep];clear ee es ep
        generalize Xk x r = q at *
        obtain ⟨sh, eb⟩ := q;simp only at cb hbr ⊢;refine Xs cb ?_;simp (disch := omega) only [go_sem, seval];refine cD ?_ ?_ <;> intro h7 <;> simp (disch := omega) only [Sh.out h7, go_sem, seval]
        ·exact we (by simp (disch := omega) only [zShe, zSco, List.map_nil, go_sem, seval])
        ·have h7' := Classical.not_not.1 h7
         try rw [if_pos h7', if_pos h7']
         subst h7';obtain ⟨g1, g2⟩ := hbr rfl;refine ZA 5 mixed (by kernel_rfl) (by kernel_rfl) ?_;simp (disch := omega) only [go_sem, seval];refine Zm (Zfu x r sh hty (by omega) htl hl hsq.inr hnum.2.2.2.1 (by omega) (by omega) (by omega)) ?_;simp (disch := omega) only [go_sem, seval];exact we
       ·have e : XP x r = 2 := by rw [hr0, if_pos h6]
        rw [Xg (e := 2) (by rw [Z2, e]; rfl) (by omega)];refine Xs (ZfX x r (by omega) htl hl ?_) ?_
        ·by_cases c1 : 0 <= r.start
         ·by_cases c2 : r.start <= 4096
          ·right; omega
          ·left; rw [hposs]; simp [c2]
         ·left; rw [hposs]; simp [c1]
        ·simp (disch := omega) only [go_sem, seval];exact we (by simp (disch := omega) only [zShe, zSco, List.map_nil, go_sem, seval])
theorem ZgG (x : Inst) (r : Rte) (hx : InstOk x) (hl : r.visits.length <= 1048576) (hrl : r.rests.length <= 1048576) : PC 68 [.p (ZG x), .p (YZ r)] (.int .i64 (Z2 x r)) := by
 have ce := Zag x r hx hl hrl;refine Za Tryz.func68 rfl ZxL ?_;simp (disch := omega) only [Tryz.f68, go_sem, seval];unfold K6 at ce;refine Ku ce ?_;simp (disch := omega) only [go_sem, seval]
def gIx {α : Type} (f : α -> Bool) (l : List α) : Int := match l.findIdx? f with | some i => (i : Int) | none => -1
theorem ZjV {α : Type} [Inhabited α] {f : α -> Bool} {l : List α} {k : Nat} (hk : k < l.length) (h : f (nth l k) = true) (hno : ∀ j, j < k -> f (nth l j) = false) : gIx f l = (k : Int) := by
 have : l.findIdx? f = some k := by
  rw [List.findIdx?_eq_some_iff_getElem];refine ⟨hk, by rw [<- Ze hk]; exact h, fun j hj => ?_⟩;have h2 := hno j hj;rw [Ze (by omega)] at h2;simpa using h2
 simp [gIx, this]
theorem ZjR {α : Type} [Inhabited α] {f : α -> Bool} {l : List α} (hno : ∀ j, j < l.length -> f (nth l j) = false) : gIx f l = -1 := by
 have : l.findIdx? f = none := by
  rw [List.findIdx?_eq_none_iff];intro x hx;obtain ⟨j, hj, rfl⟩ := List.mem_iff_getElem.1 hx;rw [<- Ze hj]; exact hno j hj
 simp [gIx, this]
theorem Zkd {α : Type} {f : α -> Bool} {l : List α} : decide (0 <= gIx f l) = l.any f := by
 unfold gIx
 cases h : l.findIdx? f with
 | none =>
  rw [List.findIdx?_eq_none_iff] at h
  have : l.any f = false := by rw [List.any_eq_false]; intro x hx; simp [h x hx]
  simp [this]
 | some i =>
  rw [List.findIdx?_eq_some_iff_getElem] at h;obtain ⟨h1, h2, _⟩ := h
  have : l.any f = true := by rw [List.any_eq_true]; exact ⟨l[i], List.getElem_mem _, h2⟩
  simp [this]
theorem ZfH (l : List (List Int)) (c : Bool) (g : FuncId) (caps : List V) (H : List AM.Obj) (f : List Int -> Bool) (hl : l.length <= 1048576) (hW : wkH H H.length H H) (hc : refBs H.length caps = true)
  (hg : ∀ v ∈ l, ACalls Tryz.prog g (.p (eIL v) :: caps) H fun x H' => x = .p (.bool (f v)) /\ H' = H) :
  ACalls Tryz.prog 307 [.p (.list c (l.map eIL)), .fn (.func g) [] caps] H fun x H' => x = .p (.int .i64 (gIx f l)) /\ H' = H := by
 refine Xf Tryz.func307 rfl Zqq (Zd [] _ _ _ _ ?_);simp (disch := omega) only [Tryz.f307, go_sem, seval];refine Zf [0, 1, 7] (fun k : Nat => [(8, .p (.int .i64 k))]) (fun _ => H) (fun k => k <= l.length /\ ∀ j, j < k -> f (nth l j) = false) (fun k => l.length - k) 0 (by simp) (Weak.mk ?_) ?_
 ·simp (disch := omega) only [hW, hc, go_sem, seval];simp
 ·rintro k ⟨hk, hno⟩;simp (disch := omega) only [go_sem, seval];refine cD ?_ ?_ <;> intro h <;> simp (disch := omega) only [Sh.out h, go_sem, seval]
  ·have hk2 : k < l.length := by omega
   have hgk := hg (nth l k) (Zl hk2);simp (disch := omega) only [ZqG, go_sem, seval] at hgk;refine hgk.useH ?_;simp (disch := omega) only [go_sem, seval];refine cD ?_ ?_ <;> intro h2 <;> simp (disch := omega) only [Sh.out h2, go_sem, seval]
   ·rw [ZjV hk2 h2 hno]
   ·have h3 : f (nth l k) = false := by simpa using h2
    refine ⟨k + 1, ⟨by omega, Zh.2 ⟨hno, h3⟩⟩, by omega, Weak.mk ?_⟩;simp (disch := omega) only [hW, hc, go_sem, seval];simp
  ·have hkl : k = l.length := by omega
   subst hkl;rw [ZjR hno]
theorem KL (l : List (List Int)) (c : Bool) (g : FuncId) (caps : List V) (H : List AM.Obj) (f : List Int -> Bool) (hl : l.length <= 1048576) (hW : wkH H H.length H H) (hc : refBs H.length caps = true)
  (hg : ∀ v ∈ l, ACalls Tryz.prog g (.p (eIL v) :: caps) H fun x H' => x = .p (.bool (f v)) /\ H' = H) :
  ACalls Tryz.prog 269 [.p (.list c (l.map eIL)), .fn (.func g) [] caps] H fun x H' => x = .p (.bool (l.any f)) /\ H' = H := by
 refine Xf Tryz.func269 rfl Zrp (Zd [] _ _ _ _ ?_);simp (disch := omega) only [Tryz.f269, go_sem, seval];refine (ZfH l c g caps H f hl hW hc hg).useH ?_;simp (disch := omega) only [go_sem, seval];rw [Zkd]
theorem Zj5 (x : Inst) (r : Rte) (hx : InstOk x) (hl : r.visits.length <= 1048576) : PC 194 [.p (ZG x), .p (YZ r)] (.int .i64 (ZQ x r.visits)) := by
 have hf := VC hx;obtain ⟨h1, h2⟩ := List.append_eq_nil_iff.1 hx.rules
 have ha : x.apart.length <= 1048576 := by
  have h3 := (List.append_eq_nil_iff.1 h1).1;unfold hdr at h3
  split at h3
  ·simp at h3
  ·omega
 have hb : x.before.length <= 1048576 := by
  have h3 := (List.append_eq_nil_iff.1 h2).1;unfold hdr at h3
  split at h3
  ·simp at h3
  ·omega
 exact Zc7 x r (by have := hf.len; omega) hl ha hb
theorem Zk0 {x : Inst} {l : List Vis} (hi : Inr x l) (hn : x.orders.length <= 10) : Qy l = (((XJ l : Nat) : Int), 0) := by
 rw [Qy, if_pos];rw [List.all_eq_true];intro v hv;have := hi v hv;simp [inS]; omega
theorem Zsf {α : Type} (f : Nat -> α) (n : Nat) : (List.range n).map f ++ [f n] = (List.range (n + 1)).map f := by rw [List.range_succ, List.map_append]; rfl
theorem Zht (x : Inst) (r : Rte) (hx : InstOk x) (hl : r.visits.length <= 1048576) (h0 : ZQ x r.visits = 0) :
  PT 268 [.p (ZG x), .p (YZ r)] [.p (.list false ((VI x r.visits).map eIL)), .p (.int .i64 0)] := by
 have hd := Wh hx;have hsq := Y7 h0;have hol := hd.ord;have hso := WX r hl;rw [Zk0 hsq.inr hol] at hso
 have hD : dimsOf x.types = ((dimsOf x.types).toNat : Int) := by have := hd.dim; omega
 have cd := Zlo x.types x.types_c hd.typ;rw [hD] at cd;have hst := Zeo hsq.inr hol
 have hmem : ∀ i ∈ Z6 ((XJ r.visits : Nat) : Int) 63, 0 <= i /\ i < (x.orders.length : Int) := fun i hi => by
  rw [Zzg hsq.inr hol] at hi;obtain ⟨j, hj, rfl⟩ := List.mem_map.1 hi;have := List.mem_range.1 (List.mem_filter.1 hj).1;omega
 have cs := Zll x ((XJ r.visits : Nat) : Int) (dimsOf x.types).toNat (by have := hd.dim; omega) (by omega) hmem (Wu _ _) (fun o ho => by have := hd.load o ho; exact ⟨by omega, this.2⟩);rw [hst] at cs;refine Zc [20] Tryz.func268 rfl ZqX ?_;simp (disch := omega) only [Tryz.f268, go_sem, seval];refine (Zj5 x r hx hl).use ?_;simp (disch := omega) only [go_sem, seval];simp (disch := omega) only [h0, go_sem, seval];refine Xs hso ?_;simp (disch := omega) only [go_sem, seval];refine Zi mixed (by kernel_rfl) (by kernel_rfl) ?_;simp (disch := omega) only [go_sem, seval]
 refine Zm (cd) ?_;simp (disch := omega) only [go_sem, seval];refine Zm (cs) ?_;simp (disch := omega) only [go_sem, seval];refine ZY [20] [2, 37, 38] (fun q : Nat × List (List Int) => [(9, .p (.list false ((Wl x r.visits q.1).map eI))), (10, .sl 2 0 q.2.length q.2.length), (39, .p (.int .i64 q.1))]) (fun q => [Zb x, Zw r, .elems 1 (q.2.map eIL)]) (fun q => q.1 <= r.visits.length /\ q.2 = (List.range (q.1 + 1)).map (Wl x r.visits)) (fun q => r.visits.length - q.1) (0, [Wl x r.visits 0]) (by simp) (Weak.mk ?_) ?_
 ·simp (disch := omega) only [Zb, Zw, List.map_nil, List.map_cons, List.length_nil, List.length_cons, List.cons_append, List.nil_append, go_sem, seval]
 ·rintro ⟨k, o⟩ ⟨hk, ho⟩;simp only at hk ho
  have hol2 : o.length = k + 1 := by rw [ho]; simp
  simp (disch := omega) only [Zb, Zw, go_sem, seval];refine cD ?_ ?_ <;> intro h1 <;> simp (disch := omega) only [Sh.out h1, go_sem, seval]
  ·have hk2 : k < r.visits.length := by omega
   obtain ⟨v1, v2⟩ := hsq.inr _ (Zl hk2)
   have hi : (nth r.visits k).order.toNat < x.orders.length := by omega
   obtain ⟨l1, l2⟩ := hd.load _ (Z7 hi);have hsu := ZgY hsq hk2;have hal := VO (x := x) (l := r.visits) (n := k);have hdm := hd.dim
   have hrg : ∀ j, j < (Wl x r.visits k).length -> -1073741824 <= nth (Wl x r.visits k) j /\ nth (Wl x r.visits k) j <= 1073741824 /\ -1073741824 <= nth (nth x.orders (nth r.visits k).order.toNat).load j /\ nth (nth x.orders (nth r.visits k).order.toNat).load j <= 1073741824 := fun j hj => by
    have b1 := Zip (x := x) (l := r.visits) (n := k) (j := j) (by omega) hd;have b2 := l2 _ (Z7 (show j < (nth x.orders (nth r.visits k).order.toNat).load.length by omega));omega
   refine cD ?_ ?_ <;> intro h2 <;> simp (disch := omega) only [Sh.out h2, go_sem, seval]
   ·rw [if_pos h2] at hsu;refine Xs (ZrW (Wl x r.visits k) (nth x.orders (nth r.visits k).order.toNat).load false (nth x.orders (nth r.visits k).order.toNat).load_c (by omega) (by omega) hrg) ?_;simp (disch := omega) only [go_sem, seval];exact ⟨(k + 1, o ++ [Wl x r.visits (k + 1)]), ⟨by simp only; omega, by simp only; rw [ho, Zsf]⟩, by simp only; omega, Weak.mk (by simp (disch := omega) only [Zb, Zw, hsu, List.length_append, List.length_cons, List.length_nil, List.map_append, List.map_cons, List.map_nil, go_sem, seval])⟩
   ·rw [if_neg (by rw [h2]; simp)] at hsu;refine Xs (ZjT (Wl x r.visits k) (nth x.orders (nth r.visits k).order.toNat).load false (nth x.orders (nth r.visits k).order.toNat).load_c (by omega) (by omega) hrg) ?_;simp (disch := omega) only [go_sem, seval];exact ⟨(k + 1, o ++ [Wl x r.visits (k + 1)]), ⟨by simp only; omega, by simp only; rw [ho, Zsf]⟩, by simp only; omega, Weak.mk (by simp (disch := omega) only [Zb, Zw, hsu, List.length_append, List.length_cons, List.length_nil, List.map_append, List.map_cons, List.map_nil, go_sem, seval])⟩
  ·have hkl : k = r.visits.length := by omega
   subst hkl;refine Zn (Weak.fz (o := 2) (by rfl)) ?_;refine Zd [] _ _ _ _ ?_;simp (disch := omega) only [List.map_cons, List.map_nil, List.set_cons_succ, List.set_cons_zero, go_sem, seval];rw [VI, <- ho];exact we
theorem Zmi (x : Inst) (r : Rte) (a : List Int) (htl : x.types.length <= 1048576) (hty : 0 <= r.typ /\ r.typ < (x.types.length : Int)) (ha : a.length <= 1048576) (hc : (Z0 x r).cap.length <= 1048576) :
  ACalls Tryz.prog 270 [.p (eIL a), .ptr 0 0, .ptr 1 0] [Zb x, Zw r] fun y H' => y = .p (.bool (!YR a (Z0 x r).cap)) /\ H' = [Zb x, Zw r] := by
 have hti : r.typ.toNat < x.types.length := by omega
 refine Zc [] Tryz.func270 rfl Zqe ?_;simp (disch := omega) only [Tryz.f270, Zb, Zw, go_sem, seval];refine (Zkp a (Z0 x r).cap false (Z0 x r).cap_c ha hc).use ?_;simp (disch := omega) only [go_sem, seval];exact we (by simp (disch := omega) only [Zb, Zw, go_sem, seval])
theorem Zi5 (x : Inst) (r : Rte) (hx : InstOk x) (hl : r.visits.length <= 1048576) (hty : 0 <= r.typ /\ r.typ < (x.types.length : Int)) (h0 : ZQ x r.visits = 0) :
  PC 196 [.p (ZG x), .p (YZ r)] (.int .i64 (if VF x (Z0 x r).cap r.visits = true then 0 else 17)) := by
 have hd := Wh hx;have htl := hd.typ
 have hti : r.typ.toNat < x.types.length := by omega
 have hcp : (Z0 x r).cap.length <= 1048576 := by
  have hcap := hx.types.2 _ hti;unfold QF at hcap;obtain ⟨⟨⟨⟨⟨⟨⟨⟨_, _⟩, _⟩, _⟩, hcap⟩, _⟩, _⟩, _⟩, _⟩ := hcap;simp only [WR, Bool.and_eq_true, decide_eq_true_eq, rng] at hcap;unfold Z0;omega
 have hll : (VI x r.visits).length = r.visits.length + 1 := by simp [VI]
 have hvl := (Y7 h0).len hd.ord
 have XC : (VI x r.visits).any (fun a => !YR a (Z0 x r).cap) = !VF x (Z0 x r).cap r.visits := by
  rw [VF, VI, List.any_map, List.not_all_eq_any_not]; rfl
 have e1 : ¬ r.typ < 0 := by omega
 have e2 : ¬ (x.types.length : Int) <= r.typ := by omega
 refine Za Tryz.func196 rfl Zn9 ?_;simp (disch := omega) only [Tryz.f196, e1, e2, go_sem, seval];refine Xs (Zht x r hx hl h0) ?_;simp (disch := omega) only [go_sem, seval];refine (KL (VI x r.visits) false 270 [.ptr 0 0, .ptr 1 0] [Zb x, Zw r] (fun a => !YR a (Z0 x r).cap) (by omega) (by simp (disch := omega) only [Zb, Zw, go_sem, seval]) (by rfl) (fun a ha => Zmi x r a htl hty ?_ hcp)).useH ?_
 ·obtain ⟨j, _, rfl⟩ := List.mem_map.1 ha;rw [VO]; have := hd.dim; omega
 ·simp (disch := omega) only [Zb, Zw, go_sem, seval];rw [XC];refine cD ?_ ?_ <;> intro h1 <;> simp (disch := omega) only [Sh.out h1, go_sem, seval]
  ·rw [if_neg (by simpa using h1)]
  ·rw [if_pos (by simpa using h1)]
theorem Jm (x : Inst) (p : Pln) (hn : x.orders.length <= 60) (hr : p.routes.length <= 1048576) (hb : ∀ r ∈ p.routes, rteB r) :
  PT 54 [.p (ZG x), .p (ZaI p)] [.p (.int .i64 ((if kno x.orders.length p.routes = true then Xe p.routes else 0 : Nat) : Int)), .p (.bool (kno x.orders.length p.routes))] := by
 have h60 : pw x.orders.length <= pw 60 := Z3 hn;have e60 : pw 60 = 1152921504606846976 := rfl;refine Zc [] Tryz.func54 rfl Zwo ?_;simp (disch := omega) only [Tryz.f54, go_sem, seval];refine Zf [2, 12, 13] (fun k : Nat => [(6, .p (.int .i64 (Xe (p.routes.take k) : Nat))), (14, .p (.int .i64 k))]) (fun _ => [Zb x, Zx p]) (fun k => k <= p.routes.length /\ ∀ j, j < k -> Zf9 x.orders.length (nth p.routes j) = true) (fun k => p.routes.length - k) 0 (by simp) (Weak.mk ?_) ?_
 ·simp (disch := omega) only [Zb, Zx, Xe, List.take_zero, List.foldl_nil, go_sem, seval]
 ·rintro k ⟨hk, hno⟩
  have hkn : kno x.orders.length (p.routes.take k) = true := by
   rw [kno, List.all_eq_true];intro r hr;obtain ⟨j, hj, rfl⟩ := List.mem_iff_getElem.1 hr;simp at hj;rw [List.getElem_take, <- Ze (by omega)];exact hno j (by omega)
  have hlt := YD hkn;simp (disch := omega) only [Zb, Zx, go_sem, seval];refine cD ?_ ?_ <;> intro h <;> simp (disch := omega) only [Sh.out h, go_sem, seval]
  ·have hk2 : k < p.routes.length := by omega
   have hbad : Zf9 x.orders.length (nth p.routes k) = false -> kno x.orders.length p.routes = false := fun h4 => by
    rw [kno, List.all_eq_false]; exact ⟨nth p.routes k, Zl hk2, by rw [h4]; simp⟩
   have hs := ZaE hk2;refine US (WX (nth p.routes k) (hb _ (Zl hk2)).1) ?_
   by_cases c : (nth p.routes k).visits.all inS = true
   ·have e : Qy (nth p.routes k).visits = (((XJ (nth p.routes k).visits : Nat) : Int), 0) := by simp [Qy, c]
    rw [e];have hd : XJ (nth p.routes k).visits / pw x.orders.length = 0 ↔ XJ (nth p.routes k).visits < pw x.orders.length := Nat.div_eq_zero_iff_lt (Um _);simp (disch := omega) only [go_sem, seval];refine cD ?_ ?_ <;> intro h3 <;> simp (disch := omega) only [Sh.out h3, go_sem, seval]
    ·have e2 := hbad (by
      cases c2 : Zf9 x.orders.length (nth p.routes k) with
      | false => rfl
      | true => have := hd.2 (ZeM c2); omega)
     rw [e2];exact we
    ·have h4 : XJ (nth p.routes k).visits < pw x.orders.length := hd.1 (by omega);exact ⟨k + 1, ⟨by omega, Zh.2 ⟨hno, ZhP c h4⟩⟩, by omega, Weak.mk (by simp (disch := omega) only [Zb, Zx, hs, go_sem, seval])⟩
   ·have e : Qy (nth p.routes k).visits = (0, 2) := by simp [Qy, c]
    rw [e];simp (disch := omega) only [go_sem, seval]
    have e2 := hbad (by
     cases c2 : Zf9 x.orders.length (nth p.routes k) with
     | false => rfl
     | true => exact absurd (ZcG hn c2) c)
    rw [e2];exact we
  ·have hkl : k = p.routes.length := by omega
   subst hkl
   have : kno x.orders.length p.routes = true := by rw [List.take_length] at hkn; exact hkn
   rw [this, if_pos rfl, List.take_length];exact we
def Zjz (f : Int -> Bool) (l : List Int) : Int := match l.findIdx? f with | some i => (i : Int) | none => -1
theorem Zf0 {f : Int -> Bool} {l : List Int} {k : Nat} (hk : k < l.length) (h : f (nth l k) = true) (hno : ∀ j, j < k -> f (nth l j) = false) : Zjz f l = (k : Int) := by
 have : l.findIdx? f = some k := by
  rw [List.findIdx?_eq_some_iff_getElem];refine ⟨hk, by rw [<- Ze hk]; exact h, fun j hj => ?_⟩;have h2 := hno j hj;rw [Ze (by omega)] at h2;simpa using h2
 simp [Zjz, this]
theorem Zev {f : Int -> Bool} {l : List Int} (hno : ∀ j, j < l.length -> f (nth l j) = false) : Zjz f l = -1 := by
 have : l.findIdx? f = none := by
  rw [List.findIdx?_eq_none_iff];intro x hx;obtain ⟨j, hj, rfl⟩ := List.mem_iff_getElem.1 hx;rw [<- Ze hj]; exact hno j hj
 simp [Zjz, this]
theorem Zgu {f : Int -> Bool} {l : List Int} : decide (0 <= Zjz f l) = l.any f := by
 unfold Zjz
 cases h : l.findIdx? f with
 | none =>
  rw [List.findIdx?_eq_none_iff] at h
  have : l.any f = false := by rw [List.any_eq_false]; intro x hx; simp [h x hx]
  simp [this]
 | some i =>
  rw [List.findIdx?_eq_some_iff_getElem] at h;obtain ⟨h1, h2, _⟩ := h
  have : l.any f = true := by rw [List.any_eq_true]; exact ⟨l[i], List.getElem_mem _, h2⟩
  simp [this]
theorem KV (l : List Int) (c : Bool) (g : FuncId) (caps : List V) (H : List AM.Obj) (f : Int -> Bool) (hl : l.length <= 1048576) (hW : wkH H H.length H H) (hc : refBs H.length caps = true)
  (hg : ∀ v ∈ l, ACalls Tryz.prog g (.p (eI v) :: caps) H fun x H' => x = .p (.bool (f v)) /\ H' = H) :
  ACalls Tryz.prog 150 [.p (.list c (l.map eI)), .fn (.func g) [] caps] H fun x H' => x = .p (.int .i64 (Zjz f l)) /\ H' = H := by
 refine Xf Tryz.func150 rfl Zsg (Zd [] _ _ _ _ ?_);simp (disch := omega) only [Tryz.f150, go_sem, seval];refine Zf [0, 1, 7] (fun k : Nat => [(8, .p (.int .i64 k))]) (fun _ => H) (fun k => k <= l.length /\ ∀ j, j < k -> f (nth l j) = false) (fun k => l.length - k) 0 (by simp) (Weak.mk ?_) ?_
 ·simp (disch := omega) only [hW, hc, go_sem, seval];simp
 ·rintro k ⟨hk, hno⟩;simp (disch := omega) only [go_sem, seval];refine cD ?_ ?_ <;> intro h <;> simp (disch := omega) only [Sh.out h, go_sem, seval]
  ·have hk2 : k < l.length := by omega
   refine (hg (nth l k) (Zl hk2)).useH ?_;simp (disch := omega) only [go_sem, seval];refine cD ?_ ?_ <;> intro h2 <;> simp (disch := omega) only [Sh.out h2, go_sem, seval]
   ·rw [Zf0 hk2 h2 hno]
   ·have h3 : f (nth l k) = false := by simpa using h2
    refine ⟨k + 1, ⟨by omega, Zh.2 ⟨hno, h3⟩⟩, by omega, Weak.mk ?_⟩;simp (disch := omega) only [hW, hc, go_sem, seval];simp
  ·have hkl : k = l.length := by omega
   subst hkl;rw [Zev hno]
theorem Wg (l : List Int) (c : Bool) (g : FuncId) (caps : List V) (H : List AM.Obj) (f : Int -> Bool) (hl : l.length <= 1048576) (hW : wkH H H.length H H) (hc : refBs H.length caps = true)
  (hg : ∀ v ∈ l, ACalls Tryz.prog g (.p (eI v) :: caps) H fun x H' => x = .p (.bool (f v)) /\ H' = H) :
  ACalls Tryz.prog 101 [.p (.list c (l.map eI)), .fn (.func g) [] caps] H fun x H' => x = .p (.bool (l.any f)) /\ H' = H := by
 refine Xf Tryz.func101 rfl Zs4 (Zd [] _ _ _ _ ?_);simp (disch := omega) only [Tryz.f101, go_sem, seval];refine (KV l c g caps H f hl hW hc hg).useH ?_;simp (disch := omega) only [Zgu, go_sem, seval]
theorem ZiI (l : List Int) (c : Bool) (v : Int) (hl : l.length <= 1048576) : PC 219 [.p (.list c (l.map eI)), .p (.int .i64 v)] (.int .i64 (Zjz (fun w => decide (v = w)) l)) := by
 refine Za Tryz.func219 rfl Zsc ?_;simp (disch := omega) only [Tryz.f219, go_sem, seval];refine Zf [0, 1, 7] (fun k : Nat => [(8, .p (.int .i64 k))]) (fun _ => []) (fun k => k <= l.length /\ ∀ j, j < k -> decide (v = nth l j) = false) (fun k => l.length - k) 0 (by simp) (Weak.mk ?_) ?_
 ·simp (disch := omega) only [go_sem, seval]
 ·rintro k ⟨hk, hno⟩;simp (disch := omega) only [go_sem, seval];refine cD ?_ ?_ <;> intro h <;> simp (disch := omega) only [Sh.out h, go_sem, seval]
  ·have hk2 : k < l.length := by omega
   refine cD ?_ ?_ <;> intro h2 <;> simp (disch := omega) only [Sh.out h2, go_sem, seval]
   ·rw [Zf0 hk2 (by simpa using h2) hno]
   ·exact ⟨k + 1, ⟨by omega, Zh.2 ⟨hno, by simpa using h2⟩⟩, by omega, wk⟩
  ·have hkl : k = l.length := by omega
   subst hkl;rw [Zev hno]
theorem Yf (l : List Int) (c : Bool) (v : Int) (hl : l.length <= 1048576) : PC 168 [.p (.list c (l.map eI)), .p (.int .i64 v)] (.bool (l.any fun w => decide (v = w))) := by
 refine Za Tryz.func168 rfl ZoV ?_;simp (disch := omega) only [Tryz.f168, go_sem, seval];refine (ZiI l c v hl).use ?_;simp (disch := omega) only [go_sem, seval];simp (disch := omega) only [Zgu, go_sem, seval]
theorem Zcp (l : List Int) (c : Bool) (hl : l.length <= 1048576) : ACalls Tryz.prog 42 [.p (.list c (l.map eI))] [] fun x H' => x = .sl 0 0 l.length l.length /\ H' = [.elems 1 (l.map eI)] := by
 suffices hh : ACalls Tryz.prog 42 [.p (.list c (l.map eI))] [] fun x H' => ∃ m : List Int, m = l /\ x = .sl 0 0 m.length m.length /\ H' = [.elems 1 (m.map eI)] by
  refine hh.mono fun x H' h => ?_;obtain ⟨m, rfl, h1, h2⟩ := h;exact ⟨h1, h2⟩
 refine Zc [1] Tryz.func42 rfl Zya ?_;simp (disch := omega) only [Tryz.f42, go_sem, seval];refine XQ (XQ (UU 1 rfl rfl ?_));refine ⟨_, Zbi (e := 3) rfl Tryz.underlying32 rfl (fun _ => rfl), ?_⟩;rintro _ ⟨b, rfl, hb⟩;simp (disch := omega) only [go_sem, seval];refine Zd [] _ _ _ _ ?_
 cases b with
 | true =>
  have hn : l = [] := by simpa using hb rfl
  subst hn;simp (disch := omega) only [go_sem, seval];exact ⟨_, _, Weak.ofNil 0 1 rfl (by simp) (wk), [], rfl, rfl, rfl⟩
 | false =>
  simp (disch := omega) only [go_sem, seval];refine Zd [] _ _ _ _ ?_;simp (disch := omega) only [go_sem, seval];exact ⟨.sl 0 0 l.length l.length, [.elems 1 (l.map eI)], wk, l, rfl, rfl, rfl⟩
theorem Zhx (l : List Vis) (c : Bool) (hl : l.length <= 1048576) : ACalls Tryz.prog 39 [.p (.list c (l.map eVis))] [] fun x H' => x = .sl 0 0 l.length l.length /\ H' = [.elems 2 (l.map eVis)] := by
 suffices hh : ACalls Tryz.prog 39 [.p (.list c (l.map eVis))] [] fun x H' => ∃ m : List Vis, m = l /\ x = .sl 0 0 m.length m.length /\ H' = [.elems 2 (m.map eVis)] by
  refine hh.mono fun x H' h => ?_;obtain ⟨m, rfl, h1, h2⟩ := h;exact ⟨h1, h2⟩
 refine Zc [1] Tryz.func39 rfl Zwz ?_;simp (disch := omega) only [Tryz.f39, go_sem, seval];refine XQ (XQ (UU 1 rfl rfl ?_));refine ⟨_, Zbi (e := 73) rfl Tryz.underlying42 rfl (fun _ => rfl), ?_⟩;rintro _ ⟨b, rfl, hb⟩;simp (disch := omega) only [go_sem, seval];refine Zd [] _ _ _ _ ?_
 cases b with
 | true =>
  have hn : l = [] := by simpa using hb rfl
  subst hn;simp (disch := omega) only [go_sem, seval];exact ⟨_, _, Weak.ofNil 0 2 rfl (by simp) (wk), [], rfl, rfl, rfl⟩
 | false =>
  simp (disch := omega) only [go_sem, seval];refine Zd [] _ _ _ _ ?_;simp (disch := omega) only [go_sem, seval];exact ⟨.sl 0 0 l.length l.length, [.elems 2 (l.map eVis)], wk, l, rfl, rfl, rfl⟩
def Zi3 (n : Nat) (u : Int) : Bool := !(decide (0 <= u) && decide (u < (n : Int)))
theorem Zc8 (x : Inst) (p : Pln) (u : Int) (hn : x.orders.length <= 1048576) : ACalls Tryz.prog 102 [.p (eI u), .ptr 0 0] [Zb x, Zx p] fun y H' => y = .p (.bool (Zi3 x.orders.length u)) /\ H' = [Zb x, Zx p] := by
 refine Zc [] Tryz.func102 rfl ZpT ?_;simp (disch := omega) only [Tryz.f102, Zb, Zx, go_sem, seval];refine gF ?_ ?_ <;> intro h <;> simp (disch := omega) only [Sh.out h, go_sem, seval]
 ·have e : Zi3 x.orders.length u = true := by simp [Zi3]; omega
  rw [e];exact we (by simp (disch := omega) only [Zb, Zx, go_sem, seval])
 ·have e : Zi3 x.orders.length u = decide ((x.orders.length : Int) <= u) := by
   rw [Bool.eq_iff_iff]; simp [Zi3]; omega
  rw [e];exact we (by simp (disch := omega) only [Zb, Zx, go_sem, seval])
theorem Kx (x : Inst) (p : Pln) (hn : x.orders.length <= 60) (hr : p.routes.length <= 1048576) (hu : p.unserved.length <= 1048576) (hb : ∀ r ∈ p.routes, rteB r) :
  PT 36 [.p (ZG x), .p (ZaI p)] [.p (.int .i64 ((if kno x.orders.length p.routes = true then Xe p.routes else 0 : Nat) : Int)), .p (.bool (Zbn x p))] := by
 refine Zc [] Tryz.func36 rfl ZyV ?_;simp (disch := omega) only [Tryz.f36, go_sem, seval];refine US (Jm x p hn hr hb) ?_
 have ea : Zbn x p = (kno x.orders.length p.routes && !(p.unserved.any (Zi3 x.orders.length))) := by
  rw [Zbn, Zxa, List.not_any_eq_all_not]; simp only [Zi3, Bool.not_not]
 rw [ea];generalize (if kno x.orders.length p.routes = true then Xe p.routes else 0) = S;simp (disch := omega) only [go_sem, seval];refine (Wg p.unserved p.unserved_c 102 [.ptr 0 0] [Zb x, Zx p] (Zi3 x.orders.length) hu (by simp (disch := omega) only [Zb, Zx, go_sem, seval]) (by simp (disch := omega) only [go_sem, seval]) fun u hu => Zc8 x p u (by omega)).useH ?_;generalize p.unserved.any (Zi3 x.orders.length) = B;generalize kno x.orders.length p.routes = K
 cases K with
 | true =>
  simp (disch := omega) only [go_sem, seval];exact we
 | false =>
  simp (disch := omega) only [go_sem, seval];exact we
theorem Zbf (x : Inst) (all set : Nat) (hn : x.orders.length <= 60) (hl : x.before.length <= 1048576) (hv : Val x.orders.length x.before) (ha : all < pw x.orders.length) (hs : set < 9223372036854775808) :
  PC 37 [.p (ZG x), .p (.int .i64 (all : Int)), .p (.int .i64 (set : Int))] (.int .i64 (lvS x.orders.length x.before all set : Nat)) := by
 have h60 : pw x.orders.length <= pw 60 := Z3 hn;have e60 : pw 60 = 1152921504606846976 := rfl;have hm := Wu (all : Int) 63;rw [<- Zkw hn ha];refine Za Tryz.func37 rfl Zwe ?_;simp (disch := omega) only [Tryz.f37, go_sem, seval];refine ((YG (all : Int)).frozen (by simp)).use ?_;simp (disch := omega) only [go_sem, seval]
 have hin : ∀ i ∈ Z6 (all : Int) 63, 0 <= i /\ i < x.orders.length := fun i hi => by
  obtain ⟨j, rfl, _, h3⟩ := Xl.1 hi;have := Yc ha h3;omega
 generalize Z6 (all : Int) 63 = m at *
 refine Zf [1, 2, 3, 11, 12] (fun k : Nat => [(7, .p (.int .i64 (XH ((m.take k).filter fun i => decide (ZK x.orders.length x.before i &&& set &&& all ≠ 0)) : Nat))), (13, .p (.int .i64 k))]) (fun _ => [Zb x]) (fun k => k <= m.length) (fun k => m.length - k) 0 (by simp) (Weak.mk ?_) ?_
 ·simp (disch := omega) only [Zb, List.take_zero, List.filter_nil, XH, List.foldl_nil, go_sem, seval]
 ·intro k hk
  have hlt : XH ((m.take k).filter fun i => decide (ZK x.orders.length x.before i &&& set &&& all ≠ 0)) < pw x.orders.length := YU fun i hi => by
   have := hin i (List.mem_of_mem_take (List.mem_filter.1 hi).1);omega
  simp (disch := omega) only [Zb, go_sem, seval];refine cD ?_ ?_ <;> intro h <;> simp (disch := omega) only [Sh.out h, go_sem, seval]
  ·have hk2 : k < m.length := by omega
   have hmk := hin _ (Zl hk2)
   have hnd : ZK x.orders.length x.before (nth m k) < pw x.orders.length := by
    obtain ⟨j, hj⟩ : ∃ j : Nat, nth m k = (j : Int) := ⟨(nth m k).toNat, by omega⟩;rw [hj, <- WZ hv (by omega)];exact Yv _ _
   have hal : ZK x.orders.length x.before (nth m k) &&& set <= ZK x.orders.length x.before (nth m k) := Nat.and_le_left;have hp : pw (nth m k).toNat <= pw 60 := Z3 (by omega)
   have ht : (m.take (k + 1)).filter (fun i => decide (ZK x.orders.length x.before i &&& set &&& all ≠ 0)) = (m.take k).filter (fun i => decide (ZK x.orders.length x.before i &&& set &&& all ≠ 0)) ++ (if ZK x.orders.length x.before (nth m k) &&& set &&& all ≠ 0 then [nth m k] else []) := by
    rw [List.take_succ_eq_append_getElem hk2, List.filter_append, Ze hk2]
    congr 1
    by_cases c : ZK x.orders.length x.before m[k] &&& set &&& all = 0 <;> simp [c]
   refine (Zlg x (nth m k) hn hl hv).use ?_;simp (disch := omega) only [go_sem, seval];refine cD ?_ ?_ <;> intro h2 <;> simp (disch := omega) only [Sh.out h2, go_sem, seval]
   ·have h2' : ZK x.orders.length x.before (nth m k) &&& set &&& all ≠ 0 := by omega
    rw [if_pos h2'] at ht;refine ⟨k + 1, by omega, by omega, Weak.mk ?_⟩;simp (disch := omega) only [Zb, ht, Kh, go_sem, seval]
   ·have h2' : ¬ ZK x.orders.length x.before (nth m k) &&& set &&& all ≠ 0 := by omega
    rw [if_neg h2', List.append_nil] at ht;refine ⟨k + 1, by omega, by omega, Weak.mk ?_⟩;simp (disch := omega) only [Zb, ht, go_sem, seval]
  ·have hkl : k = m.length := by omega
   subst hkl;rw [List.take_length]
def Zjy (x : Inst) (t : Typ) (r : Rte) (c : Bool) (sp : List Stp) : PV := .agg [.list x.net.places_c (x.net.places.map eS), .list x.net.arcs_c (x.net.arcs.map Jg), .list x.types_c (x.types.map QP), .list x.orders_c (x.orders.map QJ), .list x.apart_c (x.apart.map eP), .list x.before_c (x.before.map eP), .str t.name, .int .i64 t.count, .int .i64 t.src, .int .i64 t.dst, .list t.cap_c (t.cap.map eI), .int .i64 t.skills, .int .i64 t.prof, .int .i64 t.opn, .int .i64 t.cls, .int .i64 t.drive, .int .i64 t.rest, .int .i64 t.fixed, .int .i64 t.perMile, .int .i64 t.perTick, .int .i64 r.typ, .int .i64 r.start, .list r.rests_c (r.rests.map eB), .list r.visits_c (r.visits.map eVis), .list c (sp.map ZhB)]
@[go_sem] theorem ZxU (x : Inst) (t : Typ) (r : Rte) (c : Bool) (sp : List Stp) : Zjy x t r c sp = .agg [.list x.net.places_c (x.net.places.map eS), .list x.net.arcs_c (x.net.arcs.map Jg), .list x.types_c (x.types.map QP), .list x.orders_c (x.orders.map QJ), .list x.apart_c (x.apart.map eP), .list x.before_c (x.before.map eP), .str t.name, .int .i64 t.count, .int .i64 t.src, .int .i64 t.dst, .list t.cap_c (t.cap.map eI), .int .i64 t.skills, .int .i64 t.prof, .int .i64 t.opn, .int .i64 t.cls, .int .i64 t.drive, .int .i64 t.rest, .int .i64 t.fixed, .int .i64 t.perMile, .int .i64 t.perTick, .int .i64 r.typ, .int .i64 r.start, .list r.rests_c (r.rests.map eB), .list r.visits_c (r.visits.map eVis), .list c (sp.map ZhB)] := Eq.trans rfl rfl
def ZvP (x : Inst) (t : Typ) (r : Rte) : List V := [.p (.list x.net.places_c (x.net.places.map eS)), .p (.list x.net.arcs_c (x.net.arcs.map Jg)), .p (.list x.types_c (x.types.map QP)), .p (.list x.orders_c (x.orders.map QJ)), .p (.list x.apart_c (x.apart.map eP)), .p (.list x.before_c (x.before.map eP)), .p (.str t.name), .p (.int .i64 t.count), .p (.int .i64 t.src), .p (.int .i64 t.dst), .p (.list t.cap_c (t.cap.map eI)), .p (.int .i64 t.skills), .p (.int .i64 t.prof), .p (.int .i64 t.opn), .p (.int .i64 t.cls), .p (.int .i64 t.drive), .p (.int .i64 t.rest), .p (.int .i64 t.fixed), .p (.int .i64 t.perMile), .p (.int .i64 t.perTick), .p (.int .i64 r.typ), .p (.int .i64 r.start), .p (.list r.rests_c (r.rests.map eB)), .p (.list r.visits_c (r.visits.map eVis))]
def X4 (x : Inst) (t : Typ) (r : Rte) (c : Bool) (sp : List Stp) : AM.Obj := .cells [.p (.list x.net.places_c (x.net.places.map eS)), .p (.list x.net.arcs_c (x.net.arcs.map Jg)), .p (.list x.types_c (x.types.map QP)), .p (.list x.orders_c (x.orders.map QJ)), .p (.list x.apart_c (x.apart.map eP)), .p (.list x.before_c (x.before.map eP)), .p (.str t.name), .p (.int .i64 t.count), .p (.int .i64 t.src), .p (.int .i64 t.dst), .p (.list t.cap_c (t.cap.map eI)), .p (.int .i64 t.skills), .p (.int .i64 t.prof), .p (.int .i64 t.opn), .p (.int .i64 t.cls), .p (.int .i64 t.drive), .p (.int .i64 t.rest), .p (.int .i64 t.fixed), .p (.int .i64 t.perMile), .p (.int .i64 t.perTick), .p (.int .i64 r.typ), .p (.int .i64 r.start), .p (.list r.rests_c (r.rests.map eB)), .p (.list r.visits_c (r.visits.map eVis)), .p (.list c (sp.map ZhB))]
def ZuJ : AM.Obj := .cells [.p (.list true []), .p (.list true []), .p (.list true []), .p (.list true []), .p (.list true []), .p (.list true []), .p (.str []), .p (.int .i64 0), .p (.int .i64 0), .p (.int .i64 0), .p (.list true []), .p (.int .i64 0), .p (.int .i64 0), .p (.int .i64 0), .p (.int .i64 0), .p (.int .i64 0), .p (.int .i64 0), .p (.int .i64 0), .p (.int .i64 0), .p (.int .i64 0), .p (.int .i64 0), .p (.int .i64 0), .p (.list true []), .p (.list true []), .p (.list true [])]
def Ju (L : Lab) : PV := .agg [.int .i64 L.ready, .int .i64 L.since, .bool L.she.rest, .int .i64 L.she.dep, .list L.she.times_c (L.she.times.map eTim), .int .i64 L.she.fin, .int .i64 L.she.miles]
@[go_sem] theorem ZxN (L : Lab) : Ju L = .agg [.int .i64 L.ready, .int .i64 L.since, .bool L.she.rest, .int .i64 L.she.dep, .list L.she.times_c (L.she.times.map eTim), .int .i64 L.she.fin, .int .i64 L.she.miles] := Eq.trans rfl rfl
@[go_sem] theorem ZoG (l : List Lab) : Zgo 7 (l.map Ju) = true := JN (f := Ju) (S := 7) (fun _ => rfl) l
def Yx (L : Lab) : AM.Obj := .cells [.p (.int .i64 L.ready), .p (.int .i64 L.since), .p (.bool L.she.rest), .p (.int .i64 L.she.dep), .p (.list L.she.times_c (L.she.times.map eTim)), .p (.int .i64 L.she.fin), .p (.int .i64 L.she.miles)]
theorem ZiA (l : List Tim) (c : Bool) (hl : l.length <= 1048576) : ACalls Tryz.prog 331 [.p (.list c (l.map eTim))] [] fun x H' => x = .sl 0 0 l.length l.length /\ H' = [.elems 4 (l.map eTim)] := by
 suffices hh : ACalls Tryz.prog 331 [.p (.list c (l.map eTim))] [] fun x H' => ∃ m : List Tim, m = l /\ x = .sl 0 0 m.length m.length /\ H' = [.elems 4 (m.map eTim)] by
  refine hh.mono fun x H' h => ?_;obtain ⟨m, rfl, h1, h2⟩ := h;exact ⟨h1, h2⟩
 refine Zc [1] Tryz.func331 rfl ZpR ?_;simp (disch := omega) only [Tryz.f331, go_sem, seval];refine XQ (XQ (UU 1 rfl rfl ?_));refine ⟨_, Zbi (e := 341) rfl Tryz.underlying150 rfl (fun _ => rfl), ?_⟩;rintro _ ⟨b, rfl, hb⟩;simp (disch := omega) only [go_sem, seval];refine Zd [] _ _ _ _ ?_
 cases b with
 | true =>
  have hn : l = [] := by simpa using hb rfl
  subst hn;simp (disch := omega) only [go_sem, seval];exact ⟨_, _, Weak.ofNil 0 4 rfl (by simp) (wk), [], rfl, rfl, rfl⟩
 | false =>
  simp (disch := omega) only [go_sem, seval];refine Zd [] _ _ _ _ ?_;simp (disch := omega) only [go_sem, seval];exact ⟨.sl 0 0 l.length l.length, [.elems 4 (l.map eTim)], wk, l, rfl, rfl, rfl⟩
theorem Kl (x : Inst) (t : Typ) (r : Rte) (c : Bool) (sp : List Stp) : PC 273 [.p (Zjy x t r c sp)] (Ju (XZ t r.start)) := by
 refine Zc [] Tryz.func273 rfl ZqD ?_;simp (disch := omega) only [Tryz.f273, go_sem, seval];exact we (by simp (disch := omega) only [XZ, zShe, List.map_nil, go_sem, seval])
theorem Zi7 (x : Inst) (t : Typ) (r : Rte) (c : Bool) (sp : List Stp) (k : Nat) (hk : k <= sp.length) (hl : sp.length <= 1048576) : PC 332 [.p (Zjy x t r c sp), .p (.int .i64 (k : Nat))] (.int .i64 (J7 t sp k)) := by
 refine Za Tryz.func332 rfl ZqK ?_;simp (disch := omega) only [Tryz.f332, go_sem, seval];refine cD ?_ ?_ <;> intro h <;> simp (disch := omega) only [Sh.out h, go_sem, seval]
 ·have : k = 0 := by omega
  rw [J7, if_pos this]
 ·have e1 : ((k : Int) - 1).toNat = k - 1 := by omega
  have h2 : ¬ k = 0 := by omega
  rw [J7, if_neg h2]
  done
theorem Zo4 (x : Inst) (r : Rte) (hx : InstOk x) (hty : 0 <= r.typ /\ r.typ < (x.types.length : Int)) (h0 : ZQ x r.visits = 0) (hs : 0 <= r.start /\ r.start <= 4096) :
  PT 272 [.p (ZG x), .p (YZ r)] [.p (Zjy x (Z0 x r) r false (ZV x r.visits)), .p (.bool true)] := by
 have hd := Wh hx;have hsq := Y7 h0;have hol := hd.ord;have htl := hd.typ;have hvl := hsq.len hol
 have e1 : ¬ r.typ < 0 := by omega
 have e2 : ¬ (x.types.length : Int) <= r.typ := by omega
 have e3 : ¬ r.start < 0 := by omega
 have e4 : ¬ 4096 < r.start := by omega
 have e5 : ¬ 20 < (r.visits.length : Int) := by omega
 refine Zc [12] Tryz.func272 rfl ZjE ?_;simp (disch := omega) only [Tryz.f272, e1, e2, e3, e4, e5, go_sem, seval];refine Xq [9] 10 mixed (by kernel_rfl) (by kernel_rfl) (by kernel_rfl) (by simp) ?_;simp (disch := omega) only [go_sem, seval];refine ZX _ _ (by simp (disch := omega) only [go_sem, seval]; exact ⟨rfl, rfl⟩) ?_;simp (disch := omega) only [go_sem, seval]
 refine ZY [12] [2, 4, 6, 49, 50] (fun q : Nat × List Stp => [(51, .p (.int .i64 q.1))])
  (fun q => [Zb x, Zw r, ZuJ, .cells (ZvP x (Z0 x r) r ++ [.sl 4 0 q.2.length q.2.length]), .elems 4 (q.2.map ZhB)])
  (fun q => q.1 <= r.visits.length /\ q.2 = (ZV x r.visits).take q.1) (fun q => r.visits.length - q.1) (0, []) (by simp) ((Weak.nilC (o := 3) (j := 24) 4 rfl rfl (by simp)).trans (Weak.mk ?_)) ?_
 ·simp (disch := omega) only [Zb, Zw, ZuJ, ZvP, Z0, List.map_nil, List.length_nil, List.set_cons_succ, List.set_cons_zero, List.cons_append, List.nil_append, go_sem, seval]
 ·rintro ⟨k, o⟩ ⟨hk, ho⟩;simp only at hk ho
  have hol2 : o.length = k := by rw [ho]; simp [Xh]; omega
  simp (disch := omega) only [Zb, Zw, ZuJ, ZvP, go_sem, seval];refine cD ?_ ?_ <;> intro h1 <;> simp (disch := omega) only [Sh.out h1, go_sem, seval]
  ·have hk2 : k < r.visits.length := by omega
   have hvis := hsq.vis (Zl hk2);simp only [J6, Bool.and_eq_true, decide_eq_true_eq] at hvis
   have hsn : o ++ [XL x (nth r.visits k)] = (ZV x r.visits).take (k + 1) := by
    rw [ho, List.take_succ_eq_append_getElem (by rw [Xh]; exact hk2), <- Ze, Q1 hk2]
   have hnp : ¬ (XL x (nth r.visits k)).place < 0 := by omega
   refine Xs (Zfe x (nth r.visits k) (by omega) hvis.1 hvis.2) ?_;simp (disch := omega) only [hnp, go_sem, seval];exact ⟨(k + 1, o ++ [XL x (nth r.visits k)]), ⟨by simp only; omega, hsn⟩, by simp only; omega, Weak.mk (by simp (disch := omega) only [Zb, Zw, ZuJ, ZvP, List.length_append, List.length_cons, List.length_nil, List.map_append, List.map_cons, List.map_nil, List.cons_append, List.nil_append, go_sem, seval])⟩
  ·have hkl : k = r.visits.length := by omega
   subst hkl
   have hso : o = ZV x r.visits := by rw [ho, <- Xh (x := x) (l := r.visits), List.take_length]
   subst hso;refine Zn (Weak.fz (o := 4) (by rfl)) ?_;refine Zd [] _ _ _ _ ?_;simp (disch := omega) only [List.map_cons, List.map_nil, List.set_cons_succ, List.set_cons_zero, go_sem, seval];exact we
def shO (rd sn : Int) (m : She) : AM.Obj := .cells [.p (.int .i64 rd), .p (.int .i64 sn), .p (.bool m.rest), .p (.int .i64 m.dep), .sl 4 0 m.times.length m.times.length, .p (.int .i64 m.fin), .p (.int .i64 m.miles)]
theorem Jh {P : Program} {H : List AM.Obj} {f ars} {a b d : PV} {B : V -> Prop} {t} (h : ACalls P f ars [] fun x H' => x = .tup [.p a, .p b, .p d] /\ H' = []) (k : B (.tup [.p a, .p b, .p d])) (ha : refBs 0 ars = true := by rfl) :
  exq (fun y => ACalls P f ars H (Zv (Zv (fun x H' => x = y /\ H' = H) ⟨⟩) ⟨⟩)) (Zv B t) :=
 ⟨.tup [.p a, .p b, .p d], (h.behind ha H).mono fun x H' hq => by
  obtain ⟨y, H1, ⟨rfl, rfl⟩, rfl, rfl⟩ := hq
  simp [shV, J4, Zv], k⟩
theorem Ztc (x : Inst) (t : Typ) (r : Rte) (c : Bool) (sp : List Stp) (hok : TrpOk x t sp) (k : Nat) (hk : k <= sp.length) (hs1 : 0 < sp.length) (L : Lab) (hL : LabR k L) (hlen : L.she.times.length = k) (hclip : 0 < k -> L.she.times_c = false) (b : Bool) :
  PT 308 [.p (Zjy x t r c sp), .p (Ju L), .p (.int .i64 (k : Nat)), .p (.bool b)] [.p (Ju (Y2 x t sp k L b).1), .p (.int .i64 (Y2 x t sp k L b).2)] := by
 have hd := VA hok hL b;have hsn := Jp hL b;have hg := Zbb hok hL b;have hmi := hL.mil;have hrd := hL.rdy;have hsnL := hL.snc;have hsl := hok.len;have hrst := hok.rst;unfold Y2;have hmm := @W4 k (ZT t L b) b L.she;have hmf := @Zaf k (ZT t L b) b L.she;have hml := @Vg k (ZT t L b) b L.she;refine Zc [2, 7, 14, 31] Tryz.func308 rfl Zrd ?_;simp (disch := omega) only [Tryz.f308, go_sem, seval];refine Zi mixed (by kernel_rfl) (by kernel_rfl) ?_;simp (disch := omega) only [go_sem, seval];refine Zq [2, 3, 4, 5, 8] (fun _ : Unit => [(10, .p (.int .i64 (ZT t L b))), (11, .p (.int .i64 (W9 L b)))]) (fun _ => [X4 x t r c sp, Yx L, Yx WC]) (fun _ => True) ?_ ?_
 ·simp (disch := omega) only [go_sem, seval];refine cD ?_ ?_ <;> intro h <;> simp (disch := omega) only [Sh.out h, go_sem, seval]
  ·subst h;exact ⟨(), Weak.mk (by simp (disch := omega) only [X4, Yx, WC, zShe, ZT, W9, List.map_nil, go_sem, seval])⟩
  ·subst h;exact ⟨(), Weak.mk (by simp (disch := omega) only [X4, Yx, WC, zShe, ZT, W9, List.map_nil, go_sem, seval])⟩
 ·intro _ _;refine Zd [7, 14, 31] _ _ _ _ ?_;simp (disch := omega) only [X4, Yx, WC, zShe, List.map_nil, go_sem, seval];refine (ZiA L.she.times L.she.times_c (by omega)).useF ?_;simp (disch := omega) only [go_sem, seval]
  generalize hM : Xu k (ZT t L b) b L.she = M at *
  refine Zq [2, 4, 8, 10, 11, 12] (fun _ : Unit => []) (fun _ => [X4 x t r c sp, Yx L, Yx WC, shO 0 0 M, .elems 4 (M.times.map eTim)]) (fun _ => True) ?_ ?_
  ·simp (disch := omega) only [go_sem, seval];refine cD ?_ ?_ <;> intro h <;> simp (disch := omega) only [Sh.out h, go_sem, seval]
   ·have hk0 : k = 0 := by omega
    subst hk0
    have e : M = { L.she with rest := b, dep := ZT t L b } := by rw [<- hM, Xu, if_pos rfl]
    rw [e];exact ⟨(), Weak.mk (by simp (disch := omega) only [X4, Yx, WC, zShe, shO, List.map_nil, go_sem, seval])⟩
   ·have e1 : ((k : Int) - 1).toNat = k - 1 := by omega
    have hk1 : k - 1 < L.she.times.length := by omega
    have ZaQ : (L.she.times.map eTim).set (k - 1) (PV.agg [.int .i64 (nth L.she.times (k - 1)).arr, .int .i64 (nth L.she.times (k - 1)).beg, .int .i64 (nth L.she.times (k - 1)).dep, .bool b]) = (L.she.times.set (k - 1) { nth L.she.times (k - 1) with rest := b }).map eTim := by
     rw [List.map_set]; rfl
    have hn1 : nth (L.she.times.set (k - 1) { nth L.she.times (k - 1) with rest := b }) (k - 1) = { nth L.she.times (k - 1) with rest := b } := by
     rw [Ze (by simpa using hk1)]; simp
    have hl1 : (L.she.times.set (k - 1) { nth L.she.times (k - 1) with rest := b }).length = L.she.times.length := by simp
    have hMt : M.times = (L.she.times.set (k - 1) { nth L.she.times (k - 1) with rest := b }).set (k - 1) { nth (L.she.times.set (k - 1) { nth L.she.times (k - 1) with rest := b }) (k - 1) with dep := ZT t L b } := by
     rw [hn1, List.set_set, <- hM, Xu, if_neg (by omega)]; rfl
    have hM2 : M.rest = L.she.rest /\ M.dep = L.she.dep := by rw [<- hM, Xu, if_neg (by omega)]; exact ⟨rfl, rfl⟩
    simp (disch := first | omega | (simp only [List.length_cons, List.length_nil, List.length_append, List.length_map, List.length_take, List.length_drop] <;> omega)) only [e1, go_sem, seval];rw [ZaQ]
    generalize L.she.times.set (k - 1) { nth L.she.times (k - 1) with rest := b } = l1 at *
    simp (disch := first | omega | (simp only [List.length_cons, List.length_nil, List.length_append, List.length_map, List.length_take, List.length_drop] <;> omega)) only [e1, hl1, eq_self, decide_true, go_sem, seval];refine ⟨(), Weak.mk ?_⟩;simp (disch := omega) only [X4, Yx, WC, zShe, shO, List.map_nil, hM2.1, hM2.2, hmm, hmf, hml, go_sem, seval];rw [hMt, List.map_set]
    rfl
  ·intro _ _;refine Zd [14, 31] _ _ _ _ ?_;simp (disch := omega) only [X4, Yx, WC, zShe, shO, List.map_nil, go_sem, seval];refine Zq [2, 4, 8, 10, 11, 12, 13] (fun _ : Unit => [(14, .p (.int .i64 (toF t sp k)))]) (fun _ => [X4 x t r c sp, Yx L, Yx WC, shO 0 0 M, .elems 4 (M.times.map eTim)]) (fun _ => True) ?_ ?_
   ·simp (disch := omega) only [go_sem, seval];refine cD ?_ ?_ <;> intro h <;> simp (disch := omega) only [Sh.out h, go_sem, seval]
    ·have e : toF t sp k = (nth sp k).place := by rw [toF, if_neg (by omega)]
     exact ⟨(), Weak.mk (by simp (disch := omega) only [X4, Yx, WC, zShe, shO, List.map_nil, e, go_sem, seval])⟩
    ·have e : toF t sp k = t.dst := by rw [toF, if_pos (by omega)]
     exact ⟨(), Weak.mk (by simp (disch := omega) only [X4, Yx, WC, zShe, shO, List.map_nil, e, go_sem, seval])⟩
   ·intro _ _;refine Zd [31] _ _ _ _ ?_;simp (disch := omega) only [X4, Yx, WC, zShe, shO, List.map_nil, go_sem, seval];refine Zi mixed (by kernel_rfl) (by kernel_rfl) ?_;simp (disch := omega) only [go_sem, seval];refine Zm (Zi7 x t r c sp k hk (by omega)) ?_;simp (disch := omega) only [go_sem, seval];refine Jh (Zyj x.net t.prof (J7 t sp k) (toF t sp k) (ZT t L b) hok.net (by omega)) ?_;simp (disch := omega) only [go_sem, seval];have hG : goN x.net t.prof (J7 t sp k) (toF t sp k) (ZT t L b) = goL x t sp k (ZT t L b) := rfl;rw [hG];clear hG
    generalize goL x t sp k (ZT t L b) = g at *
    generalize ZT t L b = d at *
    generalize W9 L b = s at *
    refine cD ?_ ?_ <;> intro h1 <;> simp (disch := omega) only [Sh.out h1, go_sem, seval]
    ·have e : W8 t sp k g d s M = (WC, 12) := by rw [W8, if_pos h1]
     rw [e];exact we (by simp (disch := omega) only [WC, zShe, List.map_nil, go_sem, seval])
    ·refine cD ?_ ?_ <;> intro h2 <;> simp (disch := omega) only [Sh.out h2, go_sem, seval]
     ·refine cD ?_ ?_ <;> intro h3 <;> simp (disch := omega) only [Sh.out h3, go_sem, seval]
      ·have e : W8 t sp k g d s M = (WC, 15) := by rw [W8, if_neg h1, if_pos (by omega), if_pos h3]
       rw [e];exact we (by simp (disch := omega) only [WC, zShe, List.map_nil, go_sem, seval])
      ·refine Zn (Weak.fz (o := 4) (by rfl)) ?_;refine Zd [] _ _ _ _ ?_;simp (disch := omega) only [List.map_cons, List.map_nil, List.set_cons_succ, List.set_cons_zero, go_sem, seval];refine cD ?_ ?_ <;> intro h4 <;> simp (disch := omega) only [Sh.out h4, go_sem, seval]
       ·have e : W8 t sp k g d s M = (WC, 16) := by rw [W8, if_neg h1, if_pos (by omega), if_neg h3, if_pos h4]
        rw [e];exact we (by simp (disch := omega) only [WC, zShe, List.map_nil, go_sem, seval])
       ·have e : W8 t sp k g d s M = (⟨g.1, s + g.1 - d, { M with fin := g.1, miles := M.miles + g.2.1 }⟩, 0) := by rw [W8, if_neg h1, if_pos (by omega), if_neg h3, if_neg h4]
        have hMc : M.times_c = false := by
         rw [<- hM, Xu, if_neg (by omega)];exact hclip (by omega)
        rw [e];exact we (by simp (disch := omega) only [hMc, go_sem, seval])
     ·have h2' : ¬ k = sp.length := by omega
      have hkl : k < sp.length := by omega
      have hstp := hok.stp _ (Z7 hkl);refine Xs (ZlO (nth sp k) g.1) ?_;unfold Zmd
      by_cases h3 : (nth sp k).cls < max g.1 (nth sp k).opn
      ·have e : W8 t sp k g d s M = (WC, 14) := by rw [W8, if_neg h1, if_neg h2', if_pos h3]
       rw [e, if_pos h3];simp (disch := omega) only [go_sem, seval];exact we (by simp (disch := omega) only [WC, zShe, List.map_nil, go_sem, seval])
      ·rw [if_neg h3];simp (disch := omega) only [go_sem, seval];refine Zn (Weak.fz (o := 4) (by rfl)) ?_;refine Zd [] _ _ _ _ ?_;simp (disch := omega) only [List.map_cons, List.map_nil, List.set_cons_succ, List.set_cons_zero, go_sem, seval];refine cD ?_ ?_ <;> intro h4 <;> simp (disch := omega) only [Sh.out h4, go_sem, seval]
       ·have e : W8 t sp k g d s M = (WC, 16) := by rw [W8, if_neg h1, if_neg h2', if_neg h3, if_pos h4]
        rw [e];exact we (by simp (disch := omega) only [WC, zShe, List.map_nil, go_sem, seval])
       ·have e : W8 t sp k g d s M = (⟨max g.1 (nth sp k).opn + (nth sp k).serv, s + g.1 - d, { M with times_c := false, times := M.times ++ [⟨g.1, max g.1 (nth sp k).opn, 0, false⟩], miles := M.miles + g.2.1 }⟩, 0) := by rw [W8, if_neg h1, if_neg h2', if_neg h3, if_neg h4]
        rw [e];exact we
theorem ZeJ {x t sp k L b} (hs : 0 < sp.length) (hc : 0 < k -> L.she.times_c = false) (he : (Y2 x t sp k L b).2 = 0) : (Y2 x t sp k L b).1.she.times_c = false := by
 have hm : 0 < k -> (Xu k (ZT t L b) b L.she).times_c = false := fun h => by rw [Xu, if_neg (by omega)]; exact hc h
 unfold Y2 at he ⊢
 generalize goL x t sp k (ZT t L b) = g at *
 generalize ZT t L b = d at *
 generalize W9 L b = s at *
 generalize Xu k d b L.she = m at *
 unfold W8 at he ⊢
 split at he
 ·simp at he
 ·rename_i c1;rw [if_neg c1]
  split at he
  ·rename_i c2;rw [if_pos c2]
   split at he
   ·simp at he
   ·rename_i c3;rw [if_neg c3]
    split at he
    ·simp at he
    ·rename_i c4;rw [if_neg c4];exact hm (by omega)
  ·rename_i c2;rw [if_neg c2]
   split at he
   ·simp at he
   ·rename_i c3;rw [if_neg c3]
    split at he
    ·simp at he
    ·rename_i c4;rw [if_neg c4]
structure LabO (n k : Nat) (L : Lab) : Prop where
 rng : LabR k L
 len : k <= n -> L.she.times.length = k
 clip : 0 < k -> L.she.times_c = false
theorem KY {x t sp k L b} (hok : TrpOk x t sp) (hs : 0 < sp.length) (hk : k <= sp.length) (h : LabO sp.length k L) (he : (Y2 x t sp k L b).2 = 0) : LabO sp.length (k + 1) (Y2 x t sp k L b).1 :=
 ⟨ZaR hok hk h.rng he, fun hk2 => QX (h.len hk) he (by omega), fun _ => ZeJ hs h.clip he⟩
theorem Zaw {x t sp} (hok : TrpOk x t sp) {st : Int} (hst : 0 <= st /\ st <= 4096) : LabO sp.length 0 (XZ t st) :=
 ⟨⟨by have := hok.opn; simp only [XZ]; omega, by simp [XZ], by simp [XZ, zShe]⟩, fun _ => rfl, fun h => by omega⟩
theorem Zet (x : Inst) (t : Typ) (r : Rte) (c : Bool) (sp : List Stp) (hok : TrpOk x t sp) (k : Nat) (hk : k <= sp.length) (hs1 : 0 < sp.length) (L : Lab) (hL : LabO sp.length k L) (b : Bool) :
  PT 308 [.p (Zjy x t r c sp), .p (Ju L), .p (.int .i64 (k : Nat)), .p (.bool b)] [.p (Ju (Y2 x t sp k L b).1), .p (.int .i64 (Y2 x t sp k L b).2)] :=
 Ztc x t r c sp hok k hk hs1 L hL.rng (hL.len hk) hL.clip b
theorem ZxV (x : Inst) (t : Typ) (r : Rte) (c : Bool) (sp : List Stp) (hok : TrpOk x t sp) (hs1 : 0 < sp.length) (hst : 0 <= r.start /\ r.start <= 4096) (bs : List Bool) (d : Bool) (hb : bs.length = sp.length + 1) :
  PT 275 [.p (Zjy x t r c sp), .p (.list d (bs.map eB))] [.p (ZgD (X3 x t sp 0 (XZ t r.start) bs).1.she), .p (.int .i64 (X3 x t sp 0 (XZ t r.start) bs).2)] := by
 have hsl := hok.len;refine Zc [] Tryz.func275 rfl ZqV ?_;simp (disch := omega) only [Tryz.f275, go_sem, seval];refine (Kl x t r c sp).use ?_;simp (disch := omega) only [go_sem, seval]
 refine Zf [2, 4, 6, 13, 14] (fun q : Nat × Lab => [(15, .p (.int .i64 q.1))]) (fun q => [X4 x t r c sp, .cells [.p (.bool false), .p (.int .i64 0), .p (.list true []), .p (.int .i64 0), .p (.int .i64 0)], Yx q.2])
  (fun q => q.1 <= bs.length /\ X3 x t sp 0 (XZ t r.start) bs = X3 x t sp q.1 q.2 (bs.drop q.1) /\ LabO sp.length q.1 q.2) (fun q => bs.length - q.1) (0, XZ t r.start) ⟨by simp, by simp, Zaw hok hst⟩ (Weak.mk ?_) ?_
 ·simp (disch := omega) only [X4, Yx, go_sem, seval]
 ·rintro ⟨k, L⟩ ⟨hk, hrun, hL⟩;simp only at hk hrun hL;simp (disch := omega) only [X4, Yx, go_sem, seval];refine cD ?_ ?_ <;> intro h1 <;> simp (disch := omega) only [Sh.out h1, go_sem, seval]
  ·have hk2 : k < bs.length := by omega
   have hdrop : bs.drop k = nth bs k :: bs.drop (k + 1) := by rw [List.drop_eq_getElem_cons hk2, Ze hk2]
   rw [hdrop, X3] at hrun;have cn := Zet x t r c sp hok k (by omega) hs1 L hL (nth bs k);have hL2 := KY (x := x) (t := t) (b := nth bs k) hok hs1 (by omega) hL
   generalize Y2 x t sp k L (nth bs k) = N at *
   refine Xs cn ?_;simp (disch := omega) only [go_sem, seval];refine cD ?_ ?_ <;> intro h2 <;> simp (disch := omega) only [Sh.out h2, go_sem, seval]
   ·rw [hrun, if_neg h2];exact we (by simp (disch := omega) only [WC, zShe, List.map_nil, go_sem, seval])
   ·rw [if_pos (by omega)] at hrun;exact ⟨(k + 1, N.1), ⟨by simp only; omega, hrun, hL2 (by omega)⟩, by simp only; omega, Weak.mk (by simp (disch := omega) only [X4, Yx, go_sem, seval])⟩
  ·have hkl : k = bs.length := by omega
   subst hkl;rw [List.drop_length, X3] at hrun;rw [hrun];exact we
theorem ZkL (l m : Lab) : PC 311 [.p (Ju l), .p (Ju m)] (.bool (ZI l m)) := by
 refine Za Tryz.func311 rfl Zpa ?_;simp (disch := omega) only [Tryz.f311, go_sem, seval];refine gT ?_ ?_ <;> intro h <;> simp (disch := omega) only [Sh.out h, go_sem, seval]
 ·simp [ZI, h]
 ·simp [ZI, h]
def gH (x : Inst) (t : Typ) (r : Rte) (c : Bool) (sp : List Stp) (o : List Lab) (f z : Lab) : List AM.Obj := [X4 x t r c sp, .dead, .elems 7 (o.map Ju), Yx f, Yx z]
theorem ZkR (x : Inst) (t : Typ) (r : Rte) (c : Bool) (sp : List Stp) (o : List Lab) (f z m : Lab) : ACalls Tryz.prog 310 [.p (Ju m), .ptr 4 0] (gH x t r c sp o f z) fun y H' => y = .p (.bool (ZI m z)) /\ H' = gH x t r c sp o f z := by
 refine Zc [] Tryz.func310 rfl Zsi ?_;simp (disch := omega) only [Tryz.f310, gH, X4, Yx, go_sem, seval];refine (ZkL m z).use ?_;simp (disch := omega) only [go_sem, seval];exact we (by simp (disch := omega) only [gH, X4, Yx, go_sem, seval])
theorem ZdC (x : Inst) (t : Typ) (r : Rte) (c : Bool) (sp : List Stp) (o : List Lab) (f z : Lab) (hl : o.length <= 2097152) :
  ACalls Tryz.prog 333 [.sl 2 0 o.length o.length, .fn (.func 310) [] [.ptr 4 0]] (gH x t r c sp o f z) fun y H' => y = .p (.int .i64 (gIx (fun m => ZI m z) o)) /\ H' = gH x t r c sp o f z := by
 refine Zc [] Tryz.func333 rfl Zr6 ?_;simp (disch := omega) only [Tryz.f333, gH, X4, Yx, go_sem, seval];refine Zf [0, 1, 7] (fun k : Nat => [(8, .p (.int .i64 k))]) (fun _ => gH x t r c sp o f z) (fun k => k <= o.length /\ ∀ j, j < k -> ZI (nth o j) z = false) (fun k => o.length - k) 0 (by simp) (Weak.mk ?_) ?_
 ·simp (disch := omega) only [gH, X4, Yx, go_sem, seval]
 ·rintro k ⟨hk, hno⟩;simp (disch := omega) only [gH, X4, Yx, go_sem, seval];refine cD ?_ ?_ <;> intro h <;> simp (disch := omega) only [Sh.out h, go_sem, seval]
  ·have hk2 : k < o.length := by omega
   have hg := ZkR x t r c sp o f z (nth o k);simp (disch := first | omega | (simp only [List.length_cons, List.length_nil, List.length_append, List.length_map, List.length_take, List.length_drop] <;> omega)) only [Xi hk2, hk2, go_sem, seval];simp (disch := omega) only [gH, X4, Yx, go_sem, seval] at hg;refine hg.useH ?_;simp (disch := omega) only [go_sem, seval];refine cD ?_ ?_ <;> intro h2 <;> simp (disch := omega) only [Sh.out h2, go_sem, seval]
   ·rw [ZjV (f := fun m => ZI m z) hk2 h2 hno];exact we (by simp (disch := omega) only [gH, X4, Yx, go_sem, seval])
   ·exact ⟨k + 1, ⟨by omega, Zh.2 ⟨hno, by simpa using h2⟩⟩, by omega, Weak.mk (by simp (disch := omega) only [gH, X4, Yx, go_sem, seval])⟩
  ·have hkl : k = o.length := by omega
   subst hkl;rw [ZjR hno];exact we (by simp (disch := omega) only [gH, X4, Yx, go_sem, seval])
theorem JI (x : Inst) (t : Typ) (r : Rte) (c : Bool) (sp : List Stp) (o : List Lab) (f z : Lab) (hl : o.length <= 2097152) :
  ACalls Tryz.prog 309 [.sl 2 0 o.length o.length, .fn (.func 310) [] [.ptr 4 0]] (gH x t r c sp o f z) fun y H' => y = .p (.bool (o.any fun m => ZI m z)) /\ H' = gH x t r c sp o f z := by
 refine Zc [] Tryz.func309 rfl ZoA ?_;simp (disch := omega) only [Tryz.f309, go_sem, seval];refine (ZdC x t r c sp o f z hl).useH ?_;simp (disch := omega) only [go_sem, seval];rw [Zkd];exact we (by simp (disch := omega) only [gH, X4, Yx, go_sem, seval])
def ZmY (x : Inst) (t : Typ) (sp : List Stp) (r : List Bool) (k : Nat) (f : Lab) (bs : List Bool) (l : List Lab) : List Lab := bs.filterMap (X1 x t sp k f) ++ YM (X1 x t sp) (chF r) k l
theorem Zqj (x : Inst) (t : Typ) (r : Rte) (c : Bool) (sp : List Stp) (hok : TrpOk x t sp) (hs1 : 0 < sp.length) (k : Nat) (hk : k <= sp.length) (hrl : r.rests.length <= 1048576) (l : List Lab) (d : Bool) (hl : l.length <= 1048576) (hL : ∀ L ∈ l, LabO sp.length k L) :
  PC 274 [.p (Zjy x t r c sp), .p (.list d (l.map Ju)), .p (.int .i64 (k : Nat))] (.list false ((Z9 ZI [] (YM (X1 x t sp) (chF r.rests) k l)).map Ju)) := by
 have hsl := hok.len;refine Zc [2, 16] Tryz.func274 rfl ZqO ?_;simp (disch := omega) only [Tryz.f274, go_sem, seval];refine Zn (Weak.fz (o := 1) (by rfl)) ?_;simp (disch := omega) only [List.map_cons, List.map_nil, List.set_cons_succ, List.set_cons_zero, go_sem, seval];refine Zq [1, 2, 3] (fun cb : Bool => [(7, .p (.list cb ((chF r.rests k).map eB)))]) (fun _ => [X4 x t r c sp, .dead]) (fun _ => True) ?_ ?_
 ·simp (disch := omega) only [go_sem, seval];refine cD ?_ ?_ <;> intro h <;> simp (disch := omega) only [Sh.out h, go_sem, seval]
  ·have hk2 : k < r.rests.length := by omega
   have e : chF r.rests k = (r.rests.take (k + 1)).drop k := by
    rw [chF, List.getElem?_eq_getElem hk2, List.take_succ_eq_append_getElem hk2, List.drop_left' (by simp; omega)]
   exact ⟨r.rests_c && decide ((k : Int) + 1 = (r.rests.length : Int)), Weak.mk (by simp (disch := omega) only [X4, e, go_sem, seval])⟩
  ·have e : chF r.rests k = [false, true] := by rw [chF, List.getElem?_eq_none (by omega)]
   exact ⟨false, Weak.mk (by simp (disch := omega) only [X4, e, List.map_cons, List.map_nil, go_sem, seval])⟩
 ·intro cb _
  have hch : (chF r.rests k).length <= 2 := by unfold chF; split <;> simp
  refine Zd [16] _ _ _ _ ?_;simp (disch := omega) only [X4, go_sem, seval]
  refine ZY [16] [2, 3, 7, 29, 30] (fun q : Nat × List Lab => [(8, .sl 2 0 q.2.length q.2.length), (31, .p (.int .i64 q.1))]) (fun q => [X4 x t r c sp, .dead, .elems 7 (q.2.map Ju)])
   (fun q => q.1 <= l.length /\ Z9 ZI [] (YM (X1 x t sp) (chF r.rests) k l) = Z9 ZI q.2 (YM (X1 x t sp) (chF r.rests) k (l.drop q.1)) /\ q.2.length <= 2 * q.1) (fun q => l.length - q.1) (0, []) (by simp) (Weak.ofNil 8 7 rfl (by simp) (Weak.mk ?_)) ?_
  ·simp (disch := omega) only [X4, List.map_nil, List.length_nil, go_sem, seval]
  ·rintro ⟨i, o⟩ ⟨hi, hpr, hol⟩;simp only at hi hpr hol;simp (disch := omega) only [X4, go_sem, seval];refine cD ?_ ?_ <;> intro h1 <;> simp (disch := omega) only [Sh.out h1, go_sem, seval]
   ·have hi2 : i < l.length := by omega
    have hLi := hL _ (Z7 hi2)
    have hdrop : l.drop i = nth l i :: l.drop (i + 1) := by rw [List.drop_eq_getElem_cons hi2, Ze hi2]
    rw [hdrop] at hpr;have hpr : Z9 ZI [] (YM (X1 x t sp) (chF r.rests) k l) = Z9 ZI o (ZmY x t sp r.rests k (nth l i) ((chF r.rests k).drop 0) (l.drop (i + 1))) := hpr
    refine Zf [2, 3, 7, 10, 29, 30, 31, 35, 36] (fun q : Nat × List Lab => [(8, .sl 2 0 q.2.length q.2.length), (37, .p (.int .i64 q.1))]) (fun q => [X4 x t r c sp, .dead, .elems 7 (q.2.map Ju), Yx (nth l i)])
     (fun q => q.1 <= (chF r.rests k).length /\ Z9 ZI [] (YM (X1 x t sp) (chF r.rests) k l) = Z9 ZI q.2 (ZmY x t sp r.rests k (nth l i) ((chF r.rests k).drop q.1) (l.drop (i + 1))) /\ q.2.length <= 2 * i + q.1) (fun q => (chF r.rests k).length - q.1) (0, o) ⟨by simp, hpr, hol⟩ (Weak.mk ?_) ?_
    ·simp (disch := omega) only [X4, Yx, go_sem, seval]
    ·clear hpr hol;rintro ⟨j, o⟩ ⟨hj, hpr, hol⟩;simp only at hj hpr hol;simp (disch := omega) only [X4, Yx, go_sem, seval];refine cD ?_ ?_ <;> intro h2 <;> simp (disch := omega) only [Sh.out h2, go_sem, seval]
     ·have hj2 : j < (chF r.rests k).length := by omega
      have hd2 : (chF r.rests k).drop j = nth (chF r.rests k) j :: (chF r.rests k).drop (j + 1) := by rw [List.drop_eq_getElem_cons hj2, Ze hj2]
      have cn := Zet x t r c sp hok k hk hs1 (nth l i) hLi (nth (chF r.rests k) j);have ho2 : X1 x t sp k (nth l i) (nth (chF r.rests k) j) = if (Y2 x t sp k (nth l i) (nth (chF r.rests k) j)).2 = 0 then some (Y2 x t sp k (nth l i) (nth (chF r.rests k) j)).1 else none := rfl;rw [hd2, ZmY, List.filterMap_cons, ho2] at hpr
      generalize Y2 x t sp k (nth l i) (nth (chF r.rests k) j) = N at *
      refine Xs cn ?_;simp (disch := omega) only [go_sem, seval];refine gT ?_ ?_ <;> intro h3 <;> simp (disch := omega) only [Sh.out h3, go_sem, seval]
      ·have hcl := JI x t r c sp o (nth l i) N.1 (by omega);simp (disch := omega) only [gH, X4, Yx, go_sem, seval] at hcl;refine hcl.useH ?_;simp (disch := omega) only [go_sem, seval];rw [if_pos h3] at hpr;have hpr : Z9 ZI [] (YM (X1 x t sp) (chF r.rests) k l) = if (o.any fun m => ZI m N.1) = true then Z9 ZI o (ZmY x t sp r.rests k (nth l i) ((chF r.rests k).drop (j + 1)) (l.drop (i + 1))) else Z9 ZI (o ++ [N.1]) (ZmY x t sp r.rests k (nth l i) ((chF r.rests k).drop (j + 1)) (l.drop (i + 1))) := hpr;refine cD ?_ ?_ <;> intro h4 <;> simp (disch := omega) only [Sh.out h4, go_sem, seval]
       ·rw [if_neg (by simpa using h4)] at hpr;exact ⟨(j + 1, o ++ [N.1]), ⟨by simp only; omega, hpr, by simp; omega⟩, by simp only; omega, Weak.mk (by simp (disch := omega) only [X4, Yx, List.length_append, List.length_cons, List.length_nil, List.map_append, List.map_cons, List.map_nil, go_sem, seval])⟩
       ·rw [if_pos (by simpa using h4)] at hpr;exact ⟨(j + 1, o), ⟨by simp only; omega, hpr, by simp only; omega⟩, by simp only; omega, Weak.mk (by simp (disch := omega) only [X4, Yx, go_sem, seval])⟩
      ·rw [if_neg h3] at hpr;exact ⟨(j + 1, o), ⟨by simp only; omega, hpr, by simp only; omega⟩, by simp only; omega, Weak.mk (by simp (disch := omega) only [X4, Yx, go_sem, seval])⟩
     ·have hjl : j = (chF r.rests k).length := by omega
      subst hjl;rw [List.drop_length, ZmY, List.filterMap_nil, List.nil_append] at hpr;exact ⟨(i + 1, o), ⟨by simp only; omega, hpr, by simp only; omega⟩, by simp only; omega, Weak.mk (by simp (disch := omega) only [X4, go_sem, seval])⟩
   ·have hil : i = l.length := by omega
    subst hil;have e : YM (X1 x t sp) (chF r.rests) k [] = [] := rfl;rw [List.drop_length, e, Z9] at hpr;rw [hpr];refine Zn (Weak.fz (o := 2) (by rfl)) ?_;refine Zd [] _ _ _ _ ?_;simp (disch := omega) only [List.map_cons, List.map_nil, List.set_cons_succ, List.set_cons_zero, go_sem, seval];exact we
end Go.Proofs.YtcdoglogglbemaaGreatDoor.K
