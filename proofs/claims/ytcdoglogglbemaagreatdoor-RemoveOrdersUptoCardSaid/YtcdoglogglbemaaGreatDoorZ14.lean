/- Declarations that the closing texts need, part 14: joined by tools/slim.py. -/
import Derived.Test.YtcdoglogglbemaaGreatDoorZ13
set_option linter.unusedVariables false
set_option linter.unusedSimpArgs false
namespace Go.Proofs.YtcdoglogglbemaaGreatDoor.K
open Go Go.AM Go.Proofs
set_option maxRecDepth 8000
set_option maxHeartbeats 8000000
theorem useT3 {g : FuncId} {args : List V} {a b c : PV} {H : List AM.Obj} {K : V → List AM.Obj → Prop} (h : ACalls Tryz.prog g args [] fun x H' => x = .tup [.p a, .p b, .p c] ∧ H' = []) (k : K (.tup [.p a, .p b, .p c]) H) (ha : refBs 0 args = true := by rfl) : ACalls Tryz.prog g args H K :=
 (h.behind ha H).mono fun x H' hq => by
  obtain ⟨y, H1, ⟨rfl, rfl⟩, rfl, rfl⟩ := hq
  simpa [shV, shVs] using k
theorem useT' {g : FuncId} {args : List V} {a b : PV} {H : List AM.Obj} {K : V → List AM.Obj → Prop} (h : ACalls Tryz.prog g args [] fun x H' => x = .tup [.p a, .p b] ∧ H' = []) (k : K (.tup [.p a, .p b]) H) (ha : refBs 0 args = true := by rfl) : ACalls Tryz.prog g args H K :=
 (h.behind ha H).mono fun x H' hq => by
  obtain ⟨y, H1, ⟨rfl, rfl⟩, rfl, rfl⟩ := hq
  simpa [shV, shVs] using k
def placeB (n : Net) (p : Int) : Bool := decide (0 ≤ p) && decide (p < (n.places.length : Int))
def arcEq (pr f t : Int) (a : Arc) : Bool := decide (a.src = f) && decide (a.dst = t) && decide (a.prof = pr)
def zeroArc : Arc := ⟨0, 0, 0, 0, true, [], true, []⟩
def findA (n : Net) (pr f t : Int) : Arc × Bool := match n.arcs.find? (arcEq pr f t) with | some a => (a, true) | none => (zeroArc, false)
theorem findA_at {n : Net} {pr f t : Int} {k : Nat} (hk : k < n.arcs.length) (hno : ∀ j, j < k → arcEq pr f t (nth n.arcs j) = false) (h : arcEq pr f t (nth n.arcs k) = true) : findA n pr f t = (nth n.arcs k, true) := by
 have : n.arcs.find? (arcEq pr f t) = some (nth n.arcs k) := by
  rw [List.find?_eq_some_iff_getElem]
  refine ⟨h, k, hk, by rw [nth_get hk], fun j hj => ?_⟩
  have := hno j hj
  rw [nth_get (by omega)] at this
  simp [this]
 rw [findA, this]
theorem findA_no {n : Net} {pr f t : Int} (hno : ∀ j, j < n.arcs.length → arcEq pr f t (nth n.arcs j) = false) : findA n pr f t = (zeroArc, false) := by
 have : n.arcs.find? (arcEq pr f t) = none := by
  rw [List.find?_eq_none]
  intro a ha
  obtain ⟨j, hj, rfl⟩ := List.mem_iff_getElem.1 ha
  have := hno j hj
  rw [nth_get hj] at this
  simp [this]
 rw [findA, this]
def goN (n : Net) (pr f t τ : Int) : Int × Int × Int :=
 if (placeB n f && placeB n t) = false then (0, 0, 11) else if f = t then (τ, 0, 0) else if (findA n pr f t).2 = true then (arrA (findA n pr f t).1 τ, (findA n pr f t).1.miles, 0) else (0, 0, 12)
def netR (n : Net) : Prop := n.places.length ≤ 1048576 ∧ n.arcs.length ≤ 1048576 ∧ ∀ a ∈ n.arcs, arcR a
theorem findA_mem {n : Net} {pr f t : Int} (h : (findA n pr f t).2 = true) : (findA n pr f t).1 ∈ n.arcs := by
 unfold findA at h ⊢
 cases hf : n.arcs.find? (arcEq pr f t) with
 | none => rw [hf] at h; simp at h
 | some a => exact List.mem_of_find?_eq_some hf
end Go.Proofs.YtcdoglogglbemaaGreatDoor.K
set_option linter.unusedVariables false
set_option linter.unusedSimpArgs false
namespace Go.Proofs.YtcdoglogglbemaaGreatDoor.K
open Go Go.AM Go.Proofs
set_option maxRecDepth 8000
set_option maxHeartbeats 8000000
theorem dec_one {n : Nat} (h : n < 10) : dec n = [UInt8.ofNat (48 + n)] := by rw [dec, dif_pos h]
theorem dec_two {n : Nat} (h : 10 ≤ n) (h2 : n < 100) : dec n = [UInt8.ofNat (48 + n / 10), UInt8.ofNat (48 + n % 10)] := by
 rw [dec, dif_neg (by omega), dec_one (by omega)]; rfl
theorem aslS_str {s : List UInt8} {k k' : IntKind} {a b : Int} (h : 0 ≤ a ∧ a ≤ b ∧ b ≤ (s.length : Int)) : aslS (some .string) s (.p (.int k a)) (.p (.int k' b)) = some (.p (.str ((s.take b.toNat).drop a.toNat))) := by
 simp only [aslS, if_pos h]
def digT : List UInt8 := (List.range 36).map fun i => UInt8.ofNat (if i < 10 then 48 + i else 87 + i)
def smalT : List UInt8 := (List.range 100).flatMap fun i => [UInt8.ofNat (48 + i / 10), UInt8.ofNat (48 + i % 10)]
theorem digT_at : ∀ n, n < 10 → (digT.take (n + 1)).drop n = [UInt8.ofNat (48 + n)] := by decide
theorem smalT_at : ∀ n, n < 100 → (smalT.take (2 * n + 2)).drop (2 * n) = [UInt8.ofNat (48 + n / 10), UInt8.ofNat (48 + n % 10)] := by decide +kernel
theorem small_c (n : Nat) (hn : n < 100) : ACalls Tryz.prog 354 [.p (.int .i64 (n : Int))] [] fun x H' => x = .p (.str (dec n)) ∧ H' = [] := by
 refine acalls_pure (fn := Tryz.f354) Tryz.func354 rfl isF354 ?_
 simp (disch := omega) only [Tryz.f354, go_sem, seval]
 refine acond_b (fun h => ?_) (fun h => ?_) <;> (try simp only [decide_eq_true_eq, decide_eq_false_iff_not] at h) <;> simp (disch := omega) only [Sh.out h, go_sem, seval]
 ·rw [dec_one (by omega), aslS_str (by simp; omega)]
  have e1 : ((n : Int) + 1).toNat = n + 1 := by omega
  have e2 : ((n : Int)).toNat = n := by omega
  rw [e1, e2]
  refine (congrArg (fun z => pst (some (V.p (PV.str z))) _) (digT_at n (by omega))).mpr ?_
  simp (disch := omega) only [go_sem, seval]
 ·rw [dec_two (by omega) hn, aslS_str (by simp; omega)]
  have e1 : ((n : Int) * 2 + 2).toNat = 2 * n + 2 := by omega
  have e2 : ((n : Int) * 2).toNat = 2 * n := by omega
  rw [e1, e2]
  refine (congrArg (fun z => pst (some (V.p (PV.str z))) _) (smalT_at n (by omega))).mpr ?_
  simp (disch := omega) only [go_sem, seval]
theorem fmtInt_c (n : Nat) (hn : n < 100) : ACalls Tryz.prog 353 [.p (.int .i64 (n : Int)), .p (.int .i64 10)] [] fun x H' => x = .p (.str (dec n)) ∧ H' = [] := by
 refine acalls_pure (fn := Tryz.f353) Tryz.func353 rfl isF353 ?_
 have h0 : (0 : Int) ≤ (n : Int) := by omega
 have h1 : (n : Int) < 100 := by omega
 simp (disch := omega) only [Tryz.f353, h0, h1, go_sem, seval]
 refine (small_c n hn).use ?_
 simp (disch := omega) only [go_sem, seval]
theorem itoaI_c (n : Nat) (hn : n < 100) : ACalls Tryz.prog 352 [.p (.int .i64 (n : Int))] [] fun x H' => x = .p (.str (dec n)) ∧ H' = [] := by
 refine acalls_pure (fn := Tryz.f352) Tryz.func352 rfl isF352 ?_
 simp (disch := omega) only [Tryz.f352, go_sem, seval]
 refine (fmtInt_c n hn).use ?_
 simp (disch := omega) only [go_sem, seval]
theorem itoa_c (n : Nat) (hn : n < 100) : ACalls Tryz.prog 351 [.p (.int .i64 (n : Int))] [] fun x H' => x = .p (.str (dec n)) ∧ H' = [] := by
 refine acalls_pure (fn := Tryz.f351) Tryz.func351 rfl isF351 ?_
 simp (disch := omega) only [Tryz.f351, go_sem, seval]
 refine (itoaI_c n hn).use ?_
 simp (disch := omega) only [go_sem, seval]
theorem within_c (n a b : Int) : ACalls Tryz.prog 341 [.p (.int .i64 n), .p (.int .i64 a), .p (.int .i64 b)] [] fun x H' => x = .p (.bool (decide (a ≤ n) && decide (n ≤ b))) ∧ H' = [] := by
 refine acalls_pure (fn := Tryz.f341) Tryz.func341 rfl isF341 ?_
 simp (disch := omega) only [Tryz.f341, go_sem, seval]
 repeat' (first | (refine aguard_t (fun hq => ?_) (fun hq => ?_) <;> (try simp only [decide_eq_true_eq, decide_eq_false_iff_not, Classical.not_not] at hq) <;> simp (disch := omega) only [Sh.out hq, go_sem, seval]) | (refine aguard_f (fun hq => ?_) (fun hq => ?_) <;> (try simp only [decide_eq_true_eq, decide_eq_false_iff_not, Classical.not_not] at hq) <;> simp (disch := omega) only [Sh.out hq, go_sem, seval]) | (refine acond_b (fun hq => ?_) (fun hq => ?_) <;> (try simp only [decide_eq_true_eq, decide_eq_false_iff_not, Classical.not_not] at hq) <;> simp (disch := omega) only [Sh.out hq, go_sem, seval]))
 all_goals (simp; first | done | omega)
theorem pCheck_c (l : List Pt) (c : Bool) (hl : ptsOk l) : ACalls Tryz.prog 347 [.p (.list c (l.map ePt))] [] fun x H' => x = .p (.list true []) ∧ H' = [] := by
 obtain ⟨⟨hl1, hl2⟩, hpt⟩ := hl
 refine acalls_pure (fn := Tryz.f347) Tryz.func347 rfl isF347 ?_
 have e1 : ¬ (l.length : Int) = 0 := by omega
 have e2 : ¬ (16 : Int) < (l.length : Int) := by omega
 simp (disch := omega) only [Tryz.f347, e1, e2, go_sem, seval]
 refine awp_for [0, 19, 20] (fun k : Nat => [(3, .p (.list true [])), (21, .p (.int .i64 k))]) (fun _ => []) (fun k => k ≤ l.length) (fun k => l.length - k) 0 (by simp) (Weak.mk ?_) ?_
 ·simp (disch := omega) only [go_sem, seval]
 ·intro k hk
  simp (disch := omega) only [go_sem, seval]
  refine acond_b (fun h => ?_) (fun h => ?_) <;> (try simp only [decide_eq_true_eq, decide_eq_false_iff_not] at h) <;> simp (disch := omega) only [Sh.out h, go_sem, seval]
  ·have hk2 : k < l.length := by omega
   obtain ⟨⟨p1, p2, p3, p4⟩, q⟩ := hpt k hk2
   refine (itoa_c k (by omega)).use ?_
   simp (disch := omega) only [go_sem, seval]
   refine (within_c (nth l k).t 0 4096).use ?_
   simp (disch := omega) only [go_sem, seval]
   simp (disch := omega) only [p1, p2, go_sem, seval]
   refine aguard_f (fun h3 => ?_) (fun h3 => ?_) <;> (try simp only [decide_eq_true_eq, decide_eq_false_iff_not] at h3) <;> simp (disch := omega) only [Sh.out h3, go_sem, seval]
   ·omega
   ·refine acond_b (fun h4 => ?_) (fun h4 => ?_) <;> (try simp only [decide_eq_true_eq, decide_eq_false_iff_not] at h4) <;> simp (disch := omega) only [Sh.out h4, go_sem, seval]
    ·omega
    ·refine awp_drawnA mixed (by kernel_rfl) (by kernel_rfl) ?_
     simp (disch := omega) only [go_sem, seval]
     refine aguard_t (fun h5 => ?_) (fun h5 => ?_) <;> (try simp only [decide_eq_true_eq, decide_eq_false_iff_not] at h5) <;> simp (disch := omega) only [Sh.out h5, go_sem, seval]
     ·obtain ⟨r1, r2⟩ := q (by omega)
      refine aguard_f (fun h6 => ?_) (fun h6 => ?_) <;> (try simp only [decide_eq_true_eq, decide_eq_false_iff_not] at h6) <;> simp (disch := omega) only [Sh.out h6, go_sem, seval]
      ·omega
      ·refine acond_b (fun h7 => ?_) (fun h7 => ?_) <;> (try simp only [decide_eq_true_eq, decide_eq_false_iff_not] at h7) <;> simp (disch := omega) only [Sh.out h7, go_sem, seval]
       ·omega
       ·exact ⟨k + 1, by omega, by omega, Weak.mk (by simp (disch := omega) only [go_sem, seval])⟩
     ·exact ⟨k + 1, by omega, by omega, Weak.mk (by simp (disch := omega) only [go_sem, seval])⟩
theorem cmpAt_c (p : Pt) (t : Int) (h : 0 ≤ p.t ∧ p.t ≤ 4096) (ht : 0 ≤ t ∧ t ≤ 1073741824) : ACalls Tryz.prog 349 [.p (ePt p), .p (.int .i64 t)] [] fun x H' => x = .p (.int .i64 (p.t - t)) ∧ H' = [] := by
 refine acalls_pure (fn := Tryz.f349) Tryz.func349 rfl isF349 ?_
 simp (disch := omega) only [Tryz.f349, go_sem, seval]
theorem right_c (l : List Pt) (c : Bool) (hl : ptsOk l) : ACalls Tryz.prog 342 [.p (.list c (l.map ePt))] [] fun x H' => x = .p (.bool true) ∧ H' = [] := by
 refine acalls_pure (fn := Tryz.f342) Tryz.func342 rfl isF342 ?_
 simp (disch := omega) only [Tryz.f342, go_sem, seval]
 refine (pCheck_c l c hl).use ?_
 simp (disch := omega) only [go_sem, seval]
structure PosT (l : List Pt) (t : Int) (i : Nat) : Prop where
 le : i ≤ l.length
 lo : ∀ j, j < i → (nth l j).t < t
 hi : ∀ j, i ≤ j → j < l.length → t ≤ (nth l j).t
theorem bsP_c (l : List Pt) (c : Bool) (t : Int) (i : Nat) (hl : ptsOk l) (ht : 0 ≤ t ∧ t ≤ 1073741824) (hi : PosT l t i) : ACalls Tryz.prog 348 [.p (.list c (l.map ePt)), .p (.int .i64 t), .fn (.func 349) [] []] [] fun x H' => x = .tup [.p (.int .i64 (i : Int)), .p (.bool (decide (i < l.length) && decide ((nth l i).t = t)))] ∧ H' = [] := by
 obtain ⟨⟨hl1, hl2⟩, hpt⟩ := hl
 obtain ⟨hi1, hi2, hi3⟩ := hi
 refine acalls_weak [] (fn := Tryz.f348) Tryz.func348 rfl isF348 ?_
 simp (disch := omega) only [Tryz.f348, go_sem, seval]
 refine awp_for [0, 1, 2, 8] (fun q : Nat × Nat => [(9, .p (.int .i64 q.1)), (10, .p (.int .i64 q.2))]) (fun _ => []) (fun q => q.1 ≤ i ∧ i ≤ q.2 ∧ q.2 ≤ l.length) (fun q => q.2 - q.1) (0, l.length) (by simp; omega) (Weak.mk ?_) ?_
 ·simp (disch := omega) only [go_sem, seval]
 ·rintro ⟨a, b⟩ ⟨h1, h2, h3⟩
  simp only at h1 h2 h3
  simp (disch := omega) only [go_sem, seval]
  refine acond_b (fun h => ?_) (fun h => ?_) <;> (try simp only [decide_eq_true_eq, decide_eq_false_iff_not] at h) <;> simp (disch := omega) only [Sh.out h, go_sem, seval]
  ·have hm : (a + b) / 2 < l.length := by omega
   obtain ⟨⟨p1, p2, p3, p4⟩, q⟩ := hpt _ hm
   have hs : ((a : Int) + (b : Int)).fdiv (2 ^ min 1 64) = (((a + b) / 2 : Nat) : Int) := by
    rw [Int.fdiv_eq_ediv_of_nonneg _ (by decide)]; norm_cast
   have em : ((((a + b) / 2 : Nat)) : Int).toNat = (a + b) / 2 := by omega
   have hnb : ((a + b) / 2 < i) ↔ (nth l ((a + b) / 2)).t - t < 0 := by
    constructor
    ·intro hh; have := hi2 _ hh; omega
    ·intro hh
     by_cases g : (a + b) / 2 < i
     ·exact g
     ·have := hi3 _ (by omega) hm; omega
   rw [hs]
   simp (disch := omega) only [go_sem, seval]
   refine (cmpAt_c (nth l ((a + b) / 2)) t ⟨p1, p2⟩ ht).use ?_
   simp (disch := omega) only [go_sem, seval]
   refine acond_b (fun h4 => ?_) (fun h4 => ?_) <;> (try simp only [decide_eq_true_eq, decide_eq_false_iff_not] at h4) <;> simp (disch := omega) only [Sh.out h4, go_sem, seval]
   ·exact ⟨((a + b) / 2 + 1, b), ⟨by simp only; have := hnb.2 h4; omega, h2, h3⟩, by simp only; omega, Weak.mk (by simp (disch := omega) only [go_sem, seval])⟩
   ·exact ⟨(a, (a + b) / 2), ⟨h1, by simp only; have := fun g => h4 (hnb.1 g); omega, by simp only; omega⟩, by simp only; omega, Weak.mk (by simp (disch := omega) only [go_sem, seval])⟩
  ·have : a = i := by omega
   subst this
   refine aguard_t (fun h4 => ?_) (fun h4 => ?_) <;> (try simp only [decide_eq_true_eq, decide_eq_false_iff_not] at h4) <;> simp (disch := omega) only [Sh.out h4, go_sem, seval]
   ·have hm : a < l.length := by omega
    obtain ⟨⟨p1, p2, p3, p4⟩, q⟩ := hpt _ hm
    refine (cmpAt_c (nth l a) t ⟨p1, p2⟩ ht).use ?_
    simp (disch := omega) only [go_sem, seval]
    have e5 : ((nth l a).t - t = 0) = ((nth l a).t = t) := propext (by omega)
    exact ⟨_, _, Weak.mk (by simp (disch := omega) only [e5, hm, go_sem, seval]), rfl, rfl⟩
   ·have hm : ¬ a < l.length := by omega
    exact ⟨_, _, Weak.mk (by simp (disch := omega) only [hm, go_sem, seval]), rfl, rfl⟩
end Go.Proofs.YtcdoglogglbemaaGreatDoor.K
set_option linter.unusedVariables false
set_option linter.unusedSimpArgs false
namespace Go.Proofs.YtcdoglogglbemaaGreatDoor.K
open Go Go.AM Go.Proofs
set_option maxRecDepth 8000
set_option maxHeartbeats 8000000
theorem pts_mono {l : List Pt} (hl : ptsOk l) {k : Nat} (hk : k < l.length) : ∀ j, j < k → (nth l j).t < (nth l k).t := by
 obtain ⟨_, hpt⟩ := hl
 induction k with
 | zero => intro j hj; omega
 | succ k ih =>
  intro j hj
  obtain ⟨_, q⟩ := hpt (k + 1) hk
  obtain ⟨r1, _⟩ := q (by omega)
  rw [Nat.add_sub_cancel] at r1
  rcases Nat.lt_succ_iff_lt_or_eq.1 hj with h | h
  ·exact Int.lt_trans (ih (by omega) j h) r1
  ·subst h; exact r1
theorem posT_ex {l : List Pt} (hl : ptsOk l) (t : Int) : ∃ i, PosT l t i := by
 have : ∀ n, n ≤ l.length → ∃ i, i ≤ n ∧ (∀ j, j < i → (nth l j).t < t) ∧ (i < n → t ≤ (nth l i).t) := by
  intro n
  induction n with
  | zero => intro _; exact ⟨0, by omega, fun j hj => by omega, fun h => by omega⟩
  | succ n ih =>
   intro hn
   obtain ⟨i, h1, h2, h3⟩ := ih (by omega)
   by_cases g : i < n
   ·exact ⟨i, by omega, h2, fun _ => h3 g⟩
   ·have : i = n := by omega
    subst this
    by_cases g2 : (nth l i).t < t
    ·exact ⟨i + 1, by omega, upto_iff.2 ⟨h2, g2⟩, fun h => by omega⟩
    ·exact ⟨i, by omega, h2, fun _ => by omega⟩
 obtain ⟨i, h1, h2, h3⟩ := this l.length (Nat.le_refl _)
 refine ⟨i, h1, h2, fun j hj hjl => ?_⟩
 rcases Nat.lt_or_eq_of_le hj with h | h
 ·have := pts_mono hl hjl i h; have := h3 (by omega); omega
 ·subst h; exact h3 hjl
theorem arrT_eq {l : List Pt} {t : Int} {i : Nat} (hl : ptsOk l) (h : PosT l t i) (hi : i < l.length) (e : (nth l i).t = t) : arrT l t = (nth l i).a := by
 by_cases g : i + 1 < l.length
 ·have m := pts_mono hl g i (by omega)
  rw [arrT_at g (fun j hj => ?_) (by simp [segI, e]; omega), segA]
  ·rw [e, Int.sub_self, Int.zero_mul, Int.zero_add]
   rw [Int.ediv_eq_zero_of_lt (by omega) (by omega)]; omega
  ·have : (nth l (j + 1)).t ≤ t := by
    rcases Nat.lt_or_eq_of_le (show j + 1 ≤ i by omega) with h1 | h1
    ·have := h.lo _ h1; omega
    ·rw [h1, e]; exact Int.le_refl _
   simp [segI]; omega
 ·have hi1 : i = l.length - 1 := by omega
  rw [arrT_no (fun j hj => ?_)]
  ·split
   ·rw [← hi1]; omega
   ·have : i = 0 := by
     by_cases g2 : i = 0
     ·exact g2
     ·have := h.lo 0 (by omega); omega
    subst this; omega
  ·have : (nth l (j + 1)).t ≤ t := by
    rcases Nat.lt_or_eq_of_le (show j + 1 ≤ i by omega) with h1 | h1
    ·have := h.lo _ h1; omega
    ·rw [h1, e]; exact Int.le_refl _
   simp [segI]; omega
theorem arrT_lo {l : List Pt} {t : Int} (hl : ptsOk l) (h : PosT l t 0) (e : ¬ (nth l 0).t = t) : arrT l t = t + (nth l 0).a - (nth l 0).t := by
 have h0 := h.hi 0 (Nat.le_refl _) hl.1.1
 rw [arrT_no (fun j hj => ?_), if_neg (by omega)]
 have : t < (nth l j).t := by
  by_cases g : j = 0
  ·subst g; omega
  ·have := pts_mono hl (show j < l.length by omega) 0 (by omega); omega
 simp [segI]; omega
theorem arrT_hi {l : List Pt} {t : Int} (h : PosT l t l.length) (hl : 0 < l.length) : arrT l t = t + (nth l (l.length - 1)).a - (nth l (l.length - 1)).t := by
 rw [arrT_no (fun j hj => ?_), if_pos (h.lo 0 hl)]
 have := h.lo (j + 1) hj
 simp [segI]; omega
theorem arrT_mid {l : List Pt} {t : Int} {i : Nat} (h : PosT l t i) (h0 : 0 < i) (hi : i < l.length) (e : ¬ (nth l i).t = t) : arrT l t = segA (nth l (i - 1)) (nth l i) t := by
 have e1 : i - 1 + 1 = i := by omega
 have h1 := h.lo (i - 1) (by omega)
 have h2 := h.hi i (Nat.le_refl _) hi
 have := arrT_at (l := l) (t := t) (i := i - 1) (by omega) (fun j hj => by have := h.lo (j + 1) (by omega); simp [segI]; omega) (by rw [segI, e1]; simp; omega)
 rw [this, e1]
theorem segA_wrap {p q : Pt} {t : Int} (h1 : p.t ≤ t) (h2 : t < q.t) (hp : 0 ≤ p.t) (hq : q.t ≤ 4096) (ha : p.a ≤ q.a) (hpa : 0 ≤ p.a) (hqa : q.a ≤ 8192) :
  IntKind.i64.wrap (p.a + IntKind.i64.wrap ((IntKind.i64.wrap (IntKind.i64.wrap (IntKind.i64.wrap ((t - p.t) * (q.a - p.a)) + (q.t - p.t)) - 1)).tdiv (q.t - p.t))) = segA p q t := by
 have hm := segA_rng h1 h2 hp hq ha hpa hqa
 unfold segA
 generalize hM : (t - p.t) * (q.a - p.a) = m at hm
 have hd : 0 ≤ (m + (q.t - p.t) - 1) / (q.t - p.t) ∧ (m + (q.t - p.t) - 1) / (q.t - p.t) ≤ m + (q.t - p.t) - 1 := by
  refine ⟨Int.ediv_nonneg (by omega) (by omega), Int.ediv_le_self _ (by omega)⟩
 rw [IntWalk.i64_in m (by omega), IntWalk.i64_in (m + (q.t - p.t)) (by omega), IntWalk.i64_in (m + (q.t - p.t) - 1) (by omega), Int.tdiv_eq_ediv_of_nonneg (by omega), IntWalk.i64_in ((m + (q.t - p.t) - 1) / (q.t - p.t)) (by omega), IntWalk.i64_in _ (by omega)]
 congr 2
 omega
theorem pArrive0_c (l : List Pt) (c : Bool) (t : Int) (hl : ptsOk l) (ht : 0 ≤ t ∧ t ≤ 1073741824) : ACalls Tryz.prog 343 [.p (.list c (l.map ePt)), .p (.int .i64 t)] [] fun x H' => x = .p (.int .i64 (arrT l t)) ∧ H' = [] := by
 obtain ⟨i, hi⟩ := posT_ex hl t
 have hl' := hl
 obtain ⟨⟨hl1, hl2⟩, hpt⟩ := hl'
 refine acalls_pure (fn := Tryz.f343) Tryz.func343 rfl isF343 ?_
 simp (disch := omega) only [Tryz.f343, go_sem, seval]
 refine useT' (bsP_c l c t i hl ht hi) ?_
 simp (disch := omega) only [go_sem, seval]
 obtain ⟨i1, i2, i3⟩ := id hi
 refine acond_b (fun h => ?_) (fun h => ?_) <;> (try simp only [decide_eq_true_eq, decide_eq_false_iff_not] at h) <;> simp (disch := omega) only [Sh.out h, go_sem, seval]
 ·obtain ⟨h1, h2⟩ := h
  have := hpt i h1
  rw [arrT_eq hl hi h1 h2]
 ·refine acond_b (fun h0 => ?_) (fun h0 => ?_) <;> (try simp only [decide_eq_true_eq, decide_eq_false_iff_not] at h0) <;> simp (disch := omega) only [Sh.out h0, go_sem, seval]
  ·have : i = 0 := by omega
   subst this
   obtain ⟨p1, p2⟩ := hpt 0 (by omega)
   rw [arrT_lo hl hi (fun g => h ⟨by omega, g⟩)]
   refine awp_drawnA mixed (by kernel_rfl) (by kernel_rfl) ?_
   simp (disch := omega) only [go_sem, seval]
  ·refine acond_b (fun h1 => ?_) (fun h1 => ?_) <;> (try simp only [decide_eq_true_eq, decide_eq_false_iff_not] at h1) <;> simp (disch := omega) only [Sh.out h1, go_sem, seval]
   ·have : i = l.length := by omega
    subst this
    obtain ⟨p1, p2⟩ := hpt (l.length - 1) (by omega)
    rw [arrT_hi hi (by omega)]
    have e1 : ((l.length : Int) - 1).toNat = l.length - 1 := by omega
    refine awp_drawnA mixed (by kernel_rfl) (by kernel_rfl) ?_
    simp (disch := omega) only [go_sem, seval]
   ·have g1 : i < l.length := by omega
    rw [arrT_mid hi (by omega) g1 (fun g => h ⟨g1, g⟩)]
    have g2 := pts_mono hl g1 (i - 1) (by omega)
    obtain ⟨p1, p2⟩ := hpt i g1
    obtain ⟨p3, p4⟩ := hpt (i - 1) (by omega)
    have e1 : ((i : Int) - 1).toNat = i - 1 := by omega
    have q1 := i2 (i - 1) (by omega)
    have q2 := i3 i (Nat.le_refl _) g1
    have q3 : ¬ (nth l i).t = t := fun g => h ⟨g1, g⟩
    have q4 := p2 (by omega)
    refine awp_drawnT [9, 10, 11] 12 mixed (by kernel_rfl) (by kernel_rfl) (by kernel_rfl) (by simp) ?_
    simp (disch := omega) only [e1, go_sem, seval]
    refine lateT_two 9 10 _ _ _ _ (by kernel_rfl) (by simp (disch := omega) only [go_sem, seval]; exact ⟨rfl, rfl⟩) (by simp (disch := omega) only [go_sem, seval]; exact ⟨rfl, rfl⟩) ?_ ?_
    ·refine lateT_one 10 _ _ (by kernel_rfl) (by simp (disch := omega) only [go_sem, seval]; exact ⟨rfl, rfl⟩) (lateT_one 11 _ _ (by kernel_rfl) (by simp (disch := omega) only [go_sem, seval]; exact ⟨rfl, rfl⟩) (lateT_z ?_))
     simp (disch := omega) only [go_sem, seval]
     refine awp_drawnA mixed (by kernel_rfl) (by kernel_rfl) ?_
     simp (disch := omega) only [go_sem, seval]
     exact congrArg (fun z => V.p (PV.int IntKind.i64 z)) (segA_wrap (by omega) (by omega) (by omega) (by omega) (by omega) (by omega) (by omega))
    ·refine lateT_one 9 _ _ (by kernel_rfl) (by simp (disch := omega) only [go_sem, seval]; exact ⟨rfl, rfl⟩) (lateT_one 11 _ _ (by kernel_rfl) (by simp (disch := omega) only [go_sem, seval]; exact ⟨rfl, rfl⟩) (lateT_z ?_))
     simp (disch := omega) only [go_sem, seval]
     refine awp_drawnA mixed (by kernel_rfl) (by kernel_rfl) ?_
     simp (disch := omega) only [go_sem, seval]
     exact congrArg (fun z => V.p (PV.int IntKind.i64 z)) (segA_wrap (by omega) (by omega) (by omega) (by omega) (by omega) (by omega) (by omega))
end Go.Proofs.YtcdoglogglbemaaGreatDoor.K
set_option linter.unusedVariables false
set_option linter.unusedSimpArgs false
namespace Go.Proofs.YtcdoglogglbemaaGreatDoor.K
open Go Go.AM Go.Proofs
set_option maxRecDepth 8000
set_option maxHeartbeats 8000000
theorem pArrive_c (l : List Pt) (c : Bool) (t : Int) (hl : ptsOk l) (ht : 0 ≤ t ∧ t ≤ 1073741824) : ACalls Tryz.prog 339 [.p (.list c (l.map ePt)), .p (.int .i64 t)] [] fun x H' => x = .p (.int .i64 (arrT l t)) ∧ H' = [] := by
 refine acalls_pure (fn := Tryz.f339) Tryz.func339 rfl isF339 ?_
 simp (disch := omega) only [Tryz.f339, go_sem, seval]
 refine (within_c t 0 1073741824).use ?_
 simp (disch := omega) only [go_sem, seval]
 simp (disch := omega) only [ht, go_sem, seval]
 refine (right_c l c hl).use ?_
 simp (disch := omega) only [go_sem, seval]
 refine (pArrive0_c l c t hl ht).use ?_
 simp (disch := omega) only [go_sem, seval]
theorem pPlace_c (n : Net) (p : Int) (hn : n.places.length ≤ 1048576) : ACalls Tryz.prog 321 [.p (eNet n), .p (.int .i64 p)] [] fun x H' => x = .p (.bool (placeB n p)) ∧ H' = [] := by
 refine acalls_pure (fn := Tryz.f321) Tryz.func321 rfl isF321 ?_
 simp (disch := omega) only [Tryz.f321, go_sem, seval]
 refine aguard_t (fun h => ?_) (fun h => ?_) <;> (try simp only [decide_eq_true_eq, decide_eq_false_iff_not] at h) <;> simp (disch := omega) only [Sh.out h, go_sem, seval]
 ·simp [placeB, h]
 ·simp [placeB, h]
theorem wayOf_c (a : Arc) : ACalls Tryz.prog 338 [.p (eArc a)] [] fun x H' => x = .p (.agg [.int .i64 a.src, .int .i64 a.dst, .int .i64 a.prof]) ∧ H' = [] := by
 refine acalls_pure (fn := Tryz.f338) Tryz.func338 rfl isF338 ?_
 simp (disch := omega) only [Tryz.f338, go_sem, seval]
theorem pArrA_c (a : Arc) (t : Int) (ha : arcR a) (ht : 0 ≤ t ∧ t ≤ 1073741824) : ACalls Tryz.prog 323 [.p (eArc a), .p (.int .i64 t)] [] fun x H' => x = .p (.int .i64 (arrA a t)) ∧ H' = [] := by
 obtain ⟨h1, h2, h3⟩ := ha
 have hr := arrT_rng h1 ht
 have hs := slowS_rng (t := t) (fun p hp => (h3 p hp).2.2)
 refine acalls_pure (fn := Tryz.f323) Tryz.func323 rfl isF323 ?_
 simp (disch := omega) only [Tryz.f323, go_sem, seval]
 refine (pArrive_c a.travel a.travel_c t h1 ht).use ?_
 simp (disch := omega) only [go_sem, seval]
 refine awp_for [1, 13, 14] (fun k : Nat => [(5, .p (.int .i64 (arrT a.travel t + slowS a.slow t k))), (15, .p (.int .i64 k))]) (fun _ => [arcO a]) (fun k => k ≤ a.slow.length) (fun k => a.slow.length - k) 0 (by simp) (Weak.mk ?_) ?_
 ·simp (disch := omega) only [arcO, slowS, List.foldl_nil, go_sem, seval]
  simp
 ·intro k hk
  have hsk := hs k hk
  simp (disch := omega) only [arcO, go_sem, seval]
  refine acond_b (fun h => ?_) (fun h => ?_) <;> (try simp only [decide_eq_true_eq, decide_eq_false_iff_not] at h) <;> simp (disch := omega) only [Sh.out h, go_sem, seval]
  ·have hk2 : k < a.slow.length := by omega
   have hp := h3 _ (nth_in hk2)
   have hsn := slowS_succ (t := t) hk2
   refine acond_b (fun h4 => ?_) (fun h4 => ?_) <;> (try simp only [decide_eq_true_eq, decide_eq_false_iff_not] at h4) <;> simp (disch := omega) only [Sh.out h4, go_sem, seval]
   ·rw [if_pos h4] at hsn
    exact ⟨k + 1, by omega, by omega, Weak.mk (by simp (disch := omega) only [arcO, hsn, Int.add_assoc, go_sem, seval])⟩
   ·rw [if_neg h4] at hsn
    exact ⟨k + 1, by omega, by omega, Weak.mk (by simp (disch := omega) only [arcO, hsn, go_sem, seval])⟩
  ·have hkl : k = a.slow.length := by omega
   subst hkl
   simp only [arrA]
theorem pFind_c (n : Net) (pr f t : Int) (hn : n.arcs.length ≤ 1048576) : ACalls Tryz.prog 322 [.p (eNet n), .p (.int .i64 pr), .p (.int .i64 f), .p (.int .i64 t)] [] fun x H' => x = .tup [.p (eArc (findA n pr f t).1), .p (.bool (findA n pr f t).2)] ∧ H' = [] := by
 refine acalls_weak [] (fn := Tryz.f322) Tryz.func322 rfl isF322 ?_
 simp (disch := omega) only [Tryz.f322, go_sem, seval]
 refine awp_for [8, 10, 18, 19] (fun k : Nat => [(20, .p (.int .i64 k))]) (fun _ => netH n ++ [arcO zeroArc, .cells [.p (.int .i64 f), .p (.int .i64 t), .p (.int .i64 pr)]]) (fun k => k ≤ n.arcs.length ∧ ∀ j, j < k → arcEq pr f t (nth n.arcs j) = false) (fun k => n.arcs.length - k) 0 (by simp) (Weak.mk ?_) ?_
 ·simp (disch := omega) only [netH, arcO, zeroArc, List.map_nil, List.cons_append, List.nil_append, go_sem, seval]
 ·rintro k ⟨hk, hno⟩
  simp (disch := omega) only [netH, arcO, zeroArc, List.map_nil, List.cons_append, List.nil_append, go_sem, seval]
  refine acond_b (fun h => ?_) (fun h => ?_) <;> (try simp only [decide_eq_true_eq, decide_eq_false_iff_not] at h) <;> simp (disch := omega) only [Sh.out h, go_sem, seval]
  ·have hk2 : k < n.arcs.length := by omega
   have nx : arcEq pr f t (nth n.arcs k) = false → ∀ j, j < k + 1 → arcEq pr f t (nth n.arcs j) = false := fun h => upto_iff.2 ⟨hno, h⟩
   refine awp_drawnA mixed (by kernel_rfl) (by kernel_rfl) ?_
   simp (disch := omega) only [go_sem, seval]
   refine exq_call (wayOf_c (nth n.arcs k)) ?_
   simp (disch := omega) only [go_sem, seval]
   refine acond_b (fun h1 => ?_) (fun h1 => ?_) <;> (try simp only [decide_eq_true_eq, decide_eq_false_iff_not] at h1) <;> simp (disch := omega) only [Sh.out h1, go_sem, seval]
   ·have e := findA_at hk2 hno (by simp [arcEq, h1])
    obtain ⟨rfl, rfl, rfl⟩ := h1
    rw [e]
    exact ⟨_, _, Weak.mk (by simp (disch := omega) only [go_sem, seval]), rfl, rfl⟩
   ·have e2 : arcEq pr f t (nth n.arcs k) = false := by
     cases hq : arcEq pr f t (nth n.arcs k) with
     | false => rfl
     | true => simp only [arcEq, Bool.and_eq_true, decide_eq_true_eq] at hq; exact absurd ⟨hq.1.1, hq.1.2, hq.2⟩ h1
    exact ⟨k + 1, ⟨by omega, nx e2⟩, by omega, Weak.mk (by simp (disch := omega) only [netH, arcO, zeroArc, List.map_nil, List.cons_append, List.nil_append, go_sem, seval])⟩
  ·have hkn : k = n.arcs.length := by omega
   subst hkn
   rw [findA_no hno]
   exact ⟨_, _, Weak.mk (by simp (disch := omega) only [zeroArc, List.map_nil, go_sem, seval]), rfl, rfl⟩
theorem pGo_c (n : Net) (pr f t τ : Int) (hn : netR n) (hτ : 0 ≤ τ ∧ τ ≤ 1073741824) : ACalls Tryz.prog 294 [.p (eNet n), .p (.int .i64 pr), .p (.int .i64 f), .p (.int .i64 t), .p (.int .i64 τ)] [] fun x H' => x = .tup [.p (.int .i64 (goN n pr f t τ).1), .p (.int .i64 (goN n pr f t τ).2.1), .p (.int .i64 (goN n pr f t τ).2.2)] ∧ H' = [] := by
 refine acalls_weak [] (fn := Tryz.f294) Tryz.func294 rfl isF294 ?_
 simp (disch := omega) only [Tryz.f294, go_sem, seval]
 refine (pPlace_c n f hn.1).use ?_
 simp (disch := omega) only [go_sem, seval]
 refine aguard_f (fun h1 => ?_) (fun h1 => ?_) <;> (try simp only [decide_eq_true_eq, decide_eq_false_iff_not] at h1) <;> simp (disch := omega) only [Sh.out h1, go_sem, seval]
 ·have e : goN n pr f t τ = (0, 0, 11) := by simp only [Bool.not_eq_true'] at h1; simp [goN, h1]
  rw [e]
  exact ⟨_, _, Weak.mk (by simp (disch := omega) only [go_sem, seval]), rfl, rfl⟩
 ·simp only [Bool.not_eq_false'] at h1
  refine (pPlace_c n t hn.1).use ?_
  simp (disch := omega) only [go_sem, seval]
  refine acond_b (fun h2 => ?_) (fun h2 => ?_) <;> (try simp only [decide_eq_true_eq, decide_eq_false_iff_not] at h2) <;> simp (disch := omega) only [Sh.out h2, go_sem, seval]
  ·have e : goN n pr f t τ = (0, 0, 11) := by simp only [Bool.not_eq_true'] at h2; simp [goN, h2]
   rw [e]
   exact ⟨_, _, Weak.mk (by simp (disch := omega) only [go_sem, seval]), rfl, rfl⟩
  ·simp only [Bool.not_eq_false'] at h2
   refine acond_b (fun h3 => ?_) (fun h3 => ?_) <;> (try simp only [decide_eq_true_eq, decide_eq_false_iff_not] at h3) <;> simp (disch := omega) only [Sh.out h3, go_sem, seval]
   ·have e : goN n pr f t τ = (τ, 0, 0) := by simp [goN, h1, h2, h3]
    rw [e]
    exact ⟨_, _, Weak.mk (by simp (disch := omega) only [go_sem, seval]), rfl, rfl⟩
   ·have cf := pFind_c n pr f t hn.2.1
    have hm := @findA_mem n pr f t
    have e0 : goN n pr f t τ = if (findA n pr f t).2 = true then (arrA (findA n pr f t).1 τ, (findA n pr f t).1.miles, 0) else (0, 0, 12) := by simp [goN, h1, h2, h3]
    rw [e0]
    generalize findA n pr f t = A at cf hm ⊢
    obtain ⟨a, b⟩ := A
    simp only at cf hm ⊢
    refine useT' cf ?_
    simp (disch := omega) only [go_sem, seval]
    refine acond_b (fun h4 => ?_) (fun h4 => ?_) <;> (try simp only [decide_eq_true_eq, decide_eq_false_iff_not] at h4) <;> simp (disch := omega) only [Sh.out h4, go_sem, seval]
    ·have hb : b = false := by simpa using h4
     subst hb
     exact ⟨_, _, Weak.mk (by simp (disch := omega) only [go_sem, seval]), rfl, rfl⟩
    ·have hb : b = true := by simpa using h4
     subst hb
     refine awp_drawnA mixed (by kernel_rfl) (by kernel_rfl) ?_
     simp (disch := omega) only [go_sem, seval]
     refine exq_call (pArrA_c a τ (hn.2.2 a (hm rfl)) hτ) ?_
     simp (disch := omega) only [go_sem, seval]
     exact ⟨_, _, Weak.mk (by simp (disch := omega) only [go_sem, seval]), rfl, rfl⟩
end Go.Proofs.YtcdoglogglbemaaGreatDoor.K
set_option linter.unusedVariables false
set_option linter.unusedSimpArgs false
namespace Go.Proofs.YtcdoglogglbemaaGreatDoor.K
open Go Go.AM Go.Proofs
structure Lab where
 ready : Int
 since : Int
 she : She
 deriving Inhabited
def zShe : She := ⟨false, 0, true, [], 0, 0⟩
def zLab : Lab := ⟨0, 0, zShe⟩
def depF (t : Typ) (L : Lab) (b : Bool) : Int := if b = true then L.ready + t.rest else L.ready
def sncF (L : Lab) (b : Bool) : Int := if b = true then 0 else L.since
def markT (l : List Tim) (k : Nat) (d : Int) (b : Bool) : List Tim := l.set k { nth l k with dep := d, rest := b }
def markF (k : Nat) (d : Int) (b : Bool) (s : She) : She := if k = 0 then { s with rest := b, dep := d } else { s with times := markT s.times (k - 1) d b }
def plcF (t : Typ) (sp : List Stp) (k : Nat) : Int := if k = 0 then t.src else (nth sp (k - 1)).place
def toF (t : Typ) (sp : List Stp) (k : Nat) : Int := if k = sp.length then t.dst else (nth sp k).place
def goL (x : Inst) (t : Typ) (sp : List Stp) (k : Nat) (d : Int) : Int × Int × Int := goN x.net t.prof (plcF t sp k) (toF t sp k) d
def arrF (t : Typ) (sp : List Stp) (k : Nat) (g : Int × Int × Int) (d s : Int) (h : She) : Lab × Int :=
 if ¬ g.2.2 = 0 then (zLab, 12)
 else if k = sp.length then
  if t.cls < g.1 then (zLab, 15) else if t.drive < s + g.1 - d then (zLab, 16)
  else (⟨g.1, s + g.1 - d, { h with fin := g.1, miles := h.miles + g.2.1 }⟩, 0)
 else if (nth sp k).cls < max g.1 (nth sp k).opn then (zLab, 14)
 else if t.drive < s + g.1 - d then (zLab, 16)
 else (⟨max g.1 (nth sp k).opn + (nth sp k).serv, s + g.1 - d, { h with times_c := false, times := h.times ++ [⟨g.1, max g.1 (nth sp k).opn, 0, false⟩], miles := h.miles + g.2.1 }⟩, 0)
def nxtF (x : Inst) (t : Typ) (sp : List Stp) (k : Nat) (L : Lab) (b : Bool) : Lab × Int :=
 arrF t sp k (goL x t sp k (depF t L b)) (depF t L b) (sncF L b) (markF k (depF t L b) b L.she)
def nxtO (x : Inst) (t : Typ) (sp : List Stp) (k : Nat) (L : Lab) (b : Bool) : Option Lab := if (nxtF x t sp k L b).2 = 0 then some (nxtF x t sp k L b).1 else none
def runF (x : Inst) (t : Typ) (sp : List Stp) : Nat → Lab → List Bool → Lab × Int
 | _, L, [] => (L, 0)
 | k, L, b :: bs => if (nxtF x t sp k L b).2 = 0 then runF x t sp (k + 1) (nxtF x t sp k L b).1 bs else (zLab, (nxtF x t sp k L b).2)
def labF (t : Typ) (st : Int) : Lab := ⟨max t.opn st, 0, zShe⟩
theorem runF_opt {x : Inst} {t : Typ} {sp : List Stp} : ∀ (bs : List Bool) (k : Nat) (L : Lab), runO (nxtO x t sp) k L bs = if (runF x t sp k L bs).2 = 0 then some (runF x t sp k L bs).1 else none
 | [], k, L => by simp [runO, runF]
 | b :: bs, k, L => by
  rw [runO, runF, nxtO]
  by_cases h : (nxtF x t sp k L b).2 = 0
  ·simp only [h, if_true]
   exact runF_opt bs (k + 1) _
  ·simp [h]
structure TrpOk (x : Inst) (t : Typ) (sp : List Stp) : Prop where
 net : netR x.net
 mil : ∀ a ∈ x.net.arcs, 0 ≤ a.miles ∧ a.miles ≤ 10000
 opn : 0 ≤ t.opn ∧ t.opn ≤ t.cls ∧ t.cls ≤ 4096
 drv : 1 ≤ t.drive ∧ t.drive ≤ 4096
 rst : 0 ≤ t.rest ∧ t.rest ≤ 4096
 stp : ∀ s ∈ sp, 0 ≤ s.opn ∧ s.opn ≤ s.cls ∧ s.cls ≤ 4096 ∧ 0 ≤ s.serv ∧ s.serv ≤ 4096
 len : sp.length ≤ 20
structure LabR (k : Nat) (L : Lab) : Prop where
 rdy : 0 ≤ L.ready ∧ L.ready ≤ 8192
 snc : -(12288 * (k : Int)) ≤ L.since ∧ L.since ≤ 4096
 mil : 0 ≤ L.she.miles ∧ L.she.miles ≤ 10000 * (k : Int)
theorem goN_rng {n : Net} {pr f t τ : Int} (hn : netR n) (hm : ∀ a ∈ n.arcs, 0 ≤ a.miles ∧ a.miles ≤ 10000) (hτ : 0 ≤ τ ∧ τ ≤ 1073741824) : (0 ≤ (goN n pr f t τ).1 ∧ (goN n pr f t τ).1 ≤ 1107369984) ∧ (0 ≤ (goN n pr f t τ).2.1 ∧ (goN n pr f t τ).2.1 ≤ 10000) := by
 unfold goN
 split
 ·simp
 ·split
  ·simp only; omega
  ·split
   ·rename_i h
    have hA := findA_mem h
    have h1 := arrT_rng (hn.2.2 _ hA).1 hτ
    have h2 := slowS_rng (t := τ) (fun p hp => ((hn.2.2 _ hA).2.2 p hp).2.2) _ (Nat.le_refl _)
    have h3 := (hn.2.2 _ hA).2.1
    have h4 := hm _ hA
    simp only [arrA]
    omega
   ·simp
theorem depF_rng {x t sp k L} (h : TrpOk x t sp) (hl : LabR k L) (b : Bool) : 0 ≤ depF t L b ∧ depF t L b ≤ 12288 := by
 have := h.rst
 have := hl.rdy
 unfold depF
 split <;> omega
theorem sncF_rng {k L} (hl : LabR k L) (b : Bool) : -(12288 * (k : Int)) ≤ sncF L b ∧ sncF L b ≤ 4096 := by
 have := hl.snc
 unfold sncF
 split <;> omega
theorem goL_rng {x t sp k L} (h : TrpOk x t sp) (hl : LabR k L) (b : Bool) : (0 ≤ (goL x t sp k (depF t L b)).1 ∧ (goL x t sp k (depF t L b)).1 ≤ 1107369984) ∧ (0 ≤ (goL x t sp k (depF t L b)).2.1 ∧ (goL x t sp k (depF t L b)).2.1 ≤ 10000) := by
 have := depF_rng h hl b
 exact goN_rng h.net h.mil (by omega)
theorem markF_miles {k d b s} : (markF k d b s).miles = s.miles := by unfold markF; split <;> rfl
theorem markF_fin {k d b s} : (markF k d b s).fin = s.fin := by unfold markF; split <;> rfl
theorem markF_len {k d b s} : (markF k d b s).times.length = s.times.length := by unfold markF; split <;> simp [markT]
theorem nxtF_ok {x t sp k L b} (h : TrpOk x t sp) (hk : k ≤ sp.length) (hl : LabR k L) (he : (nxtF x t sp k L b).2 = 0) : LabR (k + 1) (nxtF x t sp k L b).1 := by
 have h1 := depF_rng h hl b
 have h2 := sncF_rng hl b
 obtain ⟨h3, h4⟩ := goL_rng h hl b
 have h5 := hl.mil
 have h6 := h.opn
 have h7 := h.drv
 have hm : (markF k (depF t L b) b L.she).miles = L.she.miles := markF_miles
 unfold nxtF at he ⊢
 generalize goL x t sp k (depF t L b) = g at *
 generalize depF t L b = d at *
 generalize sncF L b = s at *
 generalize markF k d b L.she = m at *
 unfold arrF at he ⊢
 split at he
 ·simp at he
 ·rename_i c1
  rw [if_neg c1]
  split at he
  ·rename_i c2
   rw [if_pos c2]
   split at he
   ·simp at he
   ·rename_i c3
    rw [if_neg c3]
    split at he
    ·simp at he
    ·rename_i c4
     rw [if_neg c4]
     exact ⟨by simp only; omega, by simp only; omega, by simp only; omega⟩
  ·rename_i c2
   rw [if_neg c2]
   have h8 := h.stp _ (nth_in (show k < sp.length by omega))
   split at he
   ·simp at he
   ·rename_i c3
    rw [if_neg c3]
    split at he
    ·simp at he
    ·rename_i c4
     rw [if_neg c4]
     exact ⟨by simp only; omega, by simp only; omega, by simp only; omega⟩
theorem nxtF_times {x t sp k L b} (hl : L.she.times.length = k) (he : (nxtF x t sp k L b).2 = 0) (hk : k < sp.length) : (nxtF x t sp k L b).1.she.times.length = k + 1 := by
 have hm : (markF k (depF t L b) b L.she).times.length = L.she.times.length := markF_len
 unfold nxtF at he ⊢
 generalize goL x t sp k (depF t L b) = g at *
 generalize depF t L b = d at *
 generalize sncF L b = s at *
 generalize markF k d b L.she = m at *
 have hk2 : ¬ k = sp.length := by omega
 unfold arrF at he ⊢
 simp only [if_neg hk2] at he ⊢
 split at he
 ·simp at he
 ·rename_i c1
  rw [if_neg c1]
  split at he
  ·simp at he
  ·rename_i c3
   rw [if_neg c3]
   split at he
   ·simp at he
   ·rename_i c4
    rw [if_neg c4]
    simp [hm, hl]
def beatsF (m x : Lab) : Bool := decide (m.ready = x.ready) && decide (m.since ≤ x.since)
theorem beats_next {x t sp k} {m y z : Lab} {b : Bool} (hb : beatsF m y = true) (hn : nxtO x t sp k y b = some z) : ∃ u, nxtO x t sp k m b = some u ∧ beatsF u z = true := by
 simp only [beatsF, Bool.and_eq_true, decide_eq_true_eq] at hb
 obtain ⟨hb1, hb2⟩ := hb
 have hd : depF t m b = depF t y b := by simp [depF, hb1]
 have hs : sncF m b ≤ sncF y b := by unfold sncF; split <;> omega
 unfold nxtO at hn ⊢
 unfold nxtF at hn ⊢
 rw [hd]
 generalize goL x t sp k (depF t y b) = g at *
 generalize depF t y b = d at *
 generalize sncF y b = s at *
 generalize sncF m b = s2 at *
 generalize markF k d b y.she = h1 at *
 generalize markF k d b m.she = h2 at *
 unfold arrF at hn ⊢
 by_cases c1 : g.2.2 = 0
 ·by_cases c2 : k = sp.length
  ·simp only [c1, c2, not_true, if_true, if_false] at hn ⊢
   by_cases c3 : t.cls < g.1
   ·simp [c3] at hn
   ·by_cases c4 : t.drive < s + g.1 - d
    ·simp [c3, c4] at hn
    ·have c5 : ¬ t.drive < s2 + g.1 - d := by omega
     simp only [c3, c4, if_false, if_true, Option.some.injEq] at hn
     subst hn
     refine ⟨_, by simp only [c3, c5, if_false, if_true]; rfl, ?_⟩
     simp [beatsF]; omega
  ·simp only [c1, c2, not_true, if_true, if_false] at hn ⊢
   by_cases c3 : (nth sp k).cls < max g.1 (nth sp k).opn
   ·simp [c3] at hn
   ·by_cases c4 : t.drive < s + g.1 - d
    ·simp [c3, c4] at hn
    ·have c5 : ¬ t.drive < s2 + g.1 - d := by omega
     simp only [c3, c4, if_false, if_true, Option.some.injEq] at hn
     subst hn
     refine ⟨_, by simp only [c3, c5, if_false, if_true]; rfl, ?_⟩
     simp [beatsF]; omega
 ·simp [c1] at hn
def finF (L : Lab) : Int := L.she.fin
theorem nxtO_fin {x t sp} {y z : Lab} {b : Bool} (hn : nxtO x t sp sp.length y b = some z) : z.she.fin = z.ready := by
 unfold nxtO nxtF arrF at hn
 by_cases c1 : (goL x t sp sp.length (depF t y b)).2.2 = 0
 ·by_cases c3 : t.cls < (goL x t sp sp.length (depF t y b)).1
  ·simp [c1, c3] at hn
  ·by_cases c4 : t.drive < sncF y b + (goL x t sp sp.length (depF t y b)).1 - depF t y b
   ·simp [c1, c3, c4] at hn
   ·simp only [c1, c3, c4, not_true, if_true, if_false, Option.some.injEq] at hn
    subst hn; rfl
 ·simp [c1] at hn
theorem labels_fm {x t sp} (ch : Nat → List Bool) (L : Lab) : fmL finF none (iterL beatsF (nxtO x t sp) ch (sp.length + 1) 0 [L]) = fmL finF none (reachL (nxtO x t sp) ch (sp.length + 1) 0 L) := by
 have h := iter_fm finF beatsF (nxtO x t sp) ch (n := sp.length + 1) (Inv := fun k y => k = sp.length + 1 → y.she.fin = y.ready)
  (fun k y b z _ hn hk => by
   have : k = sp.length := by omega
   subst this
   exact nxtO_fin hn) (fun k m y b z _ _ hb hn => beats_next hb hn)
  (fun m y h1 h2 hb => by
   simp only [beatsF, Bool.and_eq_true, decide_eq_true_eq] at hb
   rw [finF, finF, h1 rfl, h2 rfl]; omega) (sp.length + 1) 0 [L] (by omega) (fun y _ hk => by omega)
 rw [h]; simp
end Go.Proofs.YtcdoglogglbemaaGreatDoor.K
set_option linter.unusedVariables false
set_option linter.unusedSimpArgs false
namespace Go.Proofs.YtcdoglogglbemaaGreatDoor.K
open Go Go.AM Go.Proofs
def chF (r : List Bool) (k : Nat) : List Bool := match r[k]? with | some b => [b] | none => [false, true]
theorem ext_chF (r : List Bool) (n : Nat) (hn : r.length ≤ n) : ∀ (j k : Nat), k + j = r.length → extL (chF r) (n - k) k = (fromB (List.replicate (n - r.length) false)).map (r.drop k ++ ·)
 | 0, k, h => by
  have hk : k = r.length := by omega
  subst hk
  rw [ext_free (n := n) _ _ _ (fun q hq => by simp [chF, List.getElem?_eq_none hq])]
  simp
 | j + 1, k, h => by
  have e : n - k = (n - (k + 1)) + 1 := by omega
  have hlt : k < r.length := by omega
  rw [e, extL, ext_chF r n hn j (k + 1) (by omega)]
  have : chF r k = [r[k]] := by simp [chF, hlt]
  rw [this, List.flatMap_cons, List.flatMap_nil, List.append_nil, List.map_map, List.drop_eq_getElem_cons hlt]
  rfl
theorem ext_rests (r : List Bool) (n : Nat) (hn : r.length ≤ n) : extL (chF r) n 0 = (fromB (List.replicate (n - r.length) false)).map (r ++ ·) := by
 have := ext_chF r n hn r.length 0 (by omega)
 simpa using this
def restsR (r : List Bool) (n : Nat) : List (List Bool) := (fromB (List.replicate (n - r.length) false)).map (r ++ ·)
def padR (r : List Bool) (n : Nat) : List Bool := r ++ List.replicate (n - r.length) false
def bestF (x : Inst) (t : Typ) (sp : List Stp) (st : Int) (r : List Bool) : She × Int :=
 match fmL finF none ((restsR r (sp.length + 1)).filterMap (runO (nxtO x t sp) 0 (labF t st))) with
 | some L => (L.she, 0)
 | none => (zShe, (runF x t sp 0 (labF t st) (padR r (sp.length + 1))).2)
theorem bestF_labels {x t sp} {st : Int} {r : List Bool} (hr : r.length ≤ sp.length + 1) : bestF x t sp st r = match fmL finF none (iterL beatsF (nxtO x t sp) (chF r) (sp.length + 1) 0 [labF t st]) with
 | some L => (L.she, 0)
 | none => (zShe, (runF x t sp 0 (labF t st) (padR r (sp.length + 1))).2) := by
 rw [labels_fm, reachL, ext_rests r _ hr]; rfl
theorem runF_len {x t sp} : ∀ (bs : List Bool) (k : Nat) (L : Lab), L.she.times.length = k → k + bs.length = sp.length + 1 → 0 < bs.length → (runF x t sp k L bs).2 = 0 → (runF x t sp k L bs).1.she.times.length = sp.length
 | [], k, L, h1, h2, h3, h => by simp at h3
 | b :: bs, k, L, h1, h2, _, h => by
  rw [runF] at h ⊢
  by_cases h4 : (nxtF x t sp k L b).2 = 0
  ·simp only [h4, if_true] at h ⊢
   cases bs with
   | nil =>
    simp at h2
    subst h2
    rw [runF]
    unfold nxtF at h4 ⊢
    unfold arrF at h4 ⊢
    split at h4
    ·simp at h4
    ·rename_i c1
     rw [if_neg c1]
     simp only [if_true] at h4 ⊢
     split at h4
     ·simp at h4
     ·rename_i c2
      rw [if_neg c2]
      split at h4
      ·simp at h4
      ·rename_i c3
       rw [if_neg c3]
       simp [markF_len, h1]
   | cons b2 bs =>
    simp at h2
    exact runF_len (b2 :: bs) (k + 1) _ (nxtF_times h1 h4 (by omega)) (by simp; omega) (by simp) h
  ·simp [h4] at h
theorem bestF_len {x t sp} {st : Int} {r : List Bool} (hr : r.length ≤ sp.length + 1) (h : (bestF x t sp st r).2 = 0) : (bestF x t sp st r).1.times.length = sp.length := by
 unfold bestF at h ⊢
 cases hf : fmL finF none ((restsR r (sp.length + 1)).filterMap (runO (nxtO x t sp) 0 (labF t st))) with
 | none =>
  rw [hf] at h
  simp only at h ⊢
  exfalso
  have hm : padR r (sp.length + 1) ∈ restsR r (sp.length + 1) := by
   unfold restsR padR
   rw [fromB_next]
   simp
  have h2 : runO (nxtO x t sp) 0 (labF t st) (padR r (sp.length + 1)) = some (runF x t sp 0 (labF t st) (padR r (sp.length + 1))).1 := by rw [runF_opt, if_pos h]
  have h3 : (runF x t sp 0 (labF t st) (padR r (sp.length + 1))).1 ∈ (restsR r (sp.length + 1)).filterMap (runO (nxtO x t sp) 0 (labF t st)) := List.mem_filterMap.2 ⟨_, hm, h2⟩
  generalize (restsR r (sp.length + 1)).filterMap (runO (nxtO x t sp) 0 (labF t st)) = l at hf h3
  cases l with
  | nil => simp at h3
  | cons a l =>
   rw [fmL] at hf
   obtain ⟨z, e, _⟩ := fmL_some finF l a
   rw [e] at hf
   cases hf
 | some L =>
  simp only
  have hm := fmL_mem _ _ hf
  obtain ⟨bs, hbs, hrun⟩ := List.mem_filterMap.1 hm
  rw [runF_opt] at hrun
  split at hrun
  ·rename_i h5
   simp at hrun
   subst hrun
   obtain ⟨q, hq, rfl⟩ := List.mem_map.1 hbs
   have hql := fromB_len _ _ hq
   simp at hql
   exact runF_len _ 0 _ rfl (by simp [hql]; omega) (by simp [hql]; omega) h5
  ·cases hrun
where
 fmL_mem : ∀ (l : List Lab) (L : Lab), fmL finF none l = some L → L ∈ l
 | [], L, h => by simp [fmL] at h
 | a :: l, L, h => by
  rw [fmL] at h
  exact fmL_mem2 l a L h
 fmL_mem2 : ∀ (l : List Lab) (a L : Lab), fmL finF (some a) l = some L → L ∈ a :: l
 | [], a, L, h => by simp [fmL] at h; subst h; simp
 | y :: l, a, L, h => by
  rw [fmL] at h
  split at h
  ·have := fmL_mem2 l y L h; simp only [List.mem_cons] at this ⊢; rcases this with h | h <;> simp [h]
  ·have := fmL_mem2 l a L h; simp only [List.mem_cons] at this ⊢; rcases this with h | h <;> simp [h]
 fromB_len : ∀ (l q : List Bool), q ∈ fromB l → q.length = l.length
 | [], q, h => by simp [fromB] at h; subst h; rfl
 | b :: bs, q, h => by
  rw [fromB] at h
  split at h
  ·obtain ⟨q', hq, rfl⟩ := List.mem_map.1 h
   simp [fromB_len bs q' hq]
  ·rcases List.mem_append.1 h with h | h
   ·obtain ⟨q', hq, rfl⟩ := List.mem_map.1 h
    simp [fromB_len bs q' hq]
   ·obtain ⟨q', hq, rfl⟩ := List.mem_map.1 h
    simp [fromB_len (List.replicate bs.length false) q' hq]
 termination_by l => l.length
 decreasing_by all_goals simp
end Go.Proofs.YtcdoglogglbemaaGreatDoor.K
set_option linter.unusedVariables false
set_option linter.unusedSimpArgs false
namespace Go.Proofs.YtcdoglogglbemaaGreatDoor.K
open Go Go.AM Go.Proofs
def stopV (x : Inst) (v : Vis) : Stp := if v.drp = true then (nth x.orders v.order.toNat).drp else (nth x.orders v.order.toNat).pick
def stopsF (x : Inst) (l : List Vis) : List Stp := l.map (stopV x)
def ableB (t : Typ) (s : Int) : Bool := decide (0 ≤ t.skills) && decide (0 ≤ s) && (List.range 63).all fun i => !s.toNat.testBit i || t.skills.toNat.testBit i
def fitsB (a c : List Int) : Bool := decide (a.length = c.length) && (List.range a.length).all fun i => decide (nth a i ≤ nth c i)
def loadB (x : Inst) (c : List Int) (l : List Vis) : Bool := (List.range (l.length + 1)).all fun n => fitsB (aftF x l n) c
def typR (x : Inst) (r : Rte) : Typ := nth x.types r.typ.toNat
def firstB (l : List Vis) (i : Nat) : Bool := !((l.take i).any fun v => decide (v.order = (nth l i).order))
def foreign (k t : Int) : Bool := decide (k ≠ -1) && decide (k ≠ t)
def chgF (x : Inst) (l : List Vis) (t : Int) : Nat → Int × Int
 | 0 => (0, 0)
 | n + 1 => if firstB l n = true then ((chgF x l t n).1 + (if foreign (nth x.orders (nth l n).order.toNat).now t = true then 1 else 0), (chgF x l t n).2 + (if foreign (nth x.orders (nth l n).order.toNat).last t = true then 1 else 0)) else chgF x l t n
def scoF (x : Inst) (r : Rte) (s : She) : Sco :=
 ⟨(typR x r).fixed + (typR x r).perMile * s.miles + (typR x r).perTick * (s.fin - (typR x r).opn), (chgF x r.visits r.typ r.visits.length).1, (chgF x r.visits r.typ r.visits.length).2, (s.fin - (typR x r).opn).tdiv 64 * (s.fin - (typR x r).opn).tdiv 64⟩
def ruleE (x : Inst) (r : Rte) : Int :=
 if ¬ (0 ≤ r.typ ∧ r.typ < (x.types.length : Int)) then 2
 else if ¬ seqChk x r.visits = 0 then seqChk x r.visits
 else if (r.visits.any fun v => !ableB (typR x r) (nth x.orders v.order.toNat).skills) = true then 18
 else if loadB x (typR x r).cap r.visits = false then 17
 else if ¬ (0 ≤ r.start ∧ r.start ≤ 4096 ∧ r.rests.length ≤ r.visits.length + 1) then 2
 else 0
def bestR (x : Inst) (r : Rte) : She × Int := bestF x (typR x r) (stopsF x r.visits) r.start r.rests
def evalE (x : Inst) (r : Rte) : Int := if ruleE x r = 0 then (bestR x r).2 else ruleE x r
def evalS (x : Inst) (r : Rte) : She := if evalE x r = 0 then (bestR x r).1 else zShe
def evalP (x : Inst) (r : Rte) : Sco := if evalE x r = 0 then scoF x r (bestR x r).1 else zSco
end Go.Proofs.YtcdoglogglbemaaGreatDoor.K
set_option linter.unusedVariables false
set_option linter.unusedSimpArgs false
namespace Go.Proofs.YtcdoglogglbemaaGreatDoor.K
open Go Go.AM Go.Proofs
set_option maxRecDepth 8000
set_option maxHeartbeats 8000000
def inB (x : Inst) (v : Vis) : Bool := decide (0 ≤ v.order) && decide (v.order < (x.orders.length : Int))
def visB (x : Inst) (v : Vis) : Bool := inB x v && decide (0 ≤ (stopV x v).place)
end Go.Proofs.YtcdoglogglbemaaGreatDoor.K
set_option linter.unusedVariables false
set_option linter.unusedSimpArgs false
namespace Go.Proofs.YtcdoglogglbemaaGreatDoor.K
open Go Go.AM Go.Proofs
set_option maxRecDepth 8000
set_option maxHeartbeats 8000000
@[go_sem high] theorem amax_mx {k k' : IntKind} {a b : Int} : amax false [.p (.int k a), .p (.int k' b)] = some (.int k (max a b)) := by
 simp only [amax]
 by_cases h : a < b
 ·simp [h]; omega
 ·simp [h]; omega
theorem stopsF_len {x : Inst} {l : List Vis} : (stopsF x l).length = l.length := by simp [stopsF]
theorem stopsF_nth {x : Inst} {l : List Vis} {k : Nat} (h : k < l.length) : nth (stopsF x l) k = stopV x (nth l k) := by
 rw [nth_get (by simpa [stopsF] using h), nth_get h]; simp [stopsF]
end Go.Proofs.YtcdoglogglbemaaGreatDoor.K
set_option linter.unusedVariables false
set_option linter.unusedSimpArgs false
namespace Go.Proofs.YtcdoglogglbemaaGreatDoor.K
open Go Go.AM Go.Proofs
set_option maxRecDepth 8000
set_option maxHeartbeats 8000000
structure LdOk (x : Inst) : Prop where
 ord : x.orders.length ≤ 10
 typ : x.types.length ≤ 1048576
 dim : 1 ≤ dimsOf x.types ∧ dimsOf x.types ≤ 3
 load : ∀ o ∈ x.orders, (o.load.length : Int) = dimsOf x.types ∧ ∀ n ∈ o.load, 0 ≤ n ∧ n ≤ 1000
theorem ldOk_of {x : Inst} (h : InstOk x) : LdOk x := by
 have ht := h.types.1
 simp only [rng, decide_eq_true_eq] at ht
 have ho := h.orders
 have h0 : 0 < x.types.length := by omega
 have hcap := h.types.2 0 h0
 unfold typOk at hcap
 obtain ⟨⟨⟨⟨⟨⟨⟨⟨_, _⟩, _⟩, _⟩, hcap⟩, _⟩, _⟩, _⟩, _⟩ := hcap
 simp only [capOk, Bool.and_eq_true, decide_eq_true_eq, rng] at hcap
 refine ⟨ho.1, by omega, by omega, fun o hm => ?_⟩
 obtain ⟨i, hi, rfl⟩ := List.mem_iff_getElem.1 hm
 have := (ho.2 i hi).load
 rw [nth_get hi] at this
 simp only [loadOk, Bool.and_eq_true, decide_eq_true_eq, List.all_eq_true, rng] at this
 exact ⟨this.1, this.2⟩
def eIL (l : List Int) : PV := .list false (l.map eI)
@[go_sem] theorem eIL_eq (l : List Int) : eIL l = .list false (l.map eI) := Eq.trans rfl rfl
def lodsF (x : Inst) (l : List Vis) : List (List Int) := (List.range (l.length + 1)).map (aftF x l)
end Go.Proofs.YtcdoglogglbemaaGreatDoor.K
set_option linter.unusedVariables false
set_option linter.unusedSimpArgs false
namespace Go.Proofs.YtcdoglogglbemaaGreatDoor.K
open Go Go.AM Go.Proofs
set_option maxRecDepth 8000
set_option maxHeartbeats 8000000
def begF (s : Stp) (a : Int) : Int × Int := if max a s.opn > s.cls then (0, 14) else (max a s.opn, 0)
theorem begin_c (s : Stp) (a : Int) : ACalls Tryz.prog 324 [.p (eStp s), .p (.int .i64 a)] [] fun x H' => x = .tup [.p (.int .i64 (begF s a).1), .p (.int .i64 (begF s a).2)] ∧ H' = [] := by
 refine acalls_weak [] (fn := Tryz.f324) Tryz.func324 rfl isF324 ?_
 simp (disch := omega) only [Tryz.f324, go_sem, seval]
 refine acond_b (fun h => ?_) (fun h => ?_) <;> (try simp only [decide_eq_true_eq, decide_eq_false_iff_not] at h) <;> simp (disch := omega) only [Sh.out h, go_sem, seval]
 ·have e : begF s a = (0, 14) := by rw [begF, if_pos (by omega)]
  rw [e]
  exact ⟨_, _, Weak.mk (by simp (disch := omega) only [go_sem, seval]), rfl, rfl⟩
 ·have e : begF s a = (max a s.opn, 0) := by rw [begF, if_neg (by omega)]
  rw [e]
  exact ⟨_, _, Weak.mk (by simp (disch := omega) only [go_sem, seval]), rfl, rfl⟩
theorem pThere_c (l : List Ord) (c : Bool) (p : Int) (hl : l.length ≤ 1048576) : ACalls Tryz.prog 246 [.p (.list c (l.map eOrd)), .p (.int .i64 p)] [] fun x H' => x = .p (.bool (decide (0 ≤ p) && decide (p < (l.length : Int)))) ∧ H' = [] := by
 refine acalls_pure (fn := Tryz.f246) Tryz.func246 rfl isF246 ?_
 simp (disch := omega) only [Tryz.f246, go_sem, seval]
 refine aguard_t (fun h => ?_) (fun h => ?_) <;> (try simp only [decide_eq_true_eq, decide_eq_false_iff_not] at h) <;> simp (disch := omega) only [Sh.out h, go_sem, seval]
 all_goals simp [h]
theorem pStop_c (x : Inst) (v : Vis) (ho : x.orders.length ≤ 1048576) (hv : inB x v = true) (hp : 0 ≤ (stopV x v).place) : ACalls Tryz.prog 218 [.p (.list x.orders_c (x.orders.map eOrd)), .p (eVis v)] [] fun y H' => y = .tup [.p (eStp (stopV x v)), .p (.int .i64 0)] ∧ H' = [] := by
 refine acalls_weak [] (fn := Tryz.f218) Tryz.func218 rfl isF218 ?_
 simp (disch := omega) only [Tryz.f218, go_sem, seval]
 have hv' := hv
 rw [inB] at hv'
 have ct := pThere_c x.orders x.orders_c v.order ho
 rw [hv'] at ct
 refine ct.use ?_
 simp only [Bool.and_eq_true, decide_eq_true_eq] at hv'
 obtain ⟨h1, h2⟩ := hv'
 have hi : v.order.toNat < x.orders.length := by omega
 simp (disch := omega) only [go_sem, seval]
 refine acond_b (fun hd => ?_) (fun hd => ?_) <;> (try simp only [decide_eq_true_eq, decide_eq_false_iff_not] at hd) <;> simp (disch := omega) only [Sh.out hd, go_sem, seval]
 ·have e : stopV x v = (nth x.orders v.order.toNat).drp := by simp [stopV, hd]
  rw [e] at hp ⊢
  have e3 : ¬ (nth x.orders v.order.toNat).drp.place < 0 := by omega
  simp (disch := omega) only [e3, go_sem, seval]
  exact ⟨_, _, Weak.mk (by simp (disch := omega) only [go_sem, seval]), rfl, rfl⟩
 ·have e : stopV x v = (nth x.orders v.order.toNat).pick := by simp [stopV, hd]
  rw [e] at hp ⊢
  have e3 : ¬ (nth x.orders v.order.toNat).pick.place < 0 := by omega
  simp (disch := omega) only [e3, go_sem, seval]
  exact ⟨_, _, Weak.mk (by simp (disch := omega) only [go_sem, seval]), rfl, rfl⟩
theorem pDims_c (l : List Typ) (c : Bool) (ht : l.length ≤ 1048576) : ACalls Tryz.prog 304 [.p (.list c (l.map eTyp))] [] fun y H' => y = .p (.int .i64 (dimsOf l)) ∧ H' = [] := by
 refine acalls_pure (fn := Tryz.f304) Tryz.func304 rfl isF304 ?_
 simp (disch := omega) only [Tryz.f304, go_sem, seval]
 refine acond_b (fun h1 => ?_) (fun h1 => ?_) <;> (try simp only [decide_eq_true_eq, decide_eq_false_iff_not] at h1) <;> simp (disch := omega) only [Sh.out h1, go_sem, seval]
 ·have : l.length = 0 := by omega
  simp [dimsOf, this]
 ·have h2 : ¬ l.length = 0 := by omega
  simp only [dimsOf, h2, if_false]
theorem pFits_c (a b : List Int) (c d : Bool) (ha : a.length ≤ 1048576) (hb : b.length ≤ 1048576) : ACalls Tryz.prog 271 [.p (.list c (a.map eI)), .p (.list d (b.map eI))] [] fun x H' => x = .p (.bool (fitsB a b)) ∧ H' = [] := by
 refine acalls_pure (fn := Tryz.f271) Tryz.func271 rfl isF271 ?_
 simp (disch := omega) only [Tryz.f271, go_sem, seval]
 refine acond_b (fun h1 => ?_) (fun h1 => ?_) <;> (try simp only [decide_eq_true_eq, decide_eq_false_iff_not] at h1) <;> simp (disch := omega) only [Sh.out h1, go_sem, seval]
 ·have : ¬ a.length = b.length := by omega
  simp [fitsB, this]
 ·have h1' : a.length = b.length := by omega
  refine awp_for [1, 12, 13] (fun k : Nat => [(14, .p (.int .i64 k))]) (fun _ => []) (fun k => k ≤ a.length ∧ ∀ j, j < k → nth a j ≤ nth b j) (fun k => a.length - k) 0 (by simp) (Weak.mk ?_) ?_
  ·simp (disch := omega) only [go_sem, seval]
  ·rintro k ⟨hk, hno⟩
   simp (disch := omega) only [go_sem, seval]
   refine acond_b (fun h2 => ?_) (fun h2 => ?_) <;> (try simp only [decide_eq_true_eq, decide_eq_false_iff_not] at h2) <;> simp (disch := omega) only [Sh.out h2, go_sem, seval]
   ·have hk2 : k < a.length := by omega
    refine acond_b (fun h3 => ?_) (fun h3 => ?_) <;> (try simp only [decide_eq_true_eq, decide_eq_false_iff_not] at h3) <;> simp (disch := omega) only [Sh.out h3, go_sem, seval]
    ·have : fitsB a b = false := by
      cases hf : fitsB a b with
      | false => rfl
      | true => simp [fitsB, List.all_eq_true] at hf; have := hf.2 k hk2; omega
     rw [this]
    ·exact ⟨k + 1, ⟨by omega, upto_iff.2 ⟨hno, by omega⟩⟩, by omega, Weak.mk (by simp (disch := omega) only [go_sem, seval])⟩
   ·have hkl : k = a.length := by omega
    subst hkl
    have : fitsB a b = true := by
     simp only [fitsB, Bool.and_eq_true, decide_eq_true_eq, List.all_eq_true, List.mem_range]
     exact ⟨h1', fun i hi => hno i hi⟩
    rw [this]
end Go.Proofs.YtcdoglogglbemaaGreatDoor.K
set_option linter.unusedVariables false
set_option linter.unusedSimpArgs false
namespace Go.Proofs.YtcdoglogglbemaaGreatDoor.K
open Go Go.AM Go.Proofs
set_option maxRecDepth 8000
set_option maxHeartbeats 8000000
theorem andNot_zero {S M : Nat} (hS : S < 9223372036854775808) : (IntKind.i64.wrap ((BitVec.ofInt 64 (S : Int) &&& ~~~BitVec.ofInt 64 (M : Int)).toNat : Int) = 0) ↔ ((List.range 63).all fun i => !S.testBit i || M.testBit i) = true := by
 rw [BitVec.ofInt_natCast, BitVec.ofInt_natCast]
 have hz : (BitVec.ofNat 64 S &&& ~~~BitVec.ofNat 64 M).toNat ≤ S := by
  rw [BitVec.toNat_and]
  exact Nat.le_trans Nat.and_le_left (by simp [Nat.mod_le])
 have hw : IntKind.i64.wrap ((BitVec.ofNat 64 S &&& ~~~BitVec.ofNat 64 M).toNat : Int) = ((BitVec.ofNat 64 S &&& ~~~BitVec.ofNat 64 M).toNat : Int) := by rw [IntKind.wrap_i64]; omega
 rw [hw]
 constructor
 ·intro h
  have h0 : BitVec.ofNat 64 S &&& ~~~BitVec.ofNat 64 M = 0#64 := BitVec.eq_of_toNat_eq (by rw [BitVec.toNat_ofNat]; omega)
  rw [List.all_eq_true]
  intro i hi
  have hi := List.mem_range.1 hi
  have := congrArg (fun b => b.getLsbD i) h0
  simp only [BitVec.getLsbD_and, BitVec.getLsbD_not, BitVec.getLsbD_ofNat, show i < 64 by omega, decide_true, Bool.true_and, BitVec.getLsbD_zero] at this
  cases h1 : S.testBit i <;> cases h2 : M.testBit i <;> simp [h1, h2] at this ⊢
 ·intro h
  have h0 : BitVec.ofNat 64 S &&& ~~~BitVec.ofNat 64 M = 0#64 := by
   apply BitVec.eq_of_getLsbD_eq
   intro i hi
   simp only [BitVec.getLsbD_and, BitVec.getLsbD_not, BitVec.getLsbD_ofNat, hi, decide_true, Bool.true_and, BitVec.getLsbD_zero]
   by_cases g : i < 63
   ·have := List.all_eq_true.1 h i (List.mem_range.2 g)
    cases h1 : S.testBit i <;> cases h2 : M.testBit i <;> simp [h1, h2] at this ⊢
   ·have hi63 : i = 63 := by omega
    subst hi63
    rw [Nat.testBit_lt_two_pow (by simpa using hS)]; rfl
  rw [h0]; rfl
theorem pAble_c (t : Typ) (s : Int) (h1 : t.skills < 9223372036854775808) (h2 : s < 9223372036854775808) : ACalls Tryz.prog 267 [.p (eTyp t), .p (.int .i64 s)] [] fun x H' => x = .p (.bool (ableB t s)) ∧ H' = [] := by
 refine acalls_pure (fn := Tryz.f267) Tryz.func267 rfl isF267 ?_
 simp (disch := omega) only [Tryz.f267, go_sem, seval]
 refine aguard_t (fun c1 => ?_) (fun c1 => ?_) <;> (try simp only [decide_eq_true_eq, decide_eq_false_iff_not] at c1) <;> simp (disch := omega) only [Sh.out c1, go_sem, seval]
 ·refine aguard_t (fun c2 => ?_) (fun c2 => ?_) <;> (try simp only [decide_eq_true_eq, decide_eq_false_iff_not] at c2) <;> simp (disch := omega) only [Sh.out c2, go_sem, seval]
  ·obtain ⟨M, hM⟩ : ∃ M : Nat, t.skills = (M : Int) := ⟨t.skills.toNat, by omega⟩
   obtain ⟨S, rfl⟩ : ∃ S : Nat, s = (S : Int) := ⟨s.toNat, by omega⟩
   have hb := andNot_zero (S := S) (M := M) (by omega)
   have e : ableB t (S : Int) = (List.range 63).all fun i => !S.testBit i || M.testBit i := by
    have g1 : (0 : Int) ≤ (M : Int) := by omega
    have g2 : (0 : Int) ≤ (S : Int) := c2
    simp only [ableB, hM, g1, g2, decide_true, Bool.true_and, Int.toNat_natCast]
   have hd : decide (IntKind.i64.wrap ((BitVec.ofInt 64 (S : Int) &&& ~~~BitVec.ofInt 64 (M : Int)).toNat : Int) = 0) = ((List.range 63).all fun i => !S.testBit i || M.testBit i) := by
    rw [Bool.eq_iff_iff]
    simp only [decide_eq_true_eq]
    exact hb
   rw [e, hM]
   exact congrArg (fun b => V.p (PV.bool b)) hd
  ·have : ¬ 0 ≤ s := by omega
   simp [ableB, this]
 ·have : ¬ 0 ≤ t.skills := by omega
  simp [ableB, this]
theorem plus_c (a b : Int) (h : -1073741824 ≤ a ∧ a ≤ 1073741824 ∧ -1073741824 ≤ b ∧ b ≤ 1073741824) : ACalls Tryz.prog 329 [.p (.int .i64 a), .p (.int .i64 b)] [] fun x H' => x = .p (.int .i64 (a + b)) ∧ H' = [] := by
 refine acalls_pure (fn := Tryz.f329) Tryz.func329 rfl isF329 ?_
 simp (disch := omega) only [Tryz.f329, go_sem, seval]
theorem minus_c (a b : Int) (h : -1073741824 ≤ a ∧ a ≤ 1073741824 ∧ -1073741824 ≤ b ∧ b ≤ 1073741824) : ACalls Tryz.prog 330 [.p (.int .i64 a), .p (.int .i64 b)] [] fun x H' => x = .p (.int .i64 (a - b)) ∧ H' = [] := by
 refine acalls_pure (fn := Tryz.f330) Tryz.func330 rfl isF330 ?_
 simp (disch := omega) only [Tryz.f330, go_sem, seval]
def mkR (f : Nat → Int) (n k : Nat) : List Int := (List.range n).map fun j => if j < k then f j else 0
theorem mkR_len {f : Nat → Int} {n k : Nat} : (mkR f n k).length = n := by simp [mkR]
theorem mkR_zero {f : Nat → Int} {n : Nat} : mkR f n 0 = List.replicate n 0 := by
 apply List.ext_getElem (by simp [mkR]); intro i h1 h2; simp [mkR]
theorem mkR_full {f : Nat → Int} {n : Nat} : mkR f n n = (List.range n).map f := by
 apply List.ext_getElem (by simp [mkR]); intro i h1 h2
 simp [mkR] at h1 ⊢; omega
theorem mkR_set {f : Nat → Int} {n k : Nat} (h : k < n) : (mkR f n k).set k (f k) = mkR f n (k + 1) := by
 apply List.ext_getElem (by simp [mkR]); intro i h1 h2
 rw [List.getElem_set]
 simp [mkR] at h1 ⊢
 split
 ·rename_i e; subst e; simp
 ·rename_i e
  have : (i < k) ↔ (i < k + 1) := by omega
  simp only [this]
theorem combine_c (a b : List Int) (c d : Bool) (g : FuncId) (f : Int → Int → Int) (hl : a.length = b.length) (ha : a.length ≤ 1048576)
  (hf : ∀ j, j < a.length → ACalls Tryz.prog g [.p (.int .i64 (nth a j)), .p (.int .i64 (nth b j))] [] fun x H' => x = .p (.int .i64 (f (nth a j) (nth b j))) ∧ H' = []) :
  ACalls Tryz.prog 328 [.p (.list c (a.map eI)), .p (.list d (b.map eI)), .fn (.func g) [] []] [] fun x H' => x = .tup [.p (.list false (((List.range a.length).map fun j => f (nth a j) (nth b j)).map eI)), .p (.int .i64 0)] ∧ H' = [] := by
 refine acalls_weak [9] (fn := Tryz.f328) Tryz.func328 rfl isF328 ?_
 simp (disch := omega) only [Tryz.f328, go_sem, seval]
 refine acond_b (fun h0 => ?_) (fun h0 => ?_) <;> (try simp only [decide_eq_true_eq, decide_eq_false_iff_not] at h0) <;> simp (disch := omega) only [Sh.out h0, go_sem, seval]
 ·omega
 ·have hz := mkR_zero (f := fun j => f (nth a j) (nth b j)) (n := a.length)
  have hml := fun k => mkR_len (f := fun j => f (nth a j) (nth b j)) (n := a.length) (k := k)
  refine awp_forC [9] [0, 1, 2, 8, 19] (fun k : Nat => [(20, .p (.int .i64 k))]) (fun k => [.elems 1 ((mkR (fun j => f (nth a j) (nth b j)) a.length k).map eI)]) (fun k => k ≤ a.length) (fun k => a.length - k) 0 (by simp) (Weak.mk ?_) ?_
  ·simp (disch := omega) only [hz, go_sem, seval]
   rw [List.map_replicate]; rfl
  ·intro k hk
   simp (disch := omega) only [go_sem, seval]
   refine acond_b (fun h1 => ?_) (fun h1 => ?_) <;> (try simp only [decide_eq_true_eq, decide_eq_false_iff_not] at h1) <;> simp (disch := omega) only [Sh.out h1, go_sem, seval]
   ·have hk2 : k < a.length := by omega
    have hs := mkR_set (f := fun j => f (nth a j) (nth b j)) (n := a.length) hk2
    have hk3 := hml k
    refine awp_drawnS 12 mixed (by kernel_rfl) (by kernel_rfl) ?_
    simp (disch := omega) only [go_sem, seval]
    refine exq_call (hf k hk2) ?_
    simp (disch := omega) only [go_sem, seval]
    simp (disch := first | omega | (simp only [List.length_cons, List.length_nil, List.length_append, List.length_map, List.length_take, List.length_drop] <;> omega)) only [go_sem, seval]
    refine ⟨k + 1, by omega, by omega, Weak.mk ?_⟩
    simp (disch := omega) only [← hs, go_sem, seval]
    rw [List.map_set]; rfl
   ·have hkl : k = a.length := by omega
    subst hkl
    rw [← mkR_full]
    have hk3 := hml a.length
    refine awp_weak (Weak.fz (o := 0) (by rfl)) ?_
    refine awp_sound [] _ _ _ _ ?_
    simp (disch := omega) only [List.map_cons, List.map_nil, List.set_cons_succ, List.set_cons_zero, go_sem, seval]
    rw [if_pos hk3]
    exact ⟨_, _, Weak.mk (by simp (disch := omega) only [go_sem, seval]), rfl, rfl⟩
theorem pAdd_c (a b : List Int) (c d : Bool) (hl : a.length = b.length) (ha : a.length ≤ 1048576) (h : ∀ j, j < a.length → -1073741824 ≤ nth a j ∧ nth a j ≤ 1073741824 ∧ -1073741824 ≤ nth b j ∧ nth b j ≤ 1073741824) : ACalls Tryz.prog 305 [.p (.list c (a.map eI)), .p (.list d (b.map eI))] [] fun x H' => x = .tup [.p (.list false ((addF a b).map eI)), .p (.int .i64 0)] ∧ H' = [] := by
 refine acalls_weak [] (fn := Tryz.f305) Tryz.func305 rfl isF305 ?_
 simp (disch := omega) only [Tryz.f305, go_sem, seval]
 refine useT' (combine_c a b c d 329 (fun m n => m + n) hl ha fun j hj => plus_c _ _ (h j hj)) ?_
 simp (disch := omega) only [addF, go_sem, seval]
 exact ⟨_, _, Weak.mk (by simp (disch := omega) only [go_sem, seval]), rfl, rfl⟩
theorem pSub_c (a b : List Int) (c d : Bool) (hl : a.length = b.length) (ha : a.length ≤ 1048576) (h : ∀ j, j < a.length → -1073741824 ≤ nth a j ∧ nth a j ≤ 1073741824 ∧ -1073741824 ≤ nth b j ∧ nth b j ≤ 1073741824) : ACalls Tryz.prog 306 [.p (.list c (a.map eI)), .p (.list d (b.map eI))] [] fun x H' => x = .tup [.p (.list false ((subF a b).map eI)), .p (.int .i64 0)] ∧ H' = [] := by
 refine acalls_weak [] (fn := Tryz.f306) Tryz.func306 rfl isF306 ?_
 simp (disch := omega) only [Tryz.f306, go_sem, seval]
 refine useT' (combine_c a b c d 330 (fun m n => m - n) hl ha fun j hj => minus_c _ _ (h j hj)) ?_
 simp (disch := omega) only [subF, go_sem, seval]
 exact ⟨_, _, Weak.mk (by simp (disch := omega) only [go_sem, seval]), rfl, rfl⟩
end Go.Proofs.YtcdoglogglbemaaGreatDoor.K
set_option linter.unusedVariables false
set_option linter.unusedSimpArgs false
namespace Go.Proofs.YtcdoglogglbemaaGreatDoor.K
open Go Go.AM Go.Proofs
set_option maxRecDepth 8000
set_option maxHeartbeats 8000000
theorem pRAble_c (x : Inst) (r : Rte) (ht : 0 ≤ r.typ ∧ r.typ < (x.types.length : Int)) (hv : ∀ v ∈ r.visits, inB x v = true) (hl : r.visits.length ≤ 1048576) (hxl : x.types.length ≤ 1048576) (hol : x.orders.length ≤ 1048576)
  (hs : (typR x r).skills < 9223372036854775808) (ho : ∀ o ∈ x.orders, o.skills < 9223372036854775808) :
  ACalls Tryz.prog 195 [.p (eInst x), .p (eRte r)] [] fun y H' => y = .p (.int .i64 (if (r.visits.any fun v => !ableB (typR x r) (nth x.orders v.order.toNat).skills) = true then 18 else 0)) ∧ H' = [] := by
 refine acalls_pure (fn := Tryz.f195) Tryz.func195 rfl isF195 ?_
 simp (disch := omega) only [Tryz.f195, go_sem, seval]
 refine awp_for [2, 3, 8, 9] (fun k : Nat => [(10, .p (.int .i64 k))]) (fun _ => [instO x, .cells [.p (.int .i64 r.typ), .p (.int .i64 r.start), .p (.list r.rests_c (r.rests.map eB)), .p (.list r.visits_c (r.visits.map eVis))]]) (fun k => k ≤ r.visits.length ∧ ∀ j, j < k → ableB (typR x r) (nth x.orders (nth r.visits j).order.toNat).skills = true) (fun k => r.visits.length - k) 0 (by simp) (Weak.mk ?_) ?_
 ·simp (disch := omega) only [instO, go_sem, seval]
 ·rintro k ⟨hk, hno⟩
  simp (disch := omega) only [instO, go_sem, seval]
  refine acond_b (fun h1 => ?_) (fun h1 => ?_) <;> (try simp only [decide_eq_true_eq, decide_eq_false_iff_not] at h1) <;> simp (disch := omega) only [Sh.out h1, go_sem, seval]
  ·have hk2 : k < r.visits.length := by omega
   have hin := hv _ (nth_in hk2)
   simp only [inB, Bool.and_eq_true, decide_eq_true_eq] at hin
   obtain ⟨i1, i2⟩ := hin
   have hi : (nth r.visits k).order.toNat < x.orders.length := by omega
   have ho' := ho _ (nth_in hi)
   refine awp_drawnA mixed (by kernel_rfl) (by kernel_rfl) ?_
   simp (disch := omega) only [go_sem, seval]
   refine exq_call (pAble_c (typR x r) (nth x.orders (nth r.visits k).order.toNat).skills (by omega) (by omega)) ?_
   simp (disch := omega) only [go_sem, seval]
   refine acond_b (fun h2 => ?_) (fun h2 => ?_) <;> (try simp only [decide_eq_true_eq, decide_eq_false_iff_not] at h2) <;> simp (disch := omega) only [Sh.out h2, go_sem, seval]
   ·have : (r.visits.any fun v => !ableB (typR x r) (nth x.orders v.order.toNat).skills) = true := by
     rw [List.any_eq_true]; exact ⟨_, nth_in hk2, h2⟩
    rw [if_pos this]
   ·exact ⟨k + 1, ⟨by omega, upto_iff.2 ⟨hno, by simpa using h2⟩⟩, by omega, Weak.mk (by simp (disch := omega) only [instO, go_sem, seval])⟩
  ·have : ¬ (r.visits.any fun v => !ableB (typR x r) (nth x.orders v.order.toNat).skills) = true := by
    rw [List.any_eq_true]
    rintro ⟨v, hv, e⟩
    obtain ⟨j, hj, rfl⟩ := List.mem_iff_getElem.1 hv
    have := hno j (by omega)
    rw [nth_get hj] at this
    rw [this] at e; cases e
   rw [if_neg this]
end Go.Proofs.YtcdoglogglbemaaGreatDoor.K
set_option linter.unusedVariables false
set_option linter.unusedSimpArgs false
namespace Go.Proofs.YtcdoglogglbemaaGreatDoor.K
open Go Go.AM Go.Proofs
set_option maxRecDepth 8000
set_option maxHeartbeats 8000000
theorem orN {a b : Nat} (ha : a < 4611686018427387904) (hb : b < 4611686018427387904) : IntKind.i64.wrap ((BitVec.ofInt 64 (a : Int) ||| BitVec.ofInt 64 (b : Int)).toNat : Int) = ((a ||| b : Nat) : Int) := by
 have h : (a ||| b) < 2 ^ 62 := Nat.or_lt_two_pow (by simpa using ha) (by simpa using hb)
 rw [BitVec.ofInt_natCast, BitVec.ofInt_natCast, BitVec.toNat_or, BitVec.toNat_ofNat, BitVec.toNat_ofNat, Nat.mod_eq_of_lt (by omega), Nat.mod_eq_of_lt (by omega), IntKind.wrap_i64]
 omega
@[go_sem high] theorem abin_orN {P : Program} {t : TypeId} {a b : Nat} (ha : a < 4611686018427387904) (hb : b < 4611686018427387904) : abin P .or t (.p (.int .i64 (a : Int))) (.p (.int .i64 (b : Int))) = some (.int .i64 ((a ||| b : Nat) : Int)) := by
 rw [abin_or]; exact congrArg (fun z => some (PV.int .i64 z)) (orN ha hb)
end Go.Proofs.YtcdoglogglbemaaGreatDoor.K
set_option linter.unusedVariables false
set_option linter.unusedSimpArgs false
namespace Go.Proofs.YtcdoglogglbemaaGreatDoor.K
open Go Go.AM Go.Proofs
set_option maxRecDepth 8000
set_option maxHeartbeats 8000000
def stF (x : Inst) (d : Nat) (ms : List Int) (k : Nat) : List Int := (ms.take k).foldl (fun s i => if (nth x.orders i.toNat).pick.place < 0 then addF s (nth x.orders i.toNat).load else s) (List.replicate d 0)
theorem stF_succ {x : Inst} {d : Nat} {ms : List Int} {k : Nat} (h : k < ms.length) : stF x d ms (k + 1) = if (nth x.orders (nth ms k).toNat).pick.place < 0 then addF (stF x d ms k) (nth x.orders (nth ms k).toNat).load else stF x d ms k := by
 rw [stF, List.take_succ_eq_append_getElem h, List.foldl_append, nth_get h]; rfl
theorem stF_rng {x : Inst} {d : Nat} {ms : List Int} (hms : ∀ i ∈ ms, ∀ j, j < d → 0 ≤ nth (nth x.orders i.toNat).load j ∧ nth (nth x.orders i.toNat).load j ≤ 1000) : ∀ k, k ≤ ms.length → (stF x d ms k).length = d ∧ ∀ j, j < d → 0 ≤ nth (stF x d ms k) j ∧ nth (stF x d ms k) j ≤ 1000 * k
 | 0, _ => by
  refine ⟨by simp [stF], fun j hj => ?_⟩
  have : nth (stF x d ms 0) j = 0 := by
   show nth (List.replicate d 0) j = 0
   rw [nth_get (by simpa using hj)]; simp
  omega
 | k + 1, h => by
  obtain ⟨h1, h2⟩ := stF_rng hms k (by omega)
  rw [stF_succ (by omega)]
  split
  ·refine ⟨by simp [addF, h1], fun j hj => ?_⟩
   have a1 := h2 j hj
   have a2 := hms _ (nth_in (show k < ms.length by omega)) j hj
   rw [addF, nthI_map (by omega)]
   omega
  ·exact ⟨h1, fun j hj => by have := h2 j hj; omega⟩
theorem start_c (x : Inst) (S : Int) (d : Nat) (hd : d ≤ 3) (hol : x.orders.length ≤ 1048576) (hms : ∀ i ∈ memU S 63, 0 ≤ i ∧ i < (x.orders.length : Int)) (hml : (memU S 63).length ≤ 63)
  (hld : ∀ o ∈ x.orders, o.load.length = d ∧ ∀ n ∈ o.load, 0 ≤ n ∧ n ≤ 1000) :
  ACalls Tryz.prog 303 [.p (eInst x), .p (.int .i64 S), .p (.int .i64 (d : Int))] [] fun y H' => y = .p (.list false ((stF x d (memU S 63) (memU S 63).length).map eI)) ∧ H' = [] := by
 have hmo : ∀ i ∈ memU S 63, i.toNat < x.orders.length := fun i hi => by have := hms i hi; omega
 have hrg := stF_rng (x := x) (d := d) (ms := memU S 63) fun i hi j hj => by
  obtain ⟨l1, l2⟩ := hld _ (nth_in (hmo i hi))
  exact l2 _ (nth_in (by omega))
 refine acalls_pure (fn := Tryz.f303) Tryz.func303 rfl isF303 ?_
 simp (disch := omega) only [Tryz.f303, go_sem, seval]
 refine (members_c S).useF ?_
 simp (disch := omega) only [go_sem, seval]
 refine awp_weak ((Weak.fz (o := 1) (by rfl)).trans (Weak.fz (o := 2) (by rfl))) ?_
 simp (disch := omega) only [List.map_cons, List.map_nil, List.set_cons_succ, List.set_cons_zero, List.cons_append, List.nil_append, List.length_replicate, eq_self, if_true, go_sem, seval]
 have hz : List.replicate d (PV.int .i64 0) = (stF x d (memU S 63) 0).map eI := by
  show _ = (List.replicate d 0).map eI
  rw [List.map_replicate]; rfl
 refine awp_for [3, 13, 14] (fun k : Nat => [(7, .p (.list false ((stF x d (memU S 63) k).map eI))), (15, .p (.int .i64 k))]) (fun _ => [instO x, .dead, .dead]) (fun k => k ≤ (memU S 63).length) (fun k => (memU S 63).length - k) 0 (by simp) (Weak.mk ?_) ?_
 ·simp (disch := omega) only [instO, hz, go_sem, seval]
 ·intro k hk
  have hk1 := hrg k hk
  have hsn := fun h => stF_succ (x := x) (d := d) (ms := memU S 63) (k := k) h
  simp (disch := omega) only [instO, go_sem, seval]
  refine acond_b (fun h1 => ?_) (fun h1 => ?_) <;> (try simp only [decide_eq_true_eq, decide_eq_false_iff_not] at h1) <;> simp (disch := omega) only [Sh.out h1, go_sem, seval]
  ·have hk2 : k < (memU S 63).length := by omega
   have hm := hms _ (nth_in hk2)
   have hi := hmo _ (nth_in hk2)
   have hlo := hld _ (nth_in hi)
   have hsn := hsn hk2
   simp (disch := omega) only [go_sem, seval]
   refine acond_b (fun h2 => ?_) (fun h2 => ?_) <;> (try simp only [decide_eq_true_eq, decide_eq_false_iff_not] at h2) <;> simp (disch := omega) only [Sh.out h2, go_sem, seval]
   ·rw [if_pos h2] at hsn
    refine useT' (pAdd_c (stF x d (memU S 63) k) (nth x.orders (nth (memU S 63) k).toNat).load false (nth x.orders (nth (memU S 63) k).toNat).load_c (by omega) (by omega) fun j hj => ?_) ?_
    ·have b1 := hk1.2 j (by omega)
     have b2 := hlo.2 _ (nth_in (show j < (nth x.orders (nth (memU S 63) k).toNat).load.length by omega))
     omega
    ·simp (disch := omega) only [go_sem, seval]
     exact ⟨k + 1, by omega, by omega, Weak.mk (by simp (disch := omega) only [instO, hsn, go_sem, seval])⟩
   ·rw [if_neg h2] at hsn
    exact ⟨k + 1, by omega, by omega, Weak.mk (by simp (disch := omega) only [instO, hsn, go_sem, seval])⟩
  ·have hkl : k = (memU S 63).length := by omega
   subst hkl
   trivial
end Go.Proofs.YtcdoglogglbemaaGreatDoor.K
set_option linter.unusedVariables false
set_option linter.unusedSimpArgs false
namespace Go.Proofs.YtcdoglogglbemaaGreatDoor.K
open Go Go.AM Go.Proofs
theorem filter_cut {p : Nat → Bool} {n : Nat} (h : ∀ i, n ≤ i → p i = false) : ∀ k, n ≤ k → (List.range k).filter p = (List.range n).filter p := by
  intro k hk
  induction k with
  | zero => have : n = 0 := by omega
            subst this; rfl
  | succ k ih =>
    by_cases e : n = k + 1
    · subst e; rfl
    · rw [List.range_succ, List.filter_append, ih (by omega)]
      simp [h k (by omega)]
theorem memS {x : Inst} {l : List Vis} (hi : Inr x l) (hn : x.orders.length ≤ 10) : memU ((ordS l : Nat) : Int) 63 = ((List.range x.orders.length).filter fun (i : Nat) => hasO l (i : Int)).map fun (i : Nat) => (i : Int) := by
 have key : ∀ i : Nat, i ≤ 62 → sHas ((ordS l : Nat) : Int) (i : Int) = hasO l (i : Int) := fun i h => by
  rw [sHas_nat _ _ h, Bool.eq_iff_iff, ordS_bit, hasO_iff]
  constructor
  ·rintro ⟨v, hv, e⟩
   exact ⟨v, hv, by have := hi v hv; omega⟩
  ·rintro ⟨v, hv, e⟩
   exact ⟨v, hv, by omega⟩
 unfold memU
 rw [List.filter_congr (q := fun (i : Nat) => hasO l (i : Int)) (fun i hm => key i (by have := List.mem_range.1 hm; omega)), filter_cut (n := x.orders.length) (fun i h => ?_) 63 (by omega)]
 cases hh : hasO l (i : Int) with
 | false => rfl
 | true =>
  obtain ⟨v, hv, e⟩ := hasO_iff.1 hh
  have := hi v hv
  omega
theorem foldS {x : Inst} {d : Nat} : ∀ (L : List Nat) (g : Nat → Int), (L.map fun (i : Nat) => (i : Int)).foldl (fun s (i : Int) => if (nth x.orders i.toNat).pick.place < 0 then addF s (nth x.orders i.toNat).load else s) ((List.range d).map g) = (List.range d).map fun j => g j + (L.map fun i => if (nth x.orders i).pick.place < 0 then nth (nth x.orders i).load j else 0).sum
 | [], g => by simp
 | i :: L, g => by
  rw [List.map_cons, List.foldl_cons, Int.toNat_natCast]
  by_cases h : (nth x.orders i).pick.place < 0
  ·have e : addF ((List.range d).map g) (nth x.orders i).load = (List.range d).map fun j => g j + nth (nth x.orders i).load j := by
    rw [addF, List.length_map, List.length_range]
    exact List.map_congr_left fun j hj => by rw [nthI_map (List.mem_range.1 hj)]
   rw [if_pos h, e, foldS L]
   refine List.map_congr_left fun j _ => ?_
   rw [List.map_cons, List.sum_cons, if_pos h]; omega
  ·rw [if_neg h, foldS L]
   refine List.map_congr_left fun j _ => ?_
   rw [List.map_cons, List.sum_cons, if_neg h]; omega
theorem start_aft {x : Inst} {l : List Vis} (hi : Inr x l) (hn : x.orders.length ≤ 10) : stF x (dimsOf x.types).toNat (memU ((ordS l : Nat) : Int) 63) (memU ((ordS l : Nat) : Int) 63).length = aftF x l 0 := by
 rw [stF, List.take_length, memS hi hn]
 have := foldS (x := x) (d := (dimsOf x.types).toNat) ((List.range x.orders.length).filter fun (i : Nat) => hasO l (i : Int)) fun _ => 0
 have e : (List.range (dimsOf x.types).toNat).map (fun _ => (0 : Int)) = List.replicate (dimsOf x.types).toNat 0 := by
  rw [List.map_const', List.length_range]
 rw [e] at this
 rw [this, aftF]
 refine List.map_congr_left fun j _ => ?_
 rw [Int.zero_add, sum_filter, sumB]
 congr 1
 refine List.map_congr_left fun i _ => ?_
 rw [onB_zero]
 by_cases h : (nth x.orders i).pick.place < 0 <;> cases hasO l (i : Int) <;> simp [h]
theorem sumB_rng {x : Inst} {l : List Vis} {n j : Nat} {d : Nat} (hj : j < d) (hld : ∀ o ∈ x.orders, o.load.length = d ∧ ∀ n ∈ o.load, 0 ≤ n ∧ n ≤ 1000) (hn : x.orders.length ≤ 10) : 0 ≤ sumB x l n j ∧ sumB x l n j ≤ 10000 := by
 have key := sum_rng (f := fun i => if i < x.orders.length then (if (onB x l n i && hasO l i) = true then nth (nth x.orders i).load j else 0) else 0) (b := 1000) (by omega) (fun q => by
  split
  ·rename_i hq
   split
   ·obtain ⟨h1, h2⟩ := hld _ (nth_in hq)
    exact h2 _ (nth_in (by omega))
   ·omega
  ·omega) x.orders.length
 have e : sumB x l n j = ((List.range x.orders.length).map fun i => if i < x.orders.length then (if (onB x l n i && hasO l i) = true then nth (nth x.orders i).load j else 0) else 0).sum := by
  rw [sumB]
  congr 1
  exact List.map_congr_left fun i hi => by rw [if_pos (List.mem_range.1 hi)]
 rw [e]
 have : (1000 : Int) * x.orders.length ≤ 10000 := by omega
 omega
theorem aftF_rng {x : Inst} {l : List Vis} {n j : Nat} (hj : j < (dimsOf x.types).toNat) (hd : LdOk x) : 0 ≤ nth (aftF x l n) j ∧ nth (aftF x l n) j ≤ 10000 := by
 rw [aftF, nthI_map hj]
 exact sumB_rng hj (fun o ho => by obtain ⟨h1, h2⟩ := hd.load o ho; exact ⟨by omega, h2⟩) hd.ord
end Go.Proofs.YtcdoglogglbemaaGreatDoor.K
set_option linter.unusedVariables false
set_option linter.unusedSimpArgs false
namespace Go.Proofs.YtcdoglogglbemaaGreatDoor.K
open Go Go.AM Go.Proofs
set_option maxRecDepth 8000
set_option maxHeartbeats 8000000
def scoO (c m o w : Int) : AM.Obj := .cells [.p (.int .i64 c), .p (.int .i64 m), .p (.int .i64 o), .p (.int .i64 w)]
theorem chgF_rng {x : Inst} {l : List Vis} {t : Int} : ∀ n : Nat, (0 ≤ (chgF x l t n).1 ∧ (chgF x l t n).1 ≤ n) ∧ (0 ≤ (chgF x l t n).2 ∧ (chgF x l t n).2 ≤ n)
 | 0 => by simp [chgF]
 | n + 1 => by
  have ih := chgF_rng (x := x) (l := l) (t := t) n
  rw [chgF]
  split
  ·simp only
   constructor <;> split <;> omega
  ·omega
end Go.Proofs.YtcdoglogglbemaaGreatDoor.K
set_option linter.unusedVariables false
set_option linter.unusedSimpArgs false
namespace Go.Proofs.YtcdoglogglbemaaGreatDoor.K
open Go Go.AM Go.Proofs
set_option maxRecDepth 8000
set_option maxHeartbeats 8000000
theorem SqOk.len {x : Inst} {l : List Vis} (h : SqOk x l) (hn : x.orders.length ≤ 10) : l.length ≤ 20 := by
 have h1 := List.Nodup.length_le_of_subset (l₁ := l) (l₂ := (List.range 10).flatMap fun i : Nat => [(⟨(i : Int), false⟩ : Vis), ⟨(i : Int), true⟩]) h.nd (fun v hv => by
  obtain ⟨v1, v2⟩ := h.inr v hv
  rw [List.mem_flatMap]
  refine ⟨v.order.toNat, List.mem_range.2 (by omega), ?_⟩
  obtain ⟨o, d⟩ := v
  have e : ((o.toNat : Nat) : Int) = o := by simp only at v1; omega
  cases d <;> simp [e])
 have h2 : ((List.range 10).flatMap fun i : Nat => [(⟨(i : Int), false⟩ : Vis), ⟨(i : Int), true⟩]).length = 20 := rfl
 omega
theorem SqOk.vis {x : Inst} {l : List Vis} (h : SqOk x l) {v : Vis} (hv : v ∈ l) : visB x v = true := by
 obtain ⟨v1, v2⟩ := h.inr v hv
 obtain ⟨i, hi⟩ : ∃ i : Nat, v.order = (i : Int) := ⟨v.order.toNat, by omega⟩
 have ho := h.own (i := i) ⟨v, hv, hi⟩
 have hpl : 0 ≤ (stopV x v).place := by
  unfold stopV
  rw [hi, Int.toNat_natCast]
  cases hd : v.drp with
  | true => exact ho.isD (by rw [← hi, ← hd]; exact hv)
  | false => exact ho.isP (by rw [← hi, ← hd]; exact hv)
 simp [visB, inB, v1, v2, hpl]
theorem netR_of {n : Net} (h : netOk n) : netR n ∧ ∀ a ∈ n.arcs, 0 ≤ a.miles ∧ a.miles ≤ 10000 := by
 obtain ⟨⟨⟨h1, _⟩, h2⟩, h3⟩ := h
 have ha : ∀ a ∈ n.arcs, arcR a ∧ 0 ≤ a.miles ∧ a.miles ≤ 10000 := fun a hm => by
  obtain ⟨i, hi, rfl⟩ := List.mem_iff_getElem.1 hm
  have := h3 i hi
  unfold arcOk at this
  rw [nth_get hi] at this
  obtain ⟨⟨⟨⟨⟨_, g1⟩, _⟩, g2⟩, g3⟩, g4⟩ := this
  refine ⟨⟨g2, g3, fun p hp => ?_⟩, g1.2.2.1, g1.2.2.2.1⟩
  obtain ⟨j, hj, rfl⟩ := List.mem_iff_getElem.1 hp
  have := g4 j hj
  unfold slowOk at this
  rw [nth_get hj] at this
  simp only [tick, rng, decide_eq_true_eq] at this
  exact ⟨this.1.1, this.1.2, this.2.1.1, this.2.1.2⟩
 exact ⟨⟨by omega, by omega, fun a hm => (ha a hm).1⟩, fun a hm => (ha a hm).2⟩
theorem typ_nums {x : Inst} (hx : InstOk x) {i : Nat} (hi : i < x.types.length) : (0 ≤ (nth x.types i).opn ∧ (nth x.types i).opn ≤ (nth x.types i).cls ∧ (nth x.types i).cls ≤ 4096) ∧ (1 ≤ (nth x.types i).drive ∧ (nth x.types i).drive ≤ 4096) ∧ (0 ≤ (nth x.types i).rest ∧ (nth x.types i).rest ≤ 4096) ∧
  (0 ≤ (nth x.types i).fixed ∧ (nth x.types i).fixed ≤ 100000 ∧ 0 ≤ (nth x.types i).perMile ∧ (nth x.types i).perMile ≤ 100 ∧ 0 ≤ (nth x.types i).perTick ∧ (nth x.types i).perTick ≤ 100) ∧ (0 ≤ (nth x.types i).skills ∧ (nth x.types i).skills ≤ 1073741823) := by
 have ht := hx.types.2 i hi
 unfold typOk at ht
 obtain ⟨⟨⟨⟨⟨⟨⟨⟨_, _⟩, _⟩, _⟩, _⟩, h1⟩, h2⟩, h3⟩, h4⟩ := ht
 simp only [rng, decide_eq_true_eq] at h1 h2 h3 h4
 omega
theorem trpOk_of {x : Inst} {r : Rte} (hx : InstOk x) (ht : 0 ≤ r.typ ∧ r.typ < (x.types.length : Int)) (h : SqOk x r.visits) : TrpOk x (typR x r) (stopsF x r.visits) := by
 have hti : r.typ.toNat < x.types.length := by omega
 obtain ⟨t1, t2, t3, _⟩ := typ_nums hx hti
 obtain ⟨n1, n2⟩ := netR_of hx.net
 refine ⟨n1, n2, t1, t2, t3, fun s hs => ?_, by rw [stopsF_len]; exact h.len hx.orders.1⟩
 obtain ⟨v, hv, rfl⟩ := List.mem_map.1 hs
 obtain ⟨v1, v2⟩ := h.inr v hv
 have hi : v.order.toNat < x.orders.length := by omega
 have ho := hx.orders.2 _ hi
 have hvis := h.vis hv
 have hp := ho.pstp
 have hd := ho.dstp
 simp only [stpOk, decide_eq_true_eq] at hp hd
 simp only [visB, Bool.and_eq_true, decide_eq_true_eq] at hvis
 have h3 := hvis.2
 unfold stopV at h3 ⊢
 split
 ·rename_i c; rw [if_pos c] at h3; omega
 ·rename_i c; rw [if_neg c] at h3; omega
theorem runF_rng {x t sp} (h : TrpOk x t sp) : ∀ (bs : List Bool) (k : Nat) (L : Lab), k + bs.length = sp.length + 1 → LabR k L → (runF x t sp k L bs).2 = 0 → LabR (sp.length + 1) (runF x t sp k L bs).1 ∧ (bs ≠ [] → (runF x t sp k L bs).1.she.fin = (runF x t sp k L bs).1.ready)
 | [], k, L, hk, hl, h0 => by
  simp at hk; subst hk
  exact ⟨hl, fun h => absurd rfl h⟩
 | b :: bs, k, L, hk, hl, h0 => by
  simp at hk
  rw [runF] at h0 ⊢
  split at h0
  ·rename_i c
   rw [if_pos c]
   obtain ⟨h1, h2⟩ := runF_rng h bs (k + 1) _ (by omega) (nxtF_ok h (by omega) hl c) h0
   refine ⟨h1, fun _ => ?_⟩
   cases bs with
   | nil =>
    simp at hk
    subst hk
    exact nxtO_fin (x := x) (t := t) (sp := sp) (y := L) (b := b) (by rw [nxtO, if_pos c]; rfl)
   | cons b2 bs => exact h2 (by simp)
  ·simp at h0; rename_i c; exact absurd h0 c
theorem best_rng {x t sp} {st : Int} {r : List Bool} (h : TrpOk x t sp) (hs : 0 ≤ st ∧ st ≤ 4096) (hr : r.length ≤ sp.length + 1) (h0 : (bestF x t sp st r).2 = 0) : (0 ≤ (bestF x t sp st r).1.fin ∧ (bestF x t sp st r).1.fin ≤ 8192) ∧ (0 ≤ (bestF x t sp st r).1.miles ∧ (bestF x t sp st r).1.miles ≤ 210000) := by
 have hL0 : LabR 0 (labF t st) := ⟨by have := h.opn; simp only [labF]; omega, by simp [labF], by simp [labF, zShe]⟩
 have hl := h.len
 have key : ∀ bs ∈ restsR r (sp.length + 1), (runF x t sp 0 (labF t st) bs).2 = 0 → (0 ≤ (runF x t sp 0 (labF t st) bs).1.she.fin ∧ (runF x t sp 0 (labF t st) bs).1.she.fin ≤ 8192) ∧ (0 ≤ (runF x t sp 0 (labF t st) bs).1.she.miles ∧ (runF x t sp 0 (labF t st) bs).1.she.miles ≤ 210000) := fun bs hbs he => by
  obtain ⟨q, hq, rfl⟩ := List.mem_map.1 hbs
  have hql := bestF_len.fromB_len _ _ hq
  simp at hql
  have hne : r ++ q ≠ [] := fun e => by
   have h2 : (r ++ q).length = 0 := by rw [e]; rfl
   rw [List.length_append] at h2; omega
  obtain ⟨g1, g2⟩ := runF_rng h (r ++ q) 0 _ (by simp; omega) hL0 he
  rw [g2 hne]
  have := g1.rdy
  have := g1.mil
  omega
 unfold bestF at h0 ⊢
 cases hf : fmL finF none ((restsR r (sp.length + 1)).filterMap (runO (nxtO x t sp) 0 (labF t st))) with
 | some L =>
  simp only
  have := bestF_len.fmL_mem _ _ hf
  obtain ⟨bs, hbs, hrun⟩ := List.mem_filterMap.1 this
  rw [runF_opt] at hrun
  split at hrun
  ·rename_i c; simp at hrun; subst hrun; exact key bs hbs c
  ·cases hrun
 | none =>
  simp only
  simp [zShe]
def evalT (x : Inst) (r : Rte) : V := .tup [.p (eShe (evalS x r)), .p (eSco (evalP x r)), .p (.int .i64 (evalE x r))]
theorem evalT_err {x : Inst} {r : Rte} {e : Int} (h : evalE x r = e) (h0 : e ≠ 0) : evalT x r = .tup [.p (eShe zShe), .p (eSco zSco), .p (.int .i64 e)] := by
 unfold evalT evalS evalP
 rw [h, if_neg h0, if_neg h0]
end Go.Proofs.YtcdoglogglbemaaGreatDoor.K
set_option linter.unusedVariables false
set_option linter.unusedSimpArgs false
namespace Go.Proofs.YtcdoglogglbemaaGreatDoor.K
open Go Go.AM Go.Proofs
set_option maxRecDepth 8000
set_option maxHeartbeats 8000000
def gIx {α : Type} (f : α → Bool) (l : List α) : Int := match l.findIdx? f with | some i => (i : Int) | none => -1
theorem gIx_at {α : Type} [Inhabited α] {f : α → Bool} {l : List α} {k : Nat} (hk : k < l.length) (h : f (nth l k) = true) (hno : ∀ j, j < k → f (nth l j) = false) : gIx f l = (k : Int) := by
 have : l.findIdx? f = some k := by
  rw [List.findIdx?_eq_some_iff_getElem]
  refine ⟨hk, by rw [← nth_get hk]; exact h, fun j hj => ?_⟩
  have h2 := hno j hj
  rw [nth_get (by omega)] at h2
  simpa using h2
 simp [gIx, this]
theorem gIx_no {α : Type} [Inhabited α] {f : α → Bool} {l : List α} (hno : ∀ j, j < l.length → f (nth l j) = false) : gIx f l = -1 := by
 have : l.findIdx? f = none := by
  rw [List.findIdx?_eq_none_iff]
  intro x hx
  obtain ⟨j, hj, rfl⟩ := List.mem_iff_getElem.1 hx
  rw [← nth_get hj]; exact hno j hj
 simp [gIx, this]
theorem gIx_ge {α : Type} {f : α → Bool} {l : List α} : decide (0 ≤ gIx f l) = l.any f := by
 unfold gIx
 cases h : l.findIdx? f with
 | none =>
  rw [List.findIdx?_eq_none_iff] at h
  have : l.any f = false := by rw [List.any_eq_false]; intro x hx; simp [h x hx]
  simp [this]
 | some i =>
  rw [List.findIdx?_eq_some_iff_getElem] at h
  obtain ⟨h1, h2, _⟩ := h
  have : l.any f = true := by rw [List.any_eq_true]; exact ⟨l[i], List.getElem_mem _, h2⟩
  simp [this]
theorem indexIL_c (l : List (List Int)) (c : Bool) (g : FuncId) (caps : List V) (H : List AM.Obj) (f : List Int → Bool) (hl : l.length ≤ 1048576) (hW : wkH H H.length H H) (hc : refBs H.length caps = true)
  (hg : ∀ v ∈ l, ACalls Tryz.prog g (.p (eIL v) :: caps) H fun x H' => x = .p (.bool (f v)) ∧ H' = H) :
  ACalls Tryz.prog 307 [.p (.list c (l.map eIL)), .fn (.func g) [] caps] H fun x H' => x = .p (.int .i64 (gIx f l)) ∧ H' = H := by
 refine acalls_of (fn := Tryz.f307) Tryz.func307 rfl isF307 (awp_sound [] _ _ _ _ ?_)
 simp (disch := omega) only [Tryz.f307, go_sem, seval]
 refine awp_for [0, 1, 7] (fun k : Nat => [(8, .p (.int .i64 k))]) (fun _ => H) (fun k => k ≤ l.length ∧ ∀ j, j < k → f (nth l j) = false) (fun k => l.length - k) 0 (by simp) (Weak.mk ?_) ?_
 ·simp (disch := omega) only [hW, hc, go_sem, seval]
  simp
 ·rintro k ⟨hk, hno⟩
  simp (disch := omega) only [go_sem, seval]
  refine acond_b (fun h => ?_) (fun h => ?_) <;> (try simp only [decide_eq_true_eq, decide_eq_false_iff_not] at h) <;> simp (disch := omega) only [Sh.out h, go_sem, seval]
  ·have hk2 : k < l.length := by omega
   have hgk := hg (nth l k) (nth_mem hk2)
   simp (disch := omega) only [eIL_eq, go_sem, seval] at hgk
   refine hgk.useH ?_
   simp (disch := omega) only [go_sem, seval]
   refine acond_b (fun h2 => ?_) (fun h2 => ?_) <;> (try simp only [decide_eq_true_eq, decide_eq_false_iff_not] at h2) <;> simp (disch := omega) only [Sh.out h2, go_sem, seval]
   ·rw [gIx_at hk2 h2 hno]
   ·have h3 : f (nth l k) = false := by simpa using h2
    refine ⟨k + 1, ⟨by omega, upto_iff.2 ⟨hno, h3⟩⟩, by omega, Weak.mk ?_⟩
    simp (disch := omega) only [hW, hc, go_sem, seval]
    simp
  ·have hkl : k = l.length := by omega
   subst hkl
   rw [gIx_no hno]
theorem containsIL_c (l : List (List Int)) (c : Bool) (g : FuncId) (caps : List V) (H : List AM.Obj) (f : List Int → Bool) (hl : l.length ≤ 1048576) (hW : wkH H H.length H H) (hc : refBs H.length caps = true)
  (hg : ∀ v ∈ l, ACalls Tryz.prog g (.p (eIL v) :: caps) H fun x H' => x = .p (.bool (f v)) ∧ H' = H) :
  ACalls Tryz.prog 269 [.p (.list c (l.map eIL)), .fn (.func g) [] caps] H fun x H' => x = .p (.bool (l.any f)) ∧ H' = H := by
 refine acalls_of (fn := Tryz.f269) Tryz.func269 rfl isF269 (awp_sound [] _ _ _ _ ?_)
 simp (disch := omega) only [Tryz.f269, go_sem, seval]
 refine (indexIL_c l c g caps H f hl hW hc hg).useH ?_
 simp (disch := omega) only [go_sem, seval]
 rw [gIx_ge]
theorem pSeq_c (x : Inst) (r : Rte) (hx : InstOk x) (hl : r.visits.length ≤ 1048576) : ACalls Tryz.prog 194 [.p (eInst x), .p (eRte r)] [] fun y H' => y = .p (.int .i64 (seqChk x r.visits)) ∧ H' = [] := by
 have hf := instFacts hx
 obtain ⟨h1, h2⟩ := List.append_eq_nil_iff.1 hx.rules
 have ha : x.apart.length ≤ 1048576 := by
  have h3 := (List.append_eq_nil_iff.1 h1).1
  unfold hdr at h3
  split at h3
  ·simp at h3
  ·omega
 have hb : x.before.length ≤ 1048576 := by
  have h3 := (List.append_eq_nil_iff.1 h2).1
  unfold hdr at h3
  split at h3
  ·simp at h3
  ·omega
 exact seqCheck_c x r (by have := hf.len; omega) hl ha hb
theorem ordR_of {x : Inst} {l : List Vis} (hi : Inr x l) (hn : x.orders.length ≤ 10) : ordR l = (((ordS l : Nat) : Int), 0) := by
 rw [ordR, if_pos]
 rw [List.all_eq_true]
 intro v hv
 have := hi v hv
 simp [inS]; omega
theorem rsnoc {α : Type} (f : Nat → α) (n : Nat) : (List.range n).map f ++ [f n] = (List.range (n + 1)).map f := by rw [List.range_succ, List.map_append]; rfl
theorem pLoads_c (x : Inst) (r : Rte) (hx : InstOk x) (hl : r.visits.length ≤ 1048576) (h0 : seqChk x r.visits = 0) :
  ACalls Tryz.prog 268 [.p (eInst x), .p (eRte r)] [] fun y H' => y = .tup [.p (.list false ((lodsF x r.visits).map eIL)), .p (.int .i64 0)] ∧ H' = [] := by
 have hd := ldOk_of hx
 have hsq := sqOk_of h0
 have hol := hd.ord
 have hso := seqOrders_c r hl
 rw [ordR_of hsq.inr hol] at hso
 have hD : dimsOf x.types = ((dimsOf x.types).toNat : Int) := by have := hd.dim; omega
 have cd := pDims_c x.types x.types_c hd.typ
 rw [hD] at cd
 have hst := start_aft hsq.inr hol
 have hmem : ∀ i ∈ memU ((ordS r.visits : Nat) : Int) 63, 0 ≤ i ∧ i < (x.orders.length : Int) := fun i hi => by
  rw [memS hsq.inr hol] at hi
  obtain ⟨j, hj, rfl⟩ := List.mem_map.1 hi
  have := List.mem_range.1 (List.mem_filter.1 hj).1
  omega
 have cs := start_c x ((ordS r.visits : Nat) : Int) (dimsOf x.types).toNat (by have := hd.dim; omega) (by omega) hmem (memU_len _ _) (fun o ho => by have := hd.load o ho; exact ⟨by omega, this.2⟩)
 rw [hst] at cs
 refine acalls_weak [20] (fn := Tryz.f268) Tryz.func268 rfl isF268 ?_
 simp (disch := omega) only [Tryz.f268, go_sem, seval]
 refine (pSeq_c x r hx hl).use ?_
 simp (disch := omega) only [go_sem, seval]
 simp (disch := omega) only [h0, go_sem, seval]
 refine useT' hso ?_
 simp (disch := omega) only [go_sem, seval]
 refine awp_drawnA mixed (by kernel_rfl) (by kernel_rfl) ?_
 simp (disch := omega) only [go_sem, seval]
 refine exq_call (cd) ?_
 simp (disch := omega) only [go_sem, seval]
 refine exq_call (cs) ?_
 simp (disch := omega) only [go_sem, seval]
 refine awp_forC [20] [2, 37, 38] (fun q : Nat × List (List Int) => [(9, .p (.list false ((aftF x r.visits q.1).map eI))), (10, .sl 2 0 q.2.length q.2.length), (39, .p (.int .i64 q.1))]) (fun q => [instO x, rteO r, .elems 1 (q.2.map eIL)]) (fun q => q.1 ≤ r.visits.length ∧ q.2 = (List.range (q.1 + 1)).map (aftF x r.visits)) (fun q => r.visits.length - q.1) (0, [aftF x r.visits 0]) (by simp) (Weak.mk ?_) ?_
 ·simp (disch := omega) only [instO, rteO, List.map_nil, List.map_cons, List.length_nil, List.length_cons, List.cons_append, List.nil_append, go_sem, seval]
 ·rintro ⟨k, o⟩ ⟨hk, ho⟩
  simp only at hk ho
  have hol2 : o.length = k + 1 := by rw [ho]; simp
  simp (disch := omega) only [instO, rteO, go_sem, seval]
  refine acond_b (fun h1 => ?_) (fun h1 => ?_) <;> (try simp only [decide_eq_true_eq, decide_eq_false_iff_not] at h1) <;> simp (disch := omega) only [Sh.out h1, go_sem, seval]
  ·have hk2 : k < r.visits.length := by omega
   obtain ⟨v1, v2⟩ := hsq.inr _ (nth_mem hk2)
   have hi : (nth r.visits k).order.toNat < x.orders.length := by omega
   obtain ⟨l1, l2⟩ := hd.load _ (nth_in hi)
   have hsu := aftF_succ hsq hk2
   have hal := aftF_len (x := x) (l := r.visits) (n := k)
   have hdm := hd.dim
   have hrg : ∀ j, j < (aftF x r.visits k).length → -1073741824 ≤ nth (aftF x r.visits k) j ∧ nth (aftF x r.visits k) j ≤ 1073741824 ∧ -1073741824 ≤ nth (nth x.orders (nth r.visits k).order.toNat).load j ∧ nth (nth x.orders (nth r.visits k).order.toNat).load j ≤ 1073741824 := fun j hj => by
    have b1 := aftF_rng (x := x) (l := r.visits) (n := k) (j := j) (by omega) hd
    have b2 := l2 _ (nth_in (show j < (nth x.orders (nth r.visits k).order.toNat).load.length by omega))
    omega
   refine acond_b (fun h2 => ?_) (fun h2 => ?_) <;> (try simp only [decide_eq_true_eq, decide_eq_false_iff_not] at h2) <;> simp (disch := omega) only [Sh.out h2, go_sem, seval]
   ·rw [if_pos h2] at hsu
    refine useT' (pSub_c (aftF x r.visits k) (nth x.orders (nth r.visits k).order.toNat).load false (nth x.orders (nth r.visits k).order.toNat).load_c (by omega) (by omega) hrg) ?_
    simp (disch := omega) only [go_sem, seval]
    exact ⟨(k + 1, o ++ [aftF x r.visits (k + 1)]), ⟨by simp only; omega, by simp only; rw [ho, rsnoc]⟩, by simp only; omega, Weak.mk (by simp (disch := omega) only [instO, rteO, hsu, List.length_append, List.length_cons, List.length_nil, List.map_append, List.map_cons, List.map_nil, go_sem, seval])⟩
   ·rw [if_neg (by rw [h2]; simp)] at hsu
    refine useT' (pAdd_c (aftF x r.visits k) (nth x.orders (nth r.visits k).order.toNat).load false (nth x.orders (nth r.visits k).order.toNat).load_c (by omega) (by omega) hrg) ?_
    simp (disch := omega) only [go_sem, seval]
    exact ⟨(k + 1, o ++ [aftF x r.visits (k + 1)]), ⟨by simp only; omega, by simp only; rw [ho, rsnoc]⟩, by simp only; omega, Weak.mk (by simp (disch := omega) only [instO, rteO, hsu, List.length_append, List.length_cons, List.length_nil, List.map_append, List.map_cons, List.map_nil, go_sem, seval])⟩
  ·have hkl : k = r.visits.length := by omega
   subst hkl
   refine awp_weak (Weak.fz (o := 2) (by rfl)) ?_
   refine awp_sound [] _ _ _ _ ?_
   simp (disch := omega) only [List.map_cons, List.map_nil, List.set_cons_succ, List.set_cons_zero, go_sem, seval]
   rw [lodsF, ← ho]
   exact ⟨_, _, Weak.mk (by simp (disch := omega) only [go_sem, seval]), rfl, rfl⟩
theorem fits1_c (x : Inst) (r : Rte) (a : List Int) (htl : x.types.length ≤ 1048576) (hty : 0 ≤ r.typ ∧ r.typ < (x.types.length : Int)) (ha : a.length ≤ 1048576) (hc : (typR x r).cap.length ≤ 1048576) :
  ACalls Tryz.prog 270 [.p (eIL a), .ptr 0 0, .ptr 1 0] [instO x, rteO r] fun y H' => y = .p (.bool (!fitsB a (typR x r).cap)) ∧ H' = [instO x, rteO r] := by
 have hti : r.typ.toNat < x.types.length := by omega
 refine acalls_weak [] (fn := Tryz.f270) Tryz.func270 rfl isF270 ?_
 simp (disch := omega) only [Tryz.f270, instO, rteO, go_sem, seval]
 refine (pFits_c a (typR x r).cap false (typR x r).cap_c ha hc).use ?_
 simp (disch := omega) only [go_sem, seval]
 exact ⟨_, _, Weak.mk (by simp (disch := omega) only [instO, rteO, go_sem, seval]), rfl, rfl⟩
theorem pCFits_c (x : Inst) (r : Rte) (hx : InstOk x) (hl : r.visits.length ≤ 1048576) (hty : 0 ≤ r.typ ∧ r.typ < (x.types.length : Int)) (h0 : seqChk x r.visits = 0) :
  ACalls Tryz.prog 196 [.p (eInst x), .p (eRte r)] [] fun y H' => y = .p (.int .i64 (if loadB x (typR x r).cap r.visits = true then 0 else 17)) ∧ H' = [] := by
 have hd := ldOk_of hx
 have htl := hd.typ
 have hti : r.typ.toNat < x.types.length := by omega
 have hcp : (typR x r).cap.length ≤ 1048576 := by
  have hcap := hx.types.2 _ hti
  unfold typOk at hcap
  obtain ⟨⟨⟨⟨⟨⟨⟨⟨_, _⟩, _⟩, _⟩, hcap⟩, _⟩, _⟩, _⟩, _⟩ := hcap
  simp only [capOk, Bool.and_eq_true, decide_eq_true_eq, rng] at hcap
  unfold typR
  omega
 have hll : (lodsF x r.visits).length = r.visits.length + 1 := by simp [lodsF]
 have hvl := (sqOk_of h0).len hd.ord
 have hall : (lodsF x r.visits).any (fun a => !fitsB a (typR x r).cap) = !loadB x (typR x r).cap r.visits := by
  rw [loadB, lodsF, List.any_map, List.not_all_eq_any_not]; rfl
 have e1 : ¬ r.typ < 0 := by omega
 have e2 : ¬ (x.types.length : Int) ≤ r.typ := by omega
 refine acalls_pure (fn := Tryz.f196) Tryz.func196 rfl isF196 ?_
 simp (disch := omega) only [Tryz.f196, e1, e2, go_sem, seval]
 refine useT' (pLoads_c x r hx hl h0) ?_
 simp (disch := omega) only [go_sem, seval]
 refine (containsIL_c (lodsF x r.visits) false 270 [.ptr 0 0, .ptr 1 0] [instO x, rteO r] (fun a => !fitsB a (typR x r).cap) (by omega) (by simp (disch := omega) only [instO, rteO, go_sem, seval]) (by rfl) (fun a ha => fits1_c x r a htl hty ?_ hcp)).useH ?_
 ·obtain ⟨j, _, rfl⟩ := List.mem_map.1 ha
  rw [aftF_len]; have := hd.dim; omega
 ·simp (disch := omega) only [instO, rteO, go_sem, seval]
  rw [hall]
  refine acond_b (fun h1 => ?_) (fun h1 => ?_) <;> (try simp only [decide_eq_true_eq, decide_eq_false_iff_not] at h1) <;> simp (disch := omega) only [Sh.out h1, go_sem, seval]
  ·rw [if_neg (by simpa using h1)]
  ·rw [if_pos (by simpa using h1)]
end Go.Proofs.YtcdoglogglbemaaGreatDoor.K
set_option linter.unusedVariables false
set_option linter.unusedSimpArgs false
namespace Go.Proofs.YtcdoglogglbemaaGreatDoor.K
open Go Go.AM Go.Proofs
set_option maxRecDepth 8000
set_option maxHeartbeats 8000000
theorem rmServed_c (x : Inst) (p : Pln) (hn : x.orders.length ≤ 60) (hr : p.routes.length ≤ 1048576) (hb : ∀ r ∈ p.routes, rteB r) :
  ACalls Tryz.prog 54 [.p (eInst x), .p (ePln p)] [] fun y H' => y = .tup [.p (.int .i64 ((if kno x.orders.length p.routes = true then srvS p.routes else 0 : Nat) : Int)), .p (.bool (kno x.orders.length p.routes))] ∧ H' = [] := by
 have h60 : pw x.orders.length ≤ pw 60 := pw_le hn
 have e60 : pw 60 = 1152921504606846976 := rfl
 refine acalls_weak [] (fn := Tryz.f54) Tryz.func54 rfl isF54 ?_
 simp (disch := omega) only [Tryz.f54, go_sem, seval]
 refine awp_for [2, 12, 13] (fun k : Nat => [(6, .p (.int .i64 (srvS (p.routes.take k) : Nat))), (14, .p (.int .i64 k))]) (fun _ => [instO x, plnO p]) (fun k => k ≤ p.routes.length ∧ ∀ j, j < k → knoR x.orders.length (nth p.routes j) = true) (fun k => p.routes.length - k) 0 (by simp) (Weak.mk ?_) ?_
 ·simp (disch := omega) only [instO, plnO, srvS, List.take_zero, List.foldl_nil, go_sem, seval]
 ·rintro k ⟨hk, hno⟩
  have hkn : kno x.orders.length (p.routes.take k) = true := by
   rw [kno, List.all_eq_true]
   intro r hr
   obtain ⟨j, hj, rfl⟩ := List.mem_iff_getElem.1 hr
   simp at hj
   rw [List.getElem_take, ← nth_get (by omega)]
   exact hno j (by omega)
  have hlt := srvS_lt hkn
  simp (disch := omega) only [instO, plnO, go_sem, seval]
  refine acond_b (fun h => ?_) (fun h => ?_) <;> (try simp only [decide_eq_true_eq, decide_eq_false_iff_not] at h) <;> simp (disch := omega) only [Sh.out h, go_sem, seval]
  ·have hk2 : k < p.routes.length := by omega
   have hbad : knoR x.orders.length (nth p.routes k) = false → kno x.orders.length p.routes = false := fun h4 => by
    rw [kno, List.all_eq_false]; exact ⟨nth p.routes k, nth_mem hk2, by rw [h4]; simp⟩
   have hs := srvS_take hk2
   refine useT (seqOrders_c (nth p.routes k) (hb _ (nth_mem hk2)).1) ?_
   by_cases c : (nth p.routes k).visits.all inS = true
   ·have e : ordR (nth p.routes k).visits = (((ordS (nth p.routes k).visits : Nat) : Int), 0) := by simp [ordR, c]
    rw [e]
    have hd : ordS (nth p.routes k).visits / pw x.orders.length = 0 ↔ ordS (nth p.routes k).visits < pw x.orders.length := Nat.div_eq_zero_iff_lt (pw_pos _)
    simp (disch := omega) only [go_sem, seval]
    refine acond_b (fun h3 => ?_) (fun h3 => ?_) <;> (try simp only [decide_eq_true_eq, decide_eq_false_iff_not] at h3) <;> simp (disch := omega) only [Sh.out h3, go_sem, seval]
    ·have e2 := hbad (by
      cases c2 : knoR x.orders.length (nth p.routes k) with
      | false => rfl
      | true => have := hd.2 (ordS_knoR c2); omega)
     rw [e2]
     exact ⟨_, _, Weak.mk (by simp (disch := omega) only [go_sem, seval]), rfl, rfl⟩
    ·have h4 : ordS (nth p.routes k).visits < pw x.orders.length := hd.1 (by omega)
     exact ⟨k + 1, ⟨by omega, upto_iff.2 ⟨hno, inS_knoR c h4⟩⟩, by omega, Weak.mk (by simp (disch := omega) only [instO, plnO, hs, go_sem, seval])⟩
   ·have e : ordR (nth p.routes k).visits = (0, 2) := by simp [ordR, c]
    rw [e]
    simp (disch := omega) only [go_sem, seval]
    have e2 := hbad (by
     cases c2 : knoR x.orders.length (nth p.routes k) with
     | false => rfl
     | true => exact absurd (knoR_inS hn c2) c)
    rw [e2]
    exact ⟨_, _, Weak.mk (by simp (disch := omega) only [go_sem, seval]), rfl, rfl⟩
  ·have hkl : k = p.routes.length := by omega
   subst hkl
   have : kno x.orders.length p.routes = true := by rw [List.take_length] at hkn; exact hkn
   rw [this, if_pos rfl, List.take_length]
   exact ⟨_, _, Weak.mk (by simp (disch := omega) only [go_sem, seval]), rfl, rfl⟩
def fIxI (f : Int → Bool) (l : List Int) : Int := match l.findIdx? f with | some i => (i : Int) | none => -1
theorem fIxI_at {f : Int → Bool} {l : List Int} {k : Nat} (hk : k < l.length) (h : f (nth l k) = true) (hno : ∀ j, j < k → f (nth l j) = false) : fIxI f l = (k : Int) := by
 have : l.findIdx? f = some k := by
  rw [List.findIdx?_eq_some_iff_getElem]
  refine ⟨hk, by rw [← nth_get hk]; exact h, fun j hj => ?_⟩
  have h2 := hno j hj
  rw [nth_get (by omega)] at h2
  simpa using h2
 simp [fIxI, this]
theorem fIxI_no {f : Int → Bool} {l : List Int} (hno : ∀ j, j < l.length → f (nth l j) = false) : fIxI f l = -1 := by
 have : l.findIdx? f = none := by
  rw [List.findIdx?_eq_none_iff]
  intro x hx
  obtain ⟨j, hj, rfl⟩ := List.mem_iff_getElem.1 hx
  rw [← nth_get hj]; exact hno j hj
 simp [fIxI, this]
theorem fIxI_ge {f : Int → Bool} {l : List Int} : decide (0 ≤ fIxI f l) = l.any f := by
 unfold fIxI
 cases h : l.findIdx? f with
 | none =>
  rw [List.findIdx?_eq_none_iff] at h
  have : l.any f = false := by rw [List.any_eq_false]; intro x hx; simp [h x hx]
  simp [this]
 | some i =>
  rw [List.findIdx?_eq_some_iff_getElem] at h
  obtain ⟨h1, h2, _⟩ := h
  have : l.any f = true := by rw [List.any_eq_true]; exact ⟨l[i], List.getElem_mem _, h2⟩
  simp [this]
theorem indexFuncI_c (l : List Int) (c : Bool) (g : FuncId) (caps : List V) (H : List AM.Obj) (f : Int → Bool) (hl : l.length ≤ 1048576) (hW : wkH H H.length H H) (hc : refBs H.length caps = true)
  (hg : ∀ v ∈ l, ACalls Tryz.prog g (.p (eI v) :: caps) H fun x H' => x = .p (.bool (f v)) ∧ H' = H) :
  ACalls Tryz.prog 150 [.p (.list c (l.map eI)), .fn (.func g) [] caps] H fun x H' => x = .p (.int .i64 (fIxI f l)) ∧ H' = H := by
 refine acalls_of (fn := Tryz.f150) Tryz.func150 rfl isF150 (awp_sound [] _ _ _ _ ?_)
 simp (disch := omega) only [Tryz.f150, go_sem, seval]
 refine awp_for [0, 1, 7] (fun k : Nat => [(8, .p (.int .i64 k))]) (fun _ => H) (fun k => k ≤ l.length ∧ ∀ j, j < k → f (nth l j) = false) (fun k => l.length - k) 0 (by simp) (Weak.mk ?_) ?_
 ·simp (disch := omega) only [hW, hc, go_sem, seval]
  simp
 ·rintro k ⟨hk, hno⟩
  simp (disch := omega) only [go_sem, seval]
  refine acond_b (fun h => ?_) (fun h => ?_) <;> (try simp only [decide_eq_true_eq, decide_eq_false_iff_not] at h) <;> simp (disch := omega) only [Sh.out h, go_sem, seval]
  ·have hk2 : k < l.length := by omega
   refine (hg (nth l k) (nth_mem hk2)).useH ?_
   simp (disch := omega) only [go_sem, seval]
   refine acond_b (fun h2 => ?_) (fun h2 => ?_) <;> (try simp only [decide_eq_true_eq, decide_eq_false_iff_not] at h2) <;> simp (disch := omega) only [Sh.out h2, go_sem, seval]
   ·rw [fIxI_at hk2 h2 hno]
   ·have h3 : f (nth l k) = false := by simpa using h2
    refine ⟨k + 1, ⟨by omega, upto_iff.2 ⟨hno, h3⟩⟩, by omega, Weak.mk ?_⟩
    simp (disch := omega) only [hW, hc, go_sem, seval]
    simp
  ·have hkl : k = l.length := by omega
   subst hkl
   rw [fIxI_no hno]
theorem containsFuncI_c (l : List Int) (c : Bool) (g : FuncId) (caps : List V) (H : List AM.Obj) (f : Int → Bool) (hl : l.length ≤ 1048576) (hW : wkH H H.length H H) (hc : refBs H.length caps = true)
  (hg : ∀ v ∈ l, ACalls Tryz.prog g (.p (eI v) :: caps) H fun x H' => x = .p (.bool (f v)) ∧ H' = H) :
  ACalls Tryz.prog 101 [.p (.list c (l.map eI)), .fn (.func g) [] caps] H fun x H' => x = .p (.bool (l.any f)) ∧ H' = H := by
 refine acalls_of (fn := Tryz.f101) Tryz.func101 rfl isF101 (awp_sound [] _ _ _ _ ?_)
 simp (disch := omega) only [Tryz.f101, go_sem, seval]
 refine (indexFuncI_c l c g caps H f hl hW hc hg).useH ?_
 simp (disch := omega) only [fIxI_ge, go_sem, seval]
theorem index1_c (l : List Int) (c : Bool) (v : Int) (hl : l.length ≤ 1048576) : ACalls Tryz.prog 219 [.p (.list c (l.map eI)), .p (.int .i64 v)] [] fun x H' => x = .p (.int .i64 (fIxI (fun w => decide (v = w)) l)) ∧ H' = [] := by
 refine acalls_pure (fn := Tryz.f219) Tryz.func219 rfl isF219 ?_
 simp (disch := omega) only [Tryz.f219, go_sem, seval]
 refine awp_for [0, 1, 7] (fun k : Nat => [(8, .p (.int .i64 k))]) (fun _ => []) (fun k => k ≤ l.length ∧ ∀ j, j < k → decide (v = nth l j) = false) (fun k => l.length - k) 0 (by simp) (Weak.mk ?_) ?_
 ·simp (disch := omega) only [go_sem, seval]
 ·rintro k ⟨hk, hno⟩
  simp (disch := omega) only [go_sem, seval]
  refine acond_b (fun h => ?_) (fun h => ?_) <;> (try simp only [decide_eq_true_eq, decide_eq_false_iff_not] at h) <;> simp (disch := omega) only [Sh.out h, go_sem, seval]
  ·have hk2 : k < l.length := by omega
   refine acond_b (fun h2 => ?_) (fun h2 => ?_) <;> (try simp only [decide_eq_true_eq, decide_eq_false_iff_not] at h2) <;> simp (disch := omega) only [Sh.out h2, go_sem, seval]
   ·rw [fIxI_at hk2 (by simpa using h2) hno]
   ·exact ⟨k + 1, ⟨by omega, upto_iff.2 ⟨hno, by simpa using h2⟩⟩, by omega, Weak.mk (by simp (disch := omega) only [go_sem, seval])⟩
  ·have hkl : k = l.length := by omega
   subst hkl
   rw [fIxI_no hno]
theorem contains1_c (l : List Int) (c : Bool) (v : Int) (hl : l.length ≤ 1048576) : ACalls Tryz.prog 168 [.p (.list c (l.map eI)), .p (.int .i64 v)] [] fun x H' => x = .p (.bool (l.any fun w => decide (v = w))) ∧ H' = [] := by
 refine acalls_pure (fn := Tryz.f168) Tryz.func168 rfl isF168 ?_
 simp (disch := omega) only [Tryz.f168, go_sem, seval]
 refine (index1_c l c v hl).use ?_
 simp (disch := omega) only [go_sem, seval]
 simp (disch := omega) only [fIxI_ge, go_sem, seval]
theorem cloneI_c (l : List Int) (c : Bool) (hl : l.length ≤ 1048576) : ACalls Tryz.prog 42 [.p (.list c (l.map eI))] [] fun x H' => x = .sl 0 0 l.length l.length ∧ H' = [.elems 1 (l.map eI)] := by
 suffices hh : ACalls Tryz.prog 42 [.p (.list c (l.map eI))] [] fun x H' => ∃ m : List Int, m = l ∧ x = .sl 0 0 m.length m.length ∧ H' = [.elems 1 (m.map eI)] by
  refine hh.mono fun x H' h => ?_
  obtain ⟨m, rfl, h1, h2⟩ := h
  exact ⟨h1, h2⟩
 refine acalls_weak [1] (fn := Tryz.f42) Tryz.func42 rfl isF42 ?_
 simp (disch := omega) only [Tryz.f42, go_sem, seval]
 refine awp_seq (awp_seq (awp_opN 1 rfl rfl ?_))
 refine ⟨_, opn_nil (e := 3) rfl Tryz.underlying32 rfl (fun _ => rfl), ?_⟩
 rintro _ ⟨b, rfl, hb⟩
 simp (disch := omega) only [go_sem, seval]
 refine awp_sound [] _ _ _ _ ?_
 cases b with
 | true =>
  have hn : l = [] := by simpa using hb rfl
  subst hn
  simp (disch := omega) only [go_sem, seval]
  exact ⟨_, _, Weak.ofNil 0 1 rfl (by simp) (Weak.mk (by simp (disch := omega) only [go_sem, seval])), [], rfl, rfl, rfl⟩
 | false =>
  simp (disch := omega) only [go_sem, seval]
  refine awp_sound [] _ _ _ _ ?_
  simp (disch := omega) only [go_sem, seval]
  exact ⟨.sl 0 0 l.length l.length, [.elems 1 (l.map eI)], Weak.mk (by simp (disch := omega) only [go_sem, seval]), l, rfl, rfl, rfl⟩
theorem cloneV_c (l : List Vis) (c : Bool) (hl : l.length ≤ 1048576) : ACalls Tryz.prog 39 [.p (.list c (l.map eVis))] [] fun x H' => x = .sl 0 0 l.length l.length ∧ H' = [.elems 2 (l.map eVis)] := by
 suffices hh : ACalls Tryz.prog 39 [.p (.list c (l.map eVis))] [] fun x H' => ∃ m : List Vis, m = l ∧ x = .sl 0 0 m.length m.length ∧ H' = [.elems 2 (m.map eVis)] by
  refine hh.mono fun x H' h => ?_
  obtain ⟨m, rfl, h1, h2⟩ := h
  exact ⟨h1, h2⟩
 refine acalls_weak [1] (fn := Tryz.f39) Tryz.func39 rfl isF39 ?_
 simp (disch := omega) only [Tryz.f39, go_sem, seval]
 refine awp_seq (awp_seq (awp_opN 1 rfl rfl ?_))
 refine ⟨_, opn_nil (e := 73) rfl Tryz.underlying42 rfl (fun _ => rfl), ?_⟩
 rintro _ ⟨b, rfl, hb⟩
 simp (disch := omega) only [go_sem, seval]
 refine awp_sound [] _ _ _ _ ?_
 cases b with
 | true =>
  have hn : l = [] := by simpa using hb rfl
  subst hn
  simp (disch := omega) only [go_sem, seval]
  exact ⟨_, _, Weak.ofNil 0 2 rfl (by simp) (Weak.mk (by simp (disch := omega) only [go_sem, seval])), [], rfl, rfl, rfl⟩
 | false =>
  simp (disch := omega) only [go_sem, seval]
  refine awp_sound [] _ _ _ _ ?_
  simp (disch := omega) only [go_sem, seval]
  exact ⟨.sl 0 0 l.length l.length, [.elems 2 (l.map eVis)], Weak.mk (by simp (disch := omega) only [go_sem, seval]), l, rfl, rfl, rfl⟩
def strB (n : Nat) (u : Int) : Bool := !(decide (0 ≤ u) && decide (u < (n : Int)))
theorem rmRight1_c (x : Inst) (p : Pln) (u : Int) (hn : x.orders.length ≤ 1048576) : ACalls Tryz.prog 102 [.p (eI u), .ptr 0 0] [instO x, plnO p] fun y H' => y = .p (.bool (strB x.orders.length u)) ∧ H' = [instO x, plnO p] := by
 refine acalls_weak [] (fn := Tryz.f102) Tryz.func102 rfl isF102 ?_
 simp (disch := omega) only [Tryz.f102, instO, plnO, go_sem, seval]
 refine aguard_f (fun h => ?_) (fun h => ?_) <;> (try simp only [decide_eq_true_eq, decide_eq_false_iff_not] at h) <;> simp (disch := omega) only [Sh.out h, go_sem, seval]
 ·have e : strB x.orders.length u = true := by simp [strB]; omega
  rw [e]
  exact ⟨_, _, Weak.mk (by simp (disch := omega) only [instO, plnO, go_sem, seval]), rfl, rfl⟩
 ·have e : strB x.orders.length u = decide ((x.orders.length : Int) ≤ u) := by
   rw [Bool.eq_iff_iff]; simp [strB]; omega
  rw [e]
  exact ⟨_, _, Weak.mk (by simp (disch := omega) only [instO, plnO, go_sem, seval]), rfl, rfl⟩
theorem rmRight_c (x : Inst) (p : Pln) (hn : x.orders.length ≤ 60) (hr : p.routes.length ≤ 1048576) (hu : p.unserved.length ≤ 1048576) (hb : ∀ r ∈ p.routes, rteB r) :
  ACalls Tryz.prog 36 [.p (eInst x), .p (ePln p)] [] fun y H' => y = .tup [.p (.int .i64 ((if kno x.orders.length p.routes = true then srvS p.routes else 0 : Nat) : Int)), .p (.bool (askB x p))] ∧ H' = [] := by
 refine acalls_weak [] (fn := Tryz.f36) Tryz.func36 rfl isF36 ?_
 simp (disch := omega) only [Tryz.f36, go_sem, seval]
 refine useT (rmServed_c x p hn hr hb) ?_
 have ea : askB x p = (kno x.orders.length p.routes && !(p.unserved.any (strB x.orders.length))) := by
  rw [askB, unsI, List.not_any_eq_all_not]; simp only [strB, Bool.not_not]
 rw [ea]
 generalize (if kno x.orders.length p.routes = true then srvS p.routes else 0) = S
 simp (disch := omega) only [go_sem, seval]
 refine (containsFuncI_c p.unserved p.unserved_c 102 [.ptr 0 0] [instO x, plnO p] (strB x.orders.length) hu (by simp (disch := omega) only [instO, plnO, go_sem, seval]) (by simp (disch := omega) only [go_sem, seval]) fun u hu => rmRight1_c x p u (by omega)).useH ?_
 generalize p.unserved.any (strB x.orders.length) = B
 generalize kno x.orders.length p.routes = K
 cases K with
 | true =>
  simp (disch := omega) only [go_sem, seval]
  exact ⟨_, _, Weak.mk (by simp (disch := omega) only [go_sem, seval]), rfl, rfl⟩
 | false =>
  simp (disch := omega) only [go_sem, seval]
  exact ⟨_, _, Weak.mk (by simp (disch := omega) only [go_sem, seval]), rfl, rfl⟩
theorem rmLeaving_c (x : Inst) (all set : Nat) (hn : x.orders.length ≤ 60) (hl : x.before.length ≤ 1048576) (hv : Val x.orders.length x.before) (ha : all < pw x.orders.length) (hs : set < 9223372036854775808) :
  ACalls Tryz.prog 37 [.p (eInst x), .p (.int .i64 (all : Int)), .p (.int .i64 (set : Int))] [] fun y H' => y = .p (.int .i64 (lvS x.orders.length x.before all set : Nat)) ∧ H' = [] := by
 have h60 : pw x.orders.length ≤ pw 60 := pw_le hn
 have e60 : pw 60 = 1152921504606846976 := rfl
 have hm := memU_len (all : Int) 63
 rw [← lvS_set hn ha]
 refine acalls_pure (fn := Tryz.f37) Tryz.func37 rfl isF37 ?_
 simp (disch := omega) only [Tryz.f37, go_sem, seval]
 refine ((members_c (all : Int)).frozen (by simp)).use ?_
 simp (disch := omega) only [go_sem, seval]
 have hin : ∀ i ∈ memU (all : Int) 63, 0 ≤ i ∧ i < x.orders.length := fun i hi => by
  obtain ⟨j, rfl, _, h3⟩ := memU_iff.1 hi
  have := bit_pw ha h3
  omega
 generalize memU (all : Int) 63 = m at *
 refine awp_for [1, 2, 3, 11, 12] (fun k : Nat => [(7, .p (.int .i64 (setL ((m.take k).filter fun i => decide (needsOf x.orders.length x.before i &&& set &&& all ≠ 0)) : Nat))), (13, .p (.int .i64 k))]) (fun _ => [instO x]) (fun k => k ≤ m.length) (fun k => m.length - k) 0 (by simp) (Weak.mk ?_) ?_
 ·simp (disch := omega) only [instO, List.take_zero, List.filter_nil, setL, List.foldl_nil, go_sem, seval]
 ·intro k hk
  have hlt : setL ((m.take k).filter fun i => decide (needsOf x.orders.length x.before i &&& set &&& all ≠ 0)) < pw x.orders.length := setL_lt fun i hi => by
   have := hin i (List.mem_of_mem_take (List.mem_filter.1 hi).1)
   omega
  simp (disch := omega) only [instO, go_sem, seval]
  refine acond_b (fun h => ?_) (fun h => ?_) <;> (try simp only [decide_eq_true_eq, decide_eq_false_iff_not] at h) <;> simp (disch := omega) only [Sh.out h, go_sem, seval]
  ·have hk2 : k < m.length := by omega
   have hmk := hin _ (nth_mem hk2)
   have hnd : needsOf x.orders.length x.before (nth m k) < pw x.orders.length := by
    obtain ⟨j, hj⟩ : ∃ j : Nat, nth m k = (j : Int) := ⟨(nth m k).toNat, by omega⟩
    rw [hj, ← needsOf_set hv (by omega)]
    exact setOf_lt _ _
   have hal : needsOf x.orders.length x.before (nth m k) &&& set ≤ needsOf x.orders.length x.before (nth m k) := Nat.and_le_left
   have hp : pw (nth m k).toNat ≤ pw 60 := pw_le (by omega)
   have ht : (m.take (k + 1)).filter (fun i => decide (needsOf x.orders.length x.before i &&& set &&& all ≠ 0)) = (m.take k).filter (fun i => decide (needsOf x.orders.length x.before i &&& set &&& all ≠ 0)) ++ (if needsOf x.orders.length x.before (nth m k) &&& set &&& all ≠ 0 then [nth m k] else []) := by
    rw [List.take_succ_eq_append_getElem hk2, List.filter_append, nth_get hk2]
    congr 1
    by_cases c : needsOf x.orders.length x.before m[k] &&& set &&& all = 0 <;> simp [c]
   refine (needs_c x (nth m k) hn hl hv).use ?_
   simp (disch := omega) only [go_sem, seval]
   refine acond_b (fun h2 => ?_) (fun h2 => ?_) <;> (try simp only [decide_eq_true_eq, decide_eq_false_iff_not] at h2) <;> simp (disch := omega) only [Sh.out h2, go_sem, seval]
   ·have h2' : needsOf x.orders.length x.before (nth m k) &&& set &&& all ≠ 0 := by omega
    rw [if_pos h2'] at ht
    refine ⟨k + 1, by omega, by omega, Weak.mk ?_⟩
    simp (disch := omega) only [instO, ht, setL_snoc, go_sem, seval]
   ·have h2' : ¬ needsOf x.orders.length x.before (nth m k) &&& set &&& all ≠ 0 := by omega
    rw [if_neg h2', List.append_nil] at ht
    refine ⟨k + 1, by omega, by omega, Weak.mk ?_⟩
    simp (disch := omega) only [instO, ht, go_sem, seval]
  ·have hkl : k = m.length := by omega
   subst hkl
   rw [List.take_length]
end Go.Proofs.YtcdoglogglbemaaGreatDoor.K
set_option linter.unusedVariables false
set_option linter.unusedSimpArgs false
namespace Go.Proofs.YtcdoglogglbemaaGreatDoor.K
open Go Go.AM Go.Proofs
set_option maxRecDepth 8000
set_option maxHeartbeats 8000000
def eTrp (x : Inst) (t : Typ) (r : Rte) (c : Bool) (sp : List Stp) : PV := .agg [.list x.net.places_c (x.net.places.map eS), .list x.net.arcs_c (x.net.arcs.map eArc), .list x.types_c (x.types.map eTyp), .list x.orders_c (x.orders.map eOrd), .list x.apart_c (x.apart.map eP), .list x.before_c (x.before.map eP), .str t.name, .int .i64 t.count, .int .i64 t.src, .int .i64 t.dst, .list t.cap_c (t.cap.map eI), .int .i64 t.skills, .int .i64 t.prof, .int .i64 t.opn, .int .i64 t.cls, .int .i64 t.drive, .int .i64 t.rest, .int .i64 t.fixed, .int .i64 t.perMile, .int .i64 t.perTick, .int .i64 r.typ, .int .i64 r.start, .list r.rests_c (r.rests.map eB), .list r.visits_c (r.visits.map eVis), .list c (sp.map eStp)]
@[go_sem] theorem eTrp_eq (x : Inst) (t : Typ) (r : Rte) (c : Bool) (sp : List Stp) : eTrp x t r c sp = .agg [.list x.net.places_c (x.net.places.map eS), .list x.net.arcs_c (x.net.arcs.map eArc), .list x.types_c (x.types.map eTyp), .list x.orders_c (x.orders.map eOrd), .list x.apart_c (x.apart.map eP), .list x.before_c (x.before.map eP), .str t.name, .int .i64 t.count, .int .i64 t.src, .int .i64 t.dst, .list t.cap_c (t.cap.map eI), .int .i64 t.skills, .int .i64 t.prof, .int .i64 t.opn, .int .i64 t.cls, .int .i64 t.drive, .int .i64 t.rest, .int .i64 t.fixed, .int .i64 t.perMile, .int .i64 t.perTick, .int .i64 r.typ, .int .i64 r.start, .list r.rests_c (r.rests.map eB), .list r.visits_c (r.visits.map eVis), .list c (sp.map eStp)] := Eq.trans rfl rfl
def trpH (x : Inst) (t : Typ) (r : Rte) : List V := [.p (.list x.net.places_c (x.net.places.map eS)), .p (.list x.net.arcs_c (x.net.arcs.map eArc)), .p (.list x.types_c (x.types.map eTyp)), .p (.list x.orders_c (x.orders.map eOrd)), .p (.list x.apart_c (x.apart.map eP)), .p (.list x.before_c (x.before.map eP)), .p (.str t.name), .p (.int .i64 t.count), .p (.int .i64 t.src), .p (.int .i64 t.dst), .p (.list t.cap_c (t.cap.map eI)), .p (.int .i64 t.skills), .p (.int .i64 t.prof), .p (.int .i64 t.opn), .p (.int .i64 t.cls), .p (.int .i64 t.drive), .p (.int .i64 t.rest), .p (.int .i64 t.fixed), .p (.int .i64 t.perMile), .p (.int .i64 t.perTick), .p (.int .i64 r.typ), .p (.int .i64 r.start), .p (.list r.rests_c (r.rests.map eB)), .p (.list r.visits_c (r.visits.map eVis))]
def trpO (x : Inst) (t : Typ) (r : Rte) (c : Bool) (sp : List Stp) : AM.Obj := .cells [.p (.list x.net.places_c (x.net.places.map eS)), .p (.list x.net.arcs_c (x.net.arcs.map eArc)), .p (.list x.types_c (x.types.map eTyp)), .p (.list x.orders_c (x.orders.map eOrd)), .p (.list x.apart_c (x.apart.map eP)), .p (.list x.before_c (x.before.map eP)), .p (.str t.name), .p (.int .i64 t.count), .p (.int .i64 t.src), .p (.int .i64 t.dst), .p (.list t.cap_c (t.cap.map eI)), .p (.int .i64 t.skills), .p (.int .i64 t.prof), .p (.int .i64 t.opn), .p (.int .i64 t.cls), .p (.int .i64 t.drive), .p (.int .i64 t.rest), .p (.int .i64 t.fixed), .p (.int .i64 t.perMile), .p (.int .i64 t.perTick), .p (.int .i64 r.typ), .p (.int .i64 r.start), .p (.list r.rests_c (r.rests.map eB)), .p (.list r.visits_c (r.visits.map eVis)), .p (.list c (sp.map eStp))]
def ztrO : AM.Obj := .cells [.p (.list true []), .p (.list true []), .p (.list true []), .p (.list true []), .p (.list true []), .p (.list true []), .p (.str []), .p (.int .i64 0), .p (.int .i64 0), .p (.int .i64 0), .p (.list true []), .p (.int .i64 0), .p (.int .i64 0), .p (.int .i64 0), .p (.int .i64 0), .p (.int .i64 0), .p (.int .i64 0), .p (.int .i64 0), .p (.int .i64 0), .p (.int .i64 0), .p (.int .i64 0), .p (.int .i64 0), .p (.list true []), .p (.list true []), .p (.list true [])]
def eLab (L : Lab) : PV := .agg [.int .i64 L.ready, .int .i64 L.since, .bool L.she.rest, .int .i64 L.she.dep, .list L.she.times_c (L.she.times.map eTim), .int .i64 L.she.fin, .int .i64 L.she.miles]
@[go_sem] theorem eLab_eq (L : Lab) : eLab L = .agg [.int .i64 L.ready, .int .i64 L.since, .bool L.she.rest, .int .i64 L.she.dep, .list L.she.times_c (L.she.times.map eTim), .int .i64 L.she.fin, .int .i64 L.she.miles] := Eq.trans rfl rfl
@[go_sem] theorem allS_eLab (l : List Lab) : allS 7 (l.map eLab) = true := allS_map (f := eLab) (S := 7) (fun _ => rfl) l
def labO (L : Lab) : AM.Obj := .cells [.p (.int .i64 L.ready), .p (.int .i64 L.since), .p (.bool L.she.rest), .p (.int .i64 L.she.dep), .p (.list L.she.times_c (L.she.times.map eTim)), .p (.int .i64 L.she.fin), .p (.int .i64 L.she.miles)]
theorem cloneT_c (l : List Tim) (c : Bool) (hl : l.length ≤ 1048576) : ACalls Tryz.prog 331 [.p (.list c (l.map eTim))] [] fun x H' => x = .sl 0 0 l.length l.length ∧ H' = [.elems 4 (l.map eTim)] := by
 suffices hh : ACalls Tryz.prog 331 [.p (.list c (l.map eTim))] [] fun x H' => ∃ m : List Tim, m = l ∧ x = .sl 0 0 m.length m.length ∧ H' = [.elems 4 (m.map eTim)] by
  refine hh.mono fun x H' h => ?_
  obtain ⟨m, rfl, h1, h2⟩ := h
  exact ⟨h1, h2⟩
 refine acalls_weak [1] (fn := Tryz.f331) Tryz.func331 rfl isF331 ?_
 simp (disch := omega) only [Tryz.f331, go_sem, seval]
 refine awp_seq (awp_seq (awp_opN 1 rfl rfl ?_))
 refine ⟨_, opn_nil (e := 341) rfl Tryz.underlying150 rfl (fun _ => rfl), ?_⟩
 rintro _ ⟨b, rfl, hb⟩
 simp (disch := omega) only [go_sem, seval]
 refine awp_sound [] _ _ _ _ ?_
 cases b with
 | true =>
  have hn : l = [] := by simpa using hb rfl
  subst hn
  simp (disch := omega) only [go_sem, seval]
  exact ⟨_, _, Weak.ofNil 0 4 rfl (by simp) (Weak.mk (by simp (disch := omega) only [go_sem, seval])), [], rfl, rfl, rfl⟩
 | false =>
  simp (disch := omega) only [go_sem, seval]
  refine awp_sound [] _ _ _ _ ?_
  simp (disch := omega) only [go_sem, seval]
  exact ⟨.sl 0 0 l.length l.length, [.elems 4 (l.map eTim)], Weak.mk (by simp (disch := omega) only [go_sem, seval]), l, rfl, rfl, rfl⟩
theorem begin_l_c (x : Inst) (t : Typ) (r : Rte) (c : Bool) (sp : List Stp) : ACalls Tryz.prog 273 [.p (eTrp x t r c sp)] [] fun y H' => y = .p (eLab (labF t r.start)) ∧ H' = [] := by
 refine acalls_weak [] (fn := Tryz.f273) Tryz.func273 rfl isF273 ?_
 simp (disch := omega) only [Tryz.f273, go_sem, seval]
 exact ⟨_, _, Weak.mk (by simp (disch := omega) only [labF, zShe, List.map_nil, go_sem, seval]), rfl, rfl⟩
theorem pplace_c (x : Inst) (t : Typ) (r : Rte) (c : Bool) (sp : List Stp) (k : Nat) (hk : k ≤ sp.length) (hl : sp.length ≤ 1048576) : ACalls Tryz.prog 332 [.p (eTrp x t r c sp), .p (.int .i64 (k : Nat))] [] fun y H' => y = .p (.int .i64 (plcF t sp k)) ∧ H' = [] := by
 refine acalls_pure (fn := Tryz.f332) Tryz.func332 rfl isF332 ?_
 simp (disch := omega) only [Tryz.f332, go_sem, seval]
 refine acond_b (fun h => ?_) (fun h => ?_) <;> (try simp only [decide_eq_true_eq, decide_eq_false_iff_not] at h) <;> simp (disch := omega) only [Sh.out h, go_sem, seval]
 ·have : k = 0 := by omega
  rw [plcF, if_pos this]
 ·have e1 : ((k : Int) - 1).toNat = k - 1 := by omega
  have h2 : ¬ k = 0 := by omega
  rw [plcF, if_neg h2]
  done
theorem plan_c (x : Inst) (r : Rte) (hx : InstOk x) (hty : 0 ≤ r.typ ∧ r.typ < (x.types.length : Int)) (h0 : seqChk x r.visits = 0) (hs : 0 ≤ r.start ∧ r.start ≤ 4096) :
  ACalls Tryz.prog 272 [.p (eInst x), .p (eRte r)] [] fun y H' => y = .tup [.p (eTrp x (typR x r) r false (stopsF x r.visits)), .p (.bool true)] ∧ H' = [] := by
 have hd := ldOk_of hx
 have hsq := sqOk_of h0
 have hol := hd.ord
 have htl := hd.typ
 have hvl := hsq.len hol
 have e1 : ¬ r.typ < 0 := by omega
 have e2 : ¬ (x.types.length : Int) ≤ r.typ := by omega
 have e3 : ¬ r.start < 0 := by omega
 have e4 : ¬ 4096 < r.start := by omega
 have e5 : ¬ 20 < (r.visits.length : Int) := by omega
 refine acalls_weak [12] (fn := Tryz.f272) Tryz.func272 rfl isF272 ?_
 simp (disch := omega) only [Tryz.f272, e1, e2, e3, e4, e5, go_sem, seval]
 refine awp_drawnM [9] 10 mixed (by kernel_rfl) (by kernel_rfl) (by kernel_rfl) (by simp) ?_
 simp (disch := omega) only [go_sem, seval]
 refine lateR_cons _ _ (by simp (disch := omega) only [go_sem, seval]; exact ⟨rfl, rfl⟩) ?_
 simp (disch := omega) only [go_sem, seval]
 refine awp_forC [12] [2, 4, 6, 49, 50] (fun q : Nat × List Stp => [(51, .p (.int .i64 q.1))])
  (fun q => [instO x, rteO r, ztrO, .cells (trpH x (typR x r) r ++ [.sl 4 0 q.2.length q.2.length]), .elems 4 (q.2.map eStp)])
  (fun q => q.1 ≤ r.visits.length ∧ q.2 = (stopsF x r.visits).take q.1) (fun q => r.visits.length - q.1) (0, []) (by simp) ((Weak.nilC (o := 3) (j := 24) 4 rfl rfl (by simp)).trans (Weak.mk ?_)) ?_
 ·simp (disch := omega) only [instO, rteO, ztrO, trpH, typR, List.map_nil, List.length_nil, List.set_cons_succ, List.set_cons_zero, List.cons_append, List.nil_append, go_sem, seval]
 ·rintro ⟨k, o⟩ ⟨hk, ho⟩
  simp only at hk ho
  have hol2 : o.length = k := by rw [ho]; simp [stopsF_len]; omega
  simp (disch := omega) only [instO, rteO, ztrO, trpH, go_sem, seval]
  refine acond_b (fun h1 => ?_) (fun h1 => ?_) <;> (try simp only [decide_eq_true_eq, decide_eq_false_iff_not] at h1) <;> simp (disch := omega) only [Sh.out h1, go_sem, seval]
  ·have hk2 : k < r.visits.length := by omega
   have hvis := hsq.vis (nth_mem hk2)
   simp only [visB, Bool.and_eq_true, decide_eq_true_eq] at hvis
   have hsn : o ++ [stopV x (nth r.visits k)] = (stopsF x r.visits).take (k + 1) := by
    rw [ho, List.take_succ_eq_append_getElem (by rw [stopsF_len]; exact hk2), ← nth_get, stopsF_nth hk2]
   have hnp : ¬ (stopV x (nth r.visits k)).place < 0 := by omega
   refine useT' (pStop_c x (nth r.visits k) (by omega) hvis.1 hvis.2) ?_
   simp (disch := omega) only [hnp, go_sem, seval]
   exact ⟨(k + 1, o ++ [stopV x (nth r.visits k)]), ⟨by simp only; omega, hsn⟩, by simp only; omega, Weak.mk (by simp (disch := omega) only [instO, rteO, ztrO, trpH, List.length_append, List.length_cons, List.length_nil, List.map_append, List.map_cons, List.map_nil, List.cons_append, List.nil_append, go_sem, seval])⟩
  ·have hkl : k = r.visits.length := by omega
   subst hkl
   have hso : o = stopsF x r.visits := by rw [ho, ← stopsF_len (x := x) (l := r.visits), List.take_length]
   subst hso
   refine awp_weak (Weak.fz (o := 4) (by rfl)) ?_
   refine awp_sound [] _ _ _ _ ?_
   simp (disch := omega) only [List.map_cons, List.map_nil, List.set_cons_succ, List.set_cons_zero, go_sem, seval]
   exact ⟨_, _, Weak.mk (by simp (disch := omega) only [go_sem, seval]), rfl, rfl⟩
end Go.Proofs.YtcdoglogglbemaaGreatDoor.K
set_option linter.unusedVariables false
set_option linter.unusedSimpArgs false
namespace Go.Proofs.YtcdoglogglbemaaGreatDoor.K
open Go Go.AM Go.Proofs
set_option maxRecDepth 8000
set_option maxHeartbeats 8000000
def shO (rd sn : Int) (m : She) : AM.Obj := .cells [.p (.int .i64 rd), .p (.int .i64 sn), .p (.bool m.rest), .p (.int .i64 m.dep), .sl 4 0 m.times.length m.times.length, .p (.int .i64 m.fin), .p (.int .i64 m.miles)]
theorem exq_callT3 {P : Program} {H : List AM.Obj} {f ars} {a b d : PV} {B : V → Prop} {t} (h : ACalls P f ars [] fun x H' => x = .tup [.p a, .p b, .p d] ∧ H' = []) (k : B (.tup [.p a, .p b, .p d])) (ha : refBs 0 ars = true := by rfl) :
  exq (fun y => ACalls P f ars H (hide (hide (fun x H' => x = y ∧ H' = H) ⟨⟩) ⟨⟩)) (hide B t) :=
 ⟨.tup [.p a, .p b, .p d], (h.behind ha H).mono fun x H' hq => by
  obtain ⟨y, H1, ⟨rfl, rfl⟩, rfl, rfl⟩ := hq
  simp [shV, shVs, hide], k⟩
theorem next_c (x : Inst) (t : Typ) (r : Rte) (c : Bool) (sp : List Stp) (hok : TrpOk x t sp) (k : Nat) (hk : k ≤ sp.length) (hs1 : 0 < sp.length) (L : Lab) (hL : LabR k L) (hlen : L.she.times.length = k) (hclip : 0 < k → L.she.times_c = false) (b : Bool) :
  ACalls Tryz.prog 308 [.p (eTrp x t r c sp), .p (eLab L), .p (.int .i64 (k : Nat)), .p (.bool b)] [] fun y H' => y = .tup [.p (eLab (nxtF x t sp k L b).1), .p (.int .i64 (nxtF x t sp k L b).2)] ∧ H' = [] := by
 have hd := depF_rng hok hL b
 have hsn := sncF_rng hL b
 have hg := goL_rng hok hL b
 have hmi := hL.mil
 have hrd := hL.rdy
 have hsnL := hL.snc
 have hsl := hok.len
 have hrst := hok.rst
 unfold nxtF
 have hmm := @markF_miles k (depF t L b) b L.she
 have hmf := @markF_fin k (depF t L b) b L.she
 have hml := @markF_len k (depF t L b) b L.she
 refine acalls_weak [2, 7, 14, 31] (fn := Tryz.f308) Tryz.func308 rfl isF308 ?_
 simp (disch := omega) only [Tryz.f308, go_sem, seval]
 refine awp_drawnA mixed (by kernel_rfl) (by kernel_rfl) ?_
 simp (disch := omega) only [go_sem, seval]
 refine awp_join [2, 3, 4, 5, 8] (fun _ : Unit => [(10, .p (.int .i64 (depF t L b))), (11, .p (.int .i64 (sncF L b)))]) (fun _ => [trpO x t r c sp, labO L, labO zLab]) (fun _ => True) ?_ ?_
 ·simp (disch := omega) only [go_sem, seval]
  refine acond_b (fun h => ?_) (fun h => ?_) <;> (try simp only [decide_eq_true_eq, decide_eq_false_iff_not] at h) <;> simp (disch := omega) only [Sh.out h, go_sem, seval]
  ·subst h
   exact ⟨(), Weak.mk (by simp (disch := omega) only [trpO, labO, zLab, zShe, depF, sncF, List.map_nil, go_sem, seval])⟩
  ·subst h
   exact ⟨(), Weak.mk (by simp (disch := omega) only [trpO, labO, zLab, zShe, depF, sncF, List.map_nil, go_sem, seval])⟩
 ·intro _ _
  refine awp_sound [7, 14, 31] _ _ _ _ ?_
  simp (disch := omega) only [trpO, labO, zLab, zShe, List.map_nil, go_sem, seval]
  refine (cloneT_c L.she.times L.she.times_c (by omega)).useF ?_
  simp (disch := omega) only [go_sem, seval]
  generalize hM : markF k (depF t L b) b L.she = M at *
  refine awp_join [2, 4, 8, 10, 11, 12] (fun _ : Unit => []) (fun _ => [trpO x t r c sp, labO L, labO zLab, shO 0 0 M, .elems 4 (M.times.map eTim)]) (fun _ => True) ?_ ?_
  ·simp (disch := omega) only [go_sem, seval]
   refine acond_b (fun h => ?_) (fun h => ?_) <;> (try simp only [decide_eq_true_eq, decide_eq_false_iff_not] at h) <;> simp (disch := omega) only [Sh.out h, go_sem, seval]
   ·have hk0 : k = 0 := by omega
    subst hk0
    have e : M = { L.she with rest := b, dep := depF t L b } := by rw [← hM, markF, if_pos rfl]
    rw [e]
    exact ⟨(), Weak.mk (by simp (disch := omega) only [trpO, labO, zLab, zShe, shO, List.map_nil, go_sem, seval])⟩
   ·have e1 : ((k : Int) - 1).toNat = k - 1 := by omega
    have hk1 : k - 1 < L.she.times.length := by omega
    have hset1 : (L.she.times.map eTim).set (k - 1) (PV.agg [.int .i64 (nth L.she.times (k - 1)).arr, .int .i64 (nth L.she.times (k - 1)).beg, .int .i64 (nth L.she.times (k - 1)).dep, .bool b]) = (L.she.times.set (k - 1) { nth L.she.times (k - 1) with rest := b }).map eTim := by
     rw [List.map_set]; rfl
    have hn1 : nth (L.she.times.set (k - 1) { nth L.she.times (k - 1) with rest := b }) (k - 1) = { nth L.she.times (k - 1) with rest := b } := by
     rw [nth_get (by simpa using hk1)]; simp
    have hl1 : (L.she.times.set (k - 1) { nth L.she.times (k - 1) with rest := b }).length = L.she.times.length := by simp
    have hMt : M.times = (L.she.times.set (k - 1) { nth L.she.times (k - 1) with rest := b }).set (k - 1) { nth (L.she.times.set (k - 1) { nth L.she.times (k - 1) with rest := b }) (k - 1) with dep := depF t L b } := by
     rw [hn1, List.set_set, ← hM, markF, if_neg (by omega)]; rfl
    have hM2 : M.rest = L.she.rest ∧ M.dep = L.she.dep := by rw [← hM, markF, if_neg (by omega)]; exact ⟨rfl, rfl⟩
    simp (disch := first | omega | (simp only [List.length_cons, List.length_nil, List.length_append, List.length_map, List.length_take, List.length_drop] <;> omega)) only [e1, go_sem, seval]
    rw [hset1]
    generalize L.she.times.set (k - 1) { nth L.she.times (k - 1) with rest := b } = l1 at *
    simp (disch := first | omega | (simp only [List.length_cons, List.length_nil, List.length_append, List.length_map, List.length_take, List.length_drop] <;> omega)) only [e1, hl1, eq_self, decide_true, go_sem, seval]
    refine ⟨(), Weak.mk ?_⟩
    simp (disch := omega) only [trpO, labO, zLab, zShe, shO, List.map_nil, hM2.1, hM2.2, hmm, hmf, hml, go_sem, seval]
    rw [hMt, List.map_set]
    rfl
  ·intro _ _
   refine awp_sound [14, 31] _ _ _ _ ?_
   simp (disch := omega) only [trpO, labO, zLab, zShe, shO, List.map_nil, go_sem, seval]
   refine awp_join [2, 4, 8, 10, 11, 12, 13] (fun _ : Unit => [(14, .p (.int .i64 (toF t sp k)))]) (fun _ => [trpO x t r c sp, labO L, labO zLab, shO 0 0 M, .elems 4 (M.times.map eTim)]) (fun _ => True) ?_ ?_
   ·simp (disch := omega) only [go_sem, seval]
    refine acond_b (fun h => ?_) (fun h => ?_) <;> (try simp only [decide_eq_true_eq, decide_eq_false_iff_not] at h) <;> simp (disch := omega) only [Sh.out h, go_sem, seval]
    ·have e : toF t sp k = (nth sp k).place := by rw [toF, if_neg (by omega)]
     exact ⟨(), Weak.mk (by simp (disch := omega) only [trpO, labO, zLab, zShe, shO, List.map_nil, e, go_sem, seval])⟩
    ·have e : toF t sp k = t.dst := by rw [toF, if_pos (by omega)]
     exact ⟨(), Weak.mk (by simp (disch := omega) only [trpO, labO, zLab, zShe, shO, List.map_nil, e, go_sem, seval])⟩
   ·intro _ _
    refine awp_sound [31] _ _ _ _ ?_
    simp (disch := omega) only [trpO, labO, zLab, zShe, shO, List.map_nil, go_sem, seval]
    refine awp_drawnA mixed (by kernel_rfl) (by kernel_rfl) ?_
    simp (disch := omega) only [go_sem, seval]
    refine exq_call (pplace_c x t r c sp k hk (by omega)) ?_
    simp (disch := omega) only [go_sem, seval]
    refine exq_callT3 (pGo_c x.net t.prof (plcF t sp k) (toF t sp k) (depF t L b) hok.net (by omega)) ?_
    simp (disch := omega) only [go_sem, seval]
    have hG : goN x.net t.prof (plcF t sp k) (toF t sp k) (depF t L b) = goL x t sp k (depF t L b) := rfl
    rw [hG]
    clear hG
    generalize goL x t sp k (depF t L b) = g at *
    generalize depF t L b = d at *
    generalize sncF L b = s at *
    refine acond_b (fun h1 => ?_) (fun h1 => ?_) <;> (try simp only [decide_eq_true_eq, decide_eq_false_iff_not] at h1) <;> simp (disch := omega) only [Sh.out h1, go_sem, seval]
    ·have e : arrF t sp k g d s M = (zLab, 12) := by rw [arrF, if_pos h1]
     rw [e]
     exact ⟨_, _, Weak.mk (by simp (disch := omega) only [zLab, zShe, List.map_nil, go_sem, seval]), rfl, rfl⟩
    ·refine acond_b (fun h2 => ?_) (fun h2 => ?_) <;> (try simp only [decide_eq_true_eq, decide_eq_false_iff_not] at h2) <;> simp (disch := omega) only [Sh.out h2, go_sem, seval]
     ·refine acond_b (fun h3 => ?_) (fun h3 => ?_) <;> (try simp only [decide_eq_true_eq, decide_eq_false_iff_not] at h3) <;> simp (disch := omega) only [Sh.out h3, go_sem, seval]
      ·have e : arrF t sp k g d s M = (zLab, 15) := by rw [arrF, if_neg h1, if_pos (by omega), if_pos h3]
       rw [e]
       exact ⟨_, _, Weak.mk (by simp (disch := omega) only [zLab, zShe, List.map_nil, go_sem, seval]), rfl, rfl⟩
      ·refine awp_weak (Weak.fz (o := 4) (by rfl)) ?_
       refine awp_sound [] _ _ _ _ ?_
       simp (disch := omega) only [List.map_cons, List.map_nil, List.set_cons_succ, List.set_cons_zero, go_sem, seval]
       refine acond_b (fun h4 => ?_) (fun h4 => ?_) <;> (try simp only [decide_eq_true_eq, decide_eq_false_iff_not] at h4) <;> simp (disch := omega) only [Sh.out h4, go_sem, seval]
       ·have e : arrF t sp k g d s M = (zLab, 16) := by rw [arrF, if_neg h1, if_pos (by omega), if_neg h3, if_pos h4]
        rw [e]
        exact ⟨_, _, Weak.mk (by simp (disch := omega) only [zLab, zShe, List.map_nil, go_sem, seval]), rfl, rfl⟩
       ·have e : arrF t sp k g d s M = (⟨g.1, s + g.1 - d, { M with fin := g.1, miles := M.miles + g.2.1 }⟩, 0) := by rw [arrF, if_neg h1, if_pos (by omega), if_neg h3, if_neg h4]
        have hMc : M.times_c = false := by
         rw [← hM, markF, if_neg (by omega)]
         exact hclip (by omega)
        rw [e]
        exact ⟨_, _, Weak.mk (by simp (disch := omega) only [hMc, go_sem, seval]), rfl, rfl⟩
     ·have h2' : ¬ k = sp.length := by omega
      have hkl : k < sp.length := by omega
      have hstp := hok.stp _ (nth_in hkl)
      refine useT' (begin_c (nth sp k) g.1) ?_
      unfold begF
      by_cases h3 : (nth sp k).cls < max g.1 (nth sp k).opn
      ·have e : arrF t sp k g d s M = (zLab, 14) := by rw [arrF, if_neg h1, if_neg h2', if_pos h3]
       rw [e, if_pos h3]
       simp (disch := omega) only [go_sem, seval]
       exact ⟨_, _, Weak.mk (by simp (disch := omega) only [zLab, zShe, List.map_nil, go_sem, seval]), rfl, rfl⟩
      ·rw [if_neg h3]
       simp (disch := omega) only [go_sem, seval]
       refine awp_weak (Weak.fz (o := 4) (by rfl)) ?_
       refine awp_sound [] _ _ _ _ ?_
       simp (disch := omega) only [List.map_cons, List.map_nil, List.set_cons_succ, List.set_cons_zero, go_sem, seval]
       refine acond_b (fun h4 => ?_) (fun h4 => ?_) <;> (try simp only [decide_eq_true_eq, decide_eq_false_iff_not] at h4) <;> simp (disch := omega) only [Sh.out h4, go_sem, seval]
       ·have e : arrF t sp k g d s M = (zLab, 16) := by rw [arrF, if_neg h1, if_neg h2', if_neg h3, if_pos h4]
        rw [e]
        exact ⟨_, _, Weak.mk (by simp (disch := omega) only [zLab, zShe, List.map_nil, go_sem, seval]), rfl, rfl⟩
       ·have e : arrF t sp k g d s M = (⟨max g.1 (nth sp k).opn + (nth sp k).serv, s + g.1 - d, { M with times_c := false, times := M.times ++ [⟨g.1, max g.1 (nth sp k).opn, 0, false⟩], miles := M.miles + g.2.1 }⟩, 0) := by rw [arrF, if_neg h1, if_neg h2', if_neg h3, if_neg h4]
        rw [e]
        exact ⟨_, _, Weak.mk (by simp (disch := omega) only [go_sem, seval]), rfl, rfl⟩
end Go.Proofs.YtcdoglogglbemaaGreatDoor.K
set_option linter.unusedVariables false
set_option linter.unusedSimpArgs false
namespace Go.Proofs.YtcdoglogglbemaaGreatDoor.K
open Go Go.AM Go.Proofs
set_option maxRecDepth 8000
set_option maxHeartbeats 8000000
theorem nxtF_clip {x t sp k L b} (hs : 0 < sp.length) (hc : 0 < k → L.she.times_c = false) (he : (nxtF x t sp k L b).2 = 0) : (nxtF x t sp k L b).1.she.times_c = false := by
 have hm : 0 < k → (markF k (depF t L b) b L.she).times_c = false := fun h => by rw [markF, if_neg (by omega)]; exact hc h
 unfold nxtF at he ⊢
 generalize goL x t sp k (depF t L b) = g at *
 generalize depF t L b = d at *
 generalize sncF L b = s at *
 generalize markF k d b L.she = m at *
 unfold arrF at he ⊢
 split at he
 ·simp at he
 ·rename_i c1
  rw [if_neg c1]
  split at he
  ·rename_i c2
   rw [if_pos c2]
   split at he
   ·simp at he
   ·rename_i c3
    rw [if_neg c3]
    split at he
    ·simp at he
    ·rename_i c4
     rw [if_neg c4]
     exact hm (by omega)
  ·rename_i c2
   rw [if_neg c2]
   split at he
   ·simp at he
   ·rename_i c3
    rw [if_neg c3]
    split at he
    ·simp at he
    ·rename_i c4
     rw [if_neg c4]
structure LabO (n k : Nat) (L : Lab) : Prop where
 rng : LabR k L
 len : k ≤ n → L.she.times.length = k
 clip : 0 < k → L.she.times_c = false
theorem labO_next {x t sp k L b} (hok : TrpOk x t sp) (hs : 0 < sp.length) (hk : k ≤ sp.length) (h : LabO sp.length k L) (he : (nxtF x t sp k L b).2 = 0) : LabO sp.length (k + 1) (nxtF x t sp k L b).1 :=
 ⟨nxtF_ok hok hk h.rng he, fun hk2 => nxtF_times (h.len hk) he (by omega), fun _ => nxtF_clip hs h.clip he⟩
theorem labO_zero {x t sp} (hok : TrpOk x t sp) {st : Int} (hst : 0 ≤ st ∧ st ≤ 4096) : LabO sp.length 0 (labF t st) :=
 ⟨⟨by have := hok.opn; simp only [labF]; omega, by simp [labF], by simp [labF, zShe]⟩, fun _ => rfl, fun h => by omega⟩
theorem next_ok (x : Inst) (t : Typ) (r : Rte) (c : Bool) (sp : List Stp) (hok : TrpOk x t sp) (k : Nat) (hk : k ≤ sp.length) (hs1 : 0 < sp.length) (L : Lab) (hL : LabO sp.length k L) (b : Bool) :
  ACalls Tryz.prog 308 [.p (eTrp x t r c sp), .p (eLab L), .p (.int .i64 (k : Nat)), .p (.bool b)] [] fun y H' => y = .tup [.p (eLab (nxtF x t sp k L b).1), .p (.int .i64 (nxtF x t sp k L b).2)] ∧ H' = [] :=
 next_c x t r c sp hok k hk hs1 L hL.rng (hL.len hk) hL.clip b
theorem run_c (x : Inst) (t : Typ) (r : Rte) (c : Bool) (sp : List Stp) (hok : TrpOk x t sp) (hs1 : 0 < sp.length) (hst : 0 ≤ r.start ∧ r.start ≤ 4096) (bs : List Bool) (d : Bool) (hb : bs.length = sp.length + 1) :
  ACalls Tryz.prog 275 [.p (eTrp x t r c sp), .p (.list d (bs.map eB))] [] fun y H' => y = .tup [.p (eShe (runF x t sp 0 (labF t r.start) bs).1.she), .p (.int .i64 (runF x t sp 0 (labF t r.start) bs).2)] ∧ H' = [] := by
 have hsl := hok.len
 refine acalls_weak [] (fn := Tryz.f275) Tryz.func275 rfl isF275 ?_
 simp (disch := omega) only [Tryz.f275, go_sem, seval]
 refine (begin_l_c x t r c sp).use ?_
 simp (disch := omega) only [go_sem, seval]
 refine awp_for [2, 4, 6, 13, 14] (fun q : Nat × Lab => [(15, .p (.int .i64 q.1))]) (fun q => [trpO x t r c sp, .cells [.p (.bool false), .p (.int .i64 0), .p (.list true []), .p (.int .i64 0), .p (.int .i64 0)], labO q.2])
  (fun q => q.1 ≤ bs.length ∧ runF x t sp 0 (labF t r.start) bs = runF x t sp q.1 q.2 (bs.drop q.1) ∧ LabO sp.length q.1 q.2) (fun q => bs.length - q.1) (0, labF t r.start) ⟨by simp, by simp, labO_zero hok hst⟩ (Weak.mk ?_) ?_
 ·simp (disch := omega) only [trpO, labO, go_sem, seval]
 ·rintro ⟨k, L⟩ ⟨hk, hrun, hL⟩
  simp only at hk hrun hL
  simp (disch := omega) only [trpO, labO, go_sem, seval]
  refine acond_b (fun h1 => ?_) (fun h1 => ?_) <;> (try simp only [decide_eq_true_eq, decide_eq_false_iff_not] at h1) <;> simp (disch := omega) only [Sh.out h1, go_sem, seval]
  ·have hk2 : k < bs.length := by omega
   have hdrop : bs.drop k = nth bs k :: bs.drop (k + 1) := by rw [List.drop_eq_getElem_cons hk2, nth_get hk2]
   rw [hdrop, runF] at hrun
   have cn := next_ok x t r c sp hok k (by omega) hs1 L hL (nth bs k)
   have hL2 := labO_next (x := x) (t := t) (b := nth bs k) hok hs1 (by omega) hL
   generalize nxtF x t sp k L (nth bs k) = N at *
   refine useT' cn ?_
   simp (disch := omega) only [go_sem, seval]
   refine acond_b (fun h2 => ?_) (fun h2 => ?_) <;> (try simp only [decide_eq_true_eq, decide_eq_false_iff_not] at h2) <;> simp (disch := omega) only [Sh.out h2, go_sem, seval]
   ·rw [hrun, if_neg h2]
    exact ⟨_, _, Weak.mk (by simp (disch := omega) only [zLab, zShe, List.map_nil, go_sem, seval]), rfl, rfl⟩
   ·rw [if_pos (by omega)] at hrun
    exact ⟨(k + 1, N.1), ⟨by simp only; omega, hrun, hL2 (by omega)⟩, by simp only; omega, Weak.mk (by simp (disch := omega) only [trpO, labO, go_sem, seval])⟩
  ·have hkl : k = bs.length := by omega
   subst hkl
   rw [List.drop_length, runF] at hrun
   rw [hrun]
   exact ⟨_, _, Weak.mk (by simp (disch := omega) only [go_sem, seval]), rfl, rfl⟩
theorem beats_c (l m : Lab) : ACalls Tryz.prog 311 [.p (eLab l), .p (eLab m)] [] fun y H' => y = .p (.bool (beatsF l m)) ∧ H' = [] := by
 refine acalls_pure (fn := Tryz.f311) Tryz.func311 rfl isF311 ?_
 simp (disch := omega) only [Tryz.f311, go_sem, seval]
 refine aguard_t (fun h => ?_) (fun h => ?_) <;> (try simp only [decide_eq_true_eq, decide_eq_false_iff_not] at h) <;> simp (disch := omega) only [Sh.out h, go_sem, seval]
 ·simp [beatsF, h]
 ·simp [beatsF, h]
end Go.Proofs.YtcdoglogglbemaaGreatDoor.K
set_option linter.unusedVariables false
set_option linter.unusedSimpArgs false
namespace Go.Proofs.YtcdoglogglbemaaGreatDoor.K
open Go Go.AM Go.Proofs
set_option maxRecDepth 8000
set_option maxHeartbeats 8000000
def gH (x : Inst) (t : Typ) (r : Rte) (c : Bool) (sp : List Stp) (o : List Lab) (f z : Lab) : List AM.Obj := [trpO x t r c sp, .dead, .elems 7 (o.map eLab), labO f, labO z]
theorem grow1_c (x : Inst) (t : Typ) (r : Rte) (c : Bool) (sp : List Stp) (o : List Lab) (f z m : Lab) : ACalls Tryz.prog 310 [.p (eLab m), .ptr 4 0] (gH x t r c sp o f z) fun y H' => y = .p (.bool (beatsF m z)) ∧ H' = gH x t r c sp o f z := by
 refine acalls_weak [] (fn := Tryz.f310) Tryz.func310 rfl isF310 ?_
 simp (disch := omega) only [Tryz.f310, gH, trpO, labO, go_sem, seval]
 refine (beats_c m z).use ?_
 simp (disch := omega) only [go_sem, seval]
 exact ⟨_, _, Weak.mk (by simp (disch := omega) only [gH, trpO, labO, go_sem, seval]), rfl, rfl⟩
theorem indexLab_c (x : Inst) (t : Typ) (r : Rte) (c : Bool) (sp : List Stp) (o : List Lab) (f z : Lab) (hl : o.length ≤ 2097152) :
  ACalls Tryz.prog 333 [.sl 2 0 o.length o.length, .fn (.func 310) [] [.ptr 4 0]] (gH x t r c sp o f z) fun y H' => y = .p (.int .i64 (gIx (fun m => beatsF m z) o)) ∧ H' = gH x t r c sp o f z := by
 refine acalls_weak [] (fn := Tryz.f333) Tryz.func333 rfl isF333 ?_
 simp (disch := omega) only [Tryz.f333, gH, trpO, labO, go_sem, seval]
 refine awp_for [0, 1, 7] (fun k : Nat => [(8, .p (.int .i64 k))]) (fun _ => gH x t r c sp o f z) (fun k => k ≤ o.length ∧ ∀ j, j < k → beatsF (nth o j) z = false) (fun k => o.length - k) 0 (by simp) (Weak.mk ?_) ?_
 ·simp (disch := omega) only [gH, trpO, labO, go_sem, seval]
 ·rintro k ⟨hk, hno⟩
  simp (disch := omega) only [gH, trpO, labO, go_sem, seval]
  refine acond_b (fun h => ?_) (fun h => ?_) <;> (try simp only [decide_eq_true_eq, decide_eq_false_iff_not] at h) <;> simp (disch := omega) only [Sh.out h, go_sem, seval]
  ·have hk2 : k < o.length := by omega
   have hg := grow1_c x t r c sp o f z (nth o k)
   simp (disch := first | omega | (simp only [List.length_cons, List.length_nil, List.length_append, List.length_map, List.length_take, List.length_drop] <;> omega)) only [elt_map hk2, hk2, go_sem, seval]
   simp (disch := omega) only [gH, trpO, labO, go_sem, seval] at hg
   refine hg.useH ?_
   simp (disch := omega) only [go_sem, seval]
   refine acond_b (fun h2 => ?_) (fun h2 => ?_) <;> (try simp only [decide_eq_true_eq, decide_eq_false_iff_not] at h2) <;> simp (disch := omega) only [Sh.out h2, go_sem, seval]
   ·rw [gIx_at (f := fun m => beatsF m z) hk2 h2 hno]
    exact ⟨_, _, Weak.mk (by simp (disch := omega) only [gH, trpO, labO, go_sem, seval]), rfl, rfl⟩
   ·exact ⟨k + 1, ⟨by omega, upto_iff.2 ⟨hno, by simpa using h2⟩⟩, by omega, Weak.mk (by simp (disch := omega) only [gH, trpO, labO, go_sem, seval])⟩
  ·have hkl : k = o.length := by omega
   subst hkl
   rw [gIx_no hno]
   exact ⟨_, _, Weak.mk (by simp (disch := omega) only [gH, trpO, labO, go_sem, seval]), rfl, rfl⟩
theorem containsLab_c (x : Inst) (t : Typ) (r : Rte) (c : Bool) (sp : List Stp) (o : List Lab) (f z : Lab) (hl : o.length ≤ 2097152) :
  ACalls Tryz.prog 309 [.sl 2 0 o.length o.length, .fn (.func 310) [] [.ptr 4 0]] (gH x t r c sp o f z) fun y H' => y = .p (.bool (o.any fun m => beatsF m z)) ∧ H' = gH x t r c sp o f z := by
 refine acalls_weak [] (fn := Tryz.f309) Tryz.func309 rfl isF309 ?_
 simp (disch := omega) only [Tryz.f309, go_sem, seval]
 refine (indexLab_c x t r c sp o f z hl).useH ?_
 simp (disch := omega) only [go_sem, seval]
 rw [gIx_ge]
 exact ⟨_, _, Weak.mk (by simp (disch := omega) only [gH, trpO, labO, go_sem, seval]), rfl, rfl⟩
def cndF (x : Inst) (t : Typ) (sp : List Stp) (r : List Bool) (k : Nat) (f : Lab) (bs : List Bool) (l : List Lab) : List Lab := bs.filterMap (nxtO x t sp k f) ++ candL (nxtO x t sp) (chF r) k l
theorem grow_c (x : Inst) (t : Typ) (r : Rte) (c : Bool) (sp : List Stp) (hok : TrpOk x t sp) (hs1 : 0 < sp.length) (k : Nat) (hk : k ≤ sp.length) (hrl : r.rests.length ≤ 1048576) (l : List Lab) (d : Bool) (hl : l.length ≤ 1048576) (hL : ∀ L ∈ l, LabO sp.length k L) :
  ACalls Tryz.prog 274 [.p (eTrp x t r c sp), .p (.list d (l.map eLab)), .p (.int .i64 (k : Nat))] [] fun y H' => y = .p (.list false ((pruneL beatsF [] (candL (nxtO x t sp) (chF r.rests) k l)).map eLab)) ∧ H' = [] := by
 have hsl := hok.len
 refine acalls_weak [2, 16] (fn := Tryz.f274) Tryz.func274 rfl isF274 ?_
 simp (disch := omega) only [Tryz.f274, go_sem, seval]
 refine awp_weak (Weak.fz (o := 1) (by rfl)) ?_
 simp (disch := omega) only [List.map_cons, List.map_nil, List.set_cons_succ, List.set_cons_zero, go_sem, seval]
 refine awp_join [1, 2, 3] (fun cb : Bool => [(7, .p (.list cb ((chF r.rests k).map eB)))]) (fun _ => [trpO x t r c sp, .dead]) (fun _ => True) ?_ ?_
 ·simp (disch := omega) only [go_sem, seval]
  refine acond_b (fun h => ?_) (fun h => ?_) <;> (try simp only [decide_eq_true_eq, decide_eq_false_iff_not] at h) <;> simp (disch := omega) only [Sh.out h, go_sem, seval]
  ·have hk2 : k < r.rests.length := by omega
   have e : chF r.rests k = (r.rests.take (k + 1)).drop k := by
    rw [chF, List.getElem?_eq_getElem hk2, List.take_succ_eq_append_getElem hk2, List.drop_left' (by simp; omega)]
   exact ⟨r.rests_c && decide ((k : Int) + 1 = (r.rests.length : Int)), Weak.mk (by simp (disch := omega) only [trpO, e, go_sem, seval])⟩
  ·have e : chF r.rests k = [false, true] := by rw [chF, List.getElem?_eq_none (by omega)]
   exact ⟨false, Weak.mk (by simp (disch := omega) only [trpO, e, List.map_cons, List.map_nil, go_sem, seval])⟩
 ·intro cb _
  have hch : (chF r.rests k).length ≤ 2 := by unfold chF; split <;> simp
  refine awp_sound [16] _ _ _ _ ?_
  simp (disch := omega) only [trpO, go_sem, seval]
  refine awp_forC [16] [2, 3, 7, 29, 30] (fun q : Nat × List Lab => [(8, .sl 2 0 q.2.length q.2.length), (31, .p (.int .i64 q.1))]) (fun q => [trpO x t r c sp, .dead, .elems 7 (q.2.map eLab)])
   (fun q => q.1 ≤ l.length ∧ pruneL beatsF [] (candL (nxtO x t sp) (chF r.rests) k l) = pruneL beatsF q.2 (candL (nxtO x t sp) (chF r.rests) k (l.drop q.1)) ∧ q.2.length ≤ 2 * q.1) (fun q => l.length - q.1) (0, []) (by simp) (Weak.ofNil 8 7 rfl (by simp) (Weak.mk ?_)) ?_
  ·simp (disch := omega) only [trpO, List.map_nil, List.length_nil, go_sem, seval]
  ·rintro ⟨i, o⟩ ⟨hi, hpr, hol⟩
   simp only at hi hpr hol
   simp (disch := omega) only [trpO, go_sem, seval]
   refine acond_b (fun h1 => ?_) (fun h1 => ?_) <;> (try simp only [decide_eq_true_eq, decide_eq_false_iff_not] at h1) <;> simp (disch := omega) only [Sh.out h1, go_sem, seval]
   ·have hi2 : i < l.length := by omega
    have hLi := hL _ (nth_in hi2)
    have hdrop : l.drop i = nth l i :: l.drop (i + 1) := by rw [List.drop_eq_getElem_cons hi2, nth_get hi2]
    rw [hdrop] at hpr
    have hpr : pruneL beatsF [] (candL (nxtO x t sp) (chF r.rests) k l) = pruneL beatsF o (cndF x t sp r.rests k (nth l i) ((chF r.rests k).drop 0) (l.drop (i + 1))) := hpr
    refine awp_for [2, 3, 7, 10, 29, 30, 31, 35, 36] (fun q : Nat × List Lab => [(8, .sl 2 0 q.2.length q.2.length), (37, .p (.int .i64 q.1))]) (fun q => [trpO x t r c sp, .dead, .elems 7 (q.2.map eLab), labO (nth l i)])
     (fun q => q.1 ≤ (chF r.rests k).length ∧ pruneL beatsF [] (candL (nxtO x t sp) (chF r.rests) k l) = pruneL beatsF q.2 (cndF x t sp r.rests k (nth l i) ((chF r.rests k).drop q.1) (l.drop (i + 1))) ∧ q.2.length ≤ 2 * i + q.1) (fun q => (chF r.rests k).length - q.1) (0, o) ⟨by simp, hpr, hol⟩ (Weak.mk ?_) ?_
    ·simp (disch := omega) only [trpO, labO, go_sem, seval]
    ·clear hpr hol
     rintro ⟨j, o⟩ ⟨hj, hpr, hol⟩
     simp only at hj hpr hol
     simp (disch := omega) only [trpO, labO, go_sem, seval]
     refine acond_b (fun h2 => ?_) (fun h2 => ?_) <;> (try simp only [decide_eq_true_eq, decide_eq_false_iff_not] at h2) <;> simp (disch := omega) only [Sh.out h2, go_sem, seval]
     ·have hj2 : j < (chF r.rests k).length := by omega
      have hd2 : (chF r.rests k).drop j = nth (chF r.rests k) j :: (chF r.rests k).drop (j + 1) := by rw [List.drop_eq_getElem_cons hj2, nth_get hj2]
      have cn := next_ok x t r c sp hok k hk hs1 (nth l i) hLi (nth (chF r.rests k) j)
      have ho2 : nxtO x t sp k (nth l i) (nth (chF r.rests k) j) = if (nxtF x t sp k (nth l i) (nth (chF r.rests k) j)).2 = 0 then some (nxtF x t sp k (nth l i) (nth (chF r.rests k) j)).1 else none := rfl
      rw [hd2, cndF, List.filterMap_cons, ho2] at hpr
      generalize nxtF x t sp k (nth l i) (nth (chF r.rests k) j) = N at *
      refine useT' cn ?_
      simp (disch := omega) only [go_sem, seval]
      refine aguard_t (fun h3 => ?_) (fun h3 => ?_) <;> (try simp only [decide_eq_true_eq, decide_eq_false_iff_not] at h3) <;> simp (disch := omega) only [Sh.out h3, go_sem, seval]
      ·have hcl := containsLab_c x t r c sp o (nth l i) N.1 (by omega)
       simp (disch := omega) only [gH, trpO, labO, go_sem, seval] at hcl
       refine hcl.useH ?_
       simp (disch := omega) only [go_sem, seval]
       rw [if_pos h3] at hpr
       have hpr : pruneL beatsF [] (candL (nxtO x t sp) (chF r.rests) k l) = if (o.any fun m => beatsF m N.1) = true then pruneL beatsF o (cndF x t sp r.rests k (nth l i) ((chF r.rests k).drop (j + 1)) (l.drop (i + 1))) else pruneL beatsF (o ++ [N.1]) (cndF x t sp r.rests k (nth l i) ((chF r.rests k).drop (j + 1)) (l.drop (i + 1))) := hpr
       refine acond_b (fun h4 => ?_) (fun h4 => ?_) <;> (try simp only [decide_eq_true_eq, decide_eq_false_iff_not] at h4) <;> simp (disch := omega) only [Sh.out h4, go_sem, seval]
       ·rw [if_neg (by simpa using h4)] at hpr
        exact ⟨(j + 1, o ++ [N.1]), ⟨by simp only; omega, hpr, by simp; omega⟩, by simp only; omega, Weak.mk (by simp (disch := omega) only [trpO, labO, List.length_append, List.length_cons, List.length_nil, List.map_append, List.map_cons, List.map_nil, go_sem, seval])⟩
       ·rw [if_pos (by simpa using h4)] at hpr
        exact ⟨(j + 1, o), ⟨by simp only; omega, hpr, by simp only; omega⟩, by simp only; omega, Weak.mk (by simp (disch := omega) only [trpO, labO, go_sem, seval])⟩
      ·rw [if_neg h3] at hpr
       exact ⟨(j + 1, o), ⟨by simp only; omega, hpr, by simp only; omega⟩, by simp only; omega, Weak.mk (by simp (disch := omega) only [trpO, labO, go_sem, seval])⟩
     ·have hjl : j = (chF r.rests k).length := by omega
      subst hjl
      rw [List.drop_length, cndF, List.filterMap_nil, List.nil_append] at hpr
      exact ⟨(i + 1, o), ⟨by simp only; omega, hpr, by simp only; omega⟩, by simp only; omega, Weak.mk (by simp (disch := omega) only [trpO, go_sem, seval])⟩
   ·have hil : i = l.length := by omega
    subst hil
    have e : candL (nxtO x t sp) (chF r.rests) k [] = [] := rfl
    rw [List.drop_length, e, pruneL] at hpr
    rw [hpr]
    refine awp_weak (Weak.fz (o := 2) (by rfl)) ?_
    refine awp_sound [] _ _ _ _ ?_
    simp (disch := omega) only [List.map_cons, List.map_nil, List.set_cons_succ, List.set_cons_zero, go_sem, seval]
    exact ⟨_, _, Weak.mk (by simp (disch := omega) only [go_sem, seval]), rfl, rfl⟩
end Go.Proofs.YtcdoglogglbemaaGreatDoor.K
set_option linter.unusedVariables false
set_option linter.unusedSimpArgs false
namespace Go.Proofs.YtcdoglogglbemaaGreatDoor.K
open Go Go.AM Go.Proofs
set_option maxRecDepth 8000
set_option maxHeartbeats 8000000
def eZtr : PV := .agg [.list true [], .list true [], .list true [], .list true [], .list true [], .list true [], .str [], .int .i64 0, .int .i64 0, .int .i64 0, .list true [], .int .i64 0, .int .i64 0, .int .i64 0, .int .i64 0, .int .i64 0, .int .i64 0, .int .i64 0, .int .i64 0, .int .i64 0, .int .i64 0, .int .i64 0, .list true [], .list true [], .list true []]
theorem planE_c (x : Inst) (r : Rte) (hty : 0 ≤ r.typ ∧ r.typ < (x.types.length : Int)) (htl : x.types.length ≤ 1048576) (hvl : r.visits.length ≤ 20) (hs : ¬ (0 ≤ r.start ∧ r.start ≤ 4096)) :
  ACalls Tryz.prog 272 [.p (eInst x), .p (eRte r)] [] fun y H' => y = .tup [.p eZtr, .p (.bool false)] ∧ H' = [] := by
 have e1 : ¬ r.typ < 0 := by omega
 have e2 : ¬ (x.types.length : Int) ≤ r.typ := by omega
 refine acalls_weak [] (fn := Tryz.f272) Tryz.func272 rfl isF272 ?_
 simp (disch := omega) only [Tryz.f272, e1, e2, go_sem, seval]
 refine aguard_f (fun h1 => ?_) (fun h1 => ?_) <;> (try simp only [decide_eq_true_eq, decide_eq_false_iff_not] at h1) <;> simp (disch := omega) only [Sh.out h1, go_sem, seval]
 ·exact ⟨_, _, Weak.mk (by simp (disch := omega) only [eZtr, go_sem, seval]), rfl, rfl⟩
 ·refine aguard_f (fun h2 => ?_) (fun h2 => ?_) <;> (try simp only [decide_eq_true_eq, decide_eq_false_iff_not] at h2) <;> simp (disch := omega) only [Sh.out h2, go_sem, seval]
  ·exact ⟨_, _, Weak.mk (by simp (disch := omega) only [eZtr, go_sem, seval]), rfl, rfl⟩
  ·omega
theorem runF_bad {x t sp} : ∀ (bs : List Bool) (k : Nat) (L : Lab), ¬ (runF x t sp k L bs).2 = 0 → (runF x t sp k L bs).1 = zLab
 | [], k, L, h => by simp [runF] at h
 | b :: bs, k, L, h => by
  rw [runF] at h ⊢
  split
  ·rename_i c
   rw [if_pos c] at h
   exact runF_bad bs (k + 1) _ h
  ·rfl
theorem fromB_rep (n : Nat) : List.replicate n false ∈ fromB (List.replicate n false) := by
 rw [fromB_next]; simp
theorem fmL_none {l : List Lab} (h : fmL finF none l = none) : l = [] := by
 cases l with
 | nil => rfl
 | cons a l =>
  obtain ⟨z, hz, _⟩ := fmL_some (fin := finF) l a
  have : fmL finF none (a :: l) = fmL finF (some a) l := rfl
  rw [this, hz] at h; cases h
theorem best_none {x t sp} {st : Int} {r : List Bool} (h : fmL finF none ((restsR r (sp.length + 1)).filterMap (runO (nxtO x t sp) 0 (labF t st))) = none) : ¬ (runF x t sp 0 (labF t st) (padR r (sp.length + 1))).2 = 0 := fun h0 => by
 have h1 := fmL_none h
 have h2 : padR r (sp.length + 1) ∈ restsR r (sp.length + 1) := List.mem_map.2 ⟨_, fromB_rep _, rfl⟩
 have h3 := List.filterMap_eq_nil_iff.1 h1 _ h2
 rw [runF_opt, if_pos h0] at h3
 cases h3
theorem best_none2 {x t sp} {st : Int} {r : List Bool} (hr : r.length ≤ sp.length + 1) (h : fmL finF none (iterL beatsF (nxtO x t sp) (chF r) (sp.length + 1) 0 [labF t st]) = none) : ¬ (runF x t sp 0 (labF t st) (padR r (sp.length + 1))).2 = 0 :=
 best_none (by rw [labels_fm, reachL, ext_rests r _ hr] at h; exact h)
def bestV (x : Inst) (r : Rte) : She × Int := if 0 ≤ r.start ∧ r.start ≤ 4096 ∧ r.rests.length ≤ r.visits.length + 1 then bestR x r else (zShe, 2)
theorem candL_ok {x t sp} {ch : Nat → List Bool} {k : Nat} {l : List Lab} (hok : TrpOk x t sp) (hs : 0 < sp.length) (hk : k ≤ sp.length) (h : ∀ L ∈ l, LabO sp.length k L) : ∀ L ∈ pruneL beatsF [] (candL (nxtO x t sp) ch k l), LabO sp.length (k + 1) L := fun L hL => by
 have h1 := prune_sub beatsF _ _ L hL
 rw [List.nil_append] at h1
 obtain ⟨a, ha, hb⟩ := List.mem_flatMap.1 h1
 obtain ⟨b, _, hn⟩ := List.mem_filterMap.1 hb
 rw [nxtO] at hn
 split at hn
 ·rename_i c
  simp at hn; subst hn
  exact labO_next hok hs hk (h a ha) c
 ·cases hn
theorem prune_len : ∀ (c out : List Lab), (pruneL beatsF out c).length ≤ out.length + c.length
 | [], out => by simp [pruneL]
 | x :: c, out => by
  rw [pruneL]
  split
  ·have := prune_len c out; simp; omega
  ·have := prune_len c (out ++ [x]); simp at this ⊢; omega
theorem candL_len {x t sp} {r : List Bool} {k : Nat} : ∀ l : List Lab, (candL (nxtO x t sp) (chF r) k l).length ≤ 2 * l.length
 | [] => by simp [candL]
 | a :: l => by
  have ih := candL_len (x := x) (t := t) (sp := sp) (r := r) (k := k) l
  have h1 : (candL (nxtO x t sp) (chF r) k (a :: l)) = (chF r k).filterMap (nxtO x t sp k a) ++ candL (nxtO x t sp) (chF r) k l := rfl
  have h2 := List.length_filterMap_le (nxtO x t sp k a) (chF r k)
  have h3 : (chF r k).length ≤ 2 := by unfold chF; split <;> simp
  rw [h1, List.length_append, List.length_cons]; omega
theorem pBest_c (x : Inst) (r : Rte) (hx : InstOk x) (hl : r.visits.length ≤ 1048576) (hrl : r.rests.length ≤ 1048576) (hty : 0 ≤ r.typ ∧ r.typ < (x.types.length : Int)) (h0 : seqChk x r.visits = 0) :
  ACalls Tryz.prog 197 [.p (eInst x), .p (eRte r)] [] fun y H' => y = .tup [.p (eShe (bestV x r).1), .p (.int .i64 (bestV x r).2)] ∧ H' = [] := by
 have hd := ldOk_of hx
 have hsq := sqOk_of h0
 have hol := hd.ord
 have htl := hd.typ
 have hvl := hsq.len hol
 have hok := trpOk_of hx hty hsq
 have hsl : (stopsF x r.visits).length = r.visits.length := stopsF_len
 have hs1 : 0 < (stopsF x r.visits).length := by
  rw [hsl]
  have := hsq.ne
  cases hv : r.visits with
  | nil => exact absurd hv this
  | cons a b => simp
 refine acalls_weak [6, 13, 14] (fn := Tryz.f197) Tryz.func197 rfl isF197 ?_
 simp (disch := omega) only [Tryz.f197, go_sem, seval]
 by_cases hs : 0 ≤ r.start ∧ r.start ≤ 4096
 ·refine useT' (plan_c x r hx hty h0 hs) ?_
  simp (disch := omega) only [go_sem, seval]
  refine acond_b (fun h1 => ?_) (fun h1 => ?_) <;> (try simp only [decide_eq_true_eq, decide_eq_false_iff_not] at h1) <;> simp (disch := omega) only [Sh.out h1, go_sem, seval]
  ·have e : bestV x r = (zShe, 2) := by rw [bestV, if_neg (by omega)]
   rw [e]
   exact ⟨_, _, Weak.mk (by simp (disch := omega) only [zShe, List.map_nil, go_sem, seval]), rfl, rfl⟩
  ·have hrs : r.rests.length ≤ r.visits.length + 1 := by omega
   have e : bestV x r = bestR x r := by rw [bestV, if_pos ⟨hs.1, hs.2, hrs⟩]
   have hbn := @best_none2 x (typR x r) (stopsF x r.visits) r.start r.rests (by rw [hsl]; exact hrs)
   rw [e, bestR, bestF_labels (by rw [hsl]; exact hrs)]
   refine (begin_l_c x (typR x r) r false (stopsF x r.visits)).use ?_
   simp (disch := omega) only [go_sem, seval]
   generalize hT : typR x r = t at *
   generalize hS : stopsF x r.visits = sp at *
   refine awp_weak (Weak.fz (o := 4) (by rfl)) ?_
   refine awp_sound [13, 14] _ _ _ _ ?_
   simp (disch := omega) only [List.map_cons, List.map_nil, List.set_cons_succ, List.set_cons_zero, go_sem, seval]
   refine awp_forC [13, 14] [3, 4, 6, 8, 38] (fun q : Nat × List Lab => [(9, .p (.list false (q.2.map eLab))), (39, .p (.int .i64 q.1))]) (fun _ => [instO x, rteO r, .cells [.p (.bool false), .p (.int .i64 0), .p (.list true []), .p (.int .i64 0), .p (.int .i64 0)], trpO x t r false sp, .dead])
    (fun q => q.1 ≤ sp.length + 1 ∧ iterL beatsF (nxtO x t sp) (chF r.rests) (sp.length + 1) 0 [labF t r.start] = iterL beatsF (nxtO x t sp) (chF r.rests) (sp.length + 1 - q.1) q.1 q.2 ∧ (∀ L ∈ q.2, LabO sp.length q.1 L) ∧ q.2.length ≤ 2 ^ q.1) (fun q => sp.length + 1 - q.1) (0, [labF t r.start]) ⟨by simp, by simp, fun L hL => by simp at hL; subst hL; exact labO_zero hok hs, by simp⟩ (Weak.mk ?_) ?_
   ·simp (disch := omega) only [instO, rteO, trpO, List.map_cons, List.map_nil, List.set_cons_succ, List.set_cons_zero, List.cons_append, List.nil_append, go_sem, seval]
   ·rintro ⟨k, l⟩ ⟨hk, hit, hlo, hll⟩
    simp only at hk hit hlo hll
    simp (disch := omega) only [instO, rteO, trpO, go_sem, seval]
    refine acond_b (fun h2 => ?_) (fun h2 => ?_) <;> (try simp only [decide_eq_true_eq, decide_eq_false_iff_not] at h2) <;> simp (disch := omega) only [Sh.out h2, go_sem, seval]
    ·have hk2 : k ≤ sp.length := by omega
     have hp20 : 2 ^ k ≤ 2 ^ 20 := Nat.pow_le_pow_right (by omega) (by omega)
     refine (grow_c x t r false sp hok hs1 k hk2 hrl l false (by omega) hlo).use ?_
     simp (disch := omega) only [go_sem, seval]
     have hn : iterL beatsF (nxtO x t sp) (chF r.rests) (sp.length + 1 - k) k l = iterL beatsF (nxtO x t sp) (chF r.rests) (sp.length + 1 - (k + 1)) (k + 1) (pruneL beatsF [] (candL (nxtO x t sp) (chF r.rests) k l)) := by
      have e : sp.length + 1 - k = (sp.length + 1 - (k + 1)) + 1 := by omega
      rw [e, iterL]
     have hln := prune_len (candL (nxtO x t sp) (chF r.rests) k l) []
     have hln2 := candL_len (x := x) (t := t) (sp := sp) (r := r.rests) (k := k) l
     exact ⟨(k + 1, pruneL beatsF [] (candL (nxtO x t sp) (chF r.rests) k l)), ⟨by simp only; omega, hit.trans hn, candL_ok hok hs1 hk2 hlo, by simp at hln; simp only [Nat.pow_succ]; omega⟩, by simp only; omega, Weak.mk (by simp (disch := omega) only [instO, rteO, trpO, List.set_cons_succ, List.set_cons_zero, go_sem, seval])⟩
    ·have hkn : k = sp.length + 1 := by omega
     subst hkn
     rw [Nat.sub_self, iterL] at hit
     rw [hit] at hbn ⊢
     clear hit
     refine acond_b (fun h3 => ?_) (fun h3 => ?_) <;> (try simp only [decide_eq_true_eq, decide_eq_false_iff_not] at h3) <;> simp (disch := omega) only [Sh.out h3, go_sem, seval]
     ·have hl0 : l = [] := List.eq_nil_of_length_eq_zero (by omega)
      subst hl0
      have hbn := hbn rfl
      refine awp_seq (awp_opS 3 rfl rfl ?_)
      simp (disch := omega) only [go_sem, seval]
      refine ⟨_, _, ops_copy (e := 4) rfl Tryz.underlying41 (by kernel_rfl) rfl rfl rfl ?_ ?_ ?_, ?_⟩
      ·simp
      ·simp; omega
      ·intro q hq
       obtain ⟨b, _, rfl⟩ := List.mem_map.1 hq
       rfl
      ·have hpl : (padR r.rests (sp.length + 1)).length = sp.length + 1 := by simp [padR]; omega
       have hpad : r.rests.map eB ++ (PV.bool false :: List.replicate r.visits.length (PV.bool false)).drop (r.rests.map eB).length = (padR r.rests (sp.length + 1)).map eB := by
        rw [padR, List.map_append, ← List.replicate_succ, List.drop_replicate, List.map_replicate, hsl, List.length_map]; rfl
       have hcr := run_c x t r false sp hok hs1 hs (padR r.rests (sp.length + 1)) false hpl
       have hbad := runF_bad _ _ _ hbn
       rw [hbad] at hcr
       simp only [List.set_cons_succ, List.set_cons_zero]
       rw [hpad]
       generalize hRP : padR r.rests (sp.length + 1) = rp at *
       refine awp_weak (Weak.fz (o := 5) (by rfl)) ?_
       refine awp_sound [] _ _ _ _ ?_
       simp (disch := omega) only [List.map_cons, List.map_nil, List.set_cons_succ, List.set_cons_zero, go_sem, seval]
       rw [if_pos (by omega)]
       refine useT' hcr ?_
       simp (disch := omega) only [go_sem, seval]
       have hfm0 : fmL finF none ([] : List Lab) = none := rfl
       rw [hfm0]
       exact ⟨_, _, Weak.mk (by simp (disch := omega) only [zLab, zShe, List.map_nil, go_sem, seval]), rfl, rfl⟩
     ·cases l with
      | nil => simp at h3
      | cons l0 l =>
       have e0 : elt ((l0 :: l).map eLab) 0 = eLab l0 := rfl
       have hn0 : nth (l0 :: l) 0 = l0 := rfl
       simp (disch := first | omega | (simp only [List.length_cons, List.length_nil, List.length_append, List.length_map, List.length_take, List.length_drop] <;> omega)) only [e0, hn0, List.take_length, go_sem, seval]
       have hfm : fmL finF none (l0 :: l) = fmL finF (some l0) l := rfl
       rw [hfm]
       have hlen : l.length ≤ 2097152 := by
        have hp20 : 2 ^ (sp.length + 1) ≤ 2 ^ 21 := Nat.pow_le_pow_right (by omega) (by omega)
        simp at hll; omega
       refine awp_for [4, 12, 65, 66] (fun q : Nat × Lab => [(67, .p (.int .i64 q.1))]) (fun q => [instO x, rteO r, .cells [.p (.bool false), .p (.int .i64 0), .p (.list true []), .p (.int .i64 0), .p (.int .i64 0)], trpO x t r false sp, .dead, labO q.2])
        (fun q => q.1 ≤ l.length ∧ fmL finF (some l0) l = fmL finF (some q.2) (l.drop q.1)) (fun q => l.length - q.1) (0, l0) (by simp) (Weak.mk ?_) ?_
       ·simp (disch := omega) only [instO, rteO, trpO, labO, List.set_cons_succ, List.set_cons_zero, hn0, go_sem, seval]
       ·rintro ⟨i, m⟩ ⟨hi, hm⟩
        simp only at hi hm
        simp (disch := omega) only [instO, rteO, trpO, labO, List.take_length, go_sem, seval]
        refine acond_b (fun h4 => ?_) (fun h4 => ?_) <;> (try simp only [decide_eq_true_eq, decide_eq_false_iff_not] at h4) <;> simp (disch := omega) only [Sh.out h4, go_sem, seval]
        ·have hi2 : i < l.length := by omega
         have hdrop : l.drop i = nth l i :: l.drop (i + 1) := by rw [List.drop_eq_getElem_cons hi2, nth_get hi2]
         rw [hdrop, fmL] at hm
         refine acond_b (fun h5 => ?_) (fun h5 => ?_) <;> (try simp only [decide_eq_true_eq, decide_eq_false_iff_not] at h5) <;> simp (disch := omega) only [Sh.out h5, go_sem, seval]
         ·rw [if_pos (show finF (nth l i) < finF m from h5)] at hm
          exact ⟨(i + 1, nth l i), ⟨by simp only; omega, hm⟩, by simp only; omega, Weak.mk (by simp (disch := omega) only [instO, rteO, trpO, labO, go_sem, seval])⟩
         ·rw [if_neg (show ¬ finF (nth l i) < finF m from h5)] at hm
          exact ⟨(i + 1, m), ⟨by simp only; omega, hm⟩, by simp only; omega, Weak.mk (by simp (disch := omega) only [instO, rteO, trpO, labO, go_sem, seval])⟩
        ·have hil : i = l.length := by omega
         subst hil
         rw [List.drop_length, fmL] at hm
         rw [hm]
         exact ⟨_, _, Weak.mk (by simp (disch := omega) only [go_sem, seval]), rfl, rfl⟩
 ·have e : bestV x r = (zShe, 2) := by rw [bestV, if_neg (fun h => hs ⟨h.1, h.2.1⟩)]
  rw [e]
  refine useT' (planE_c x r hty htl hvl hs) ?_
  simp (disch := omega) only [eZtr, go_sem, seval]
  exact ⟨_, _, Weak.mk (by simp (disch := omega) only [zShe, List.map_nil, go_sem, seval]), rfl, rfl⟩
end Go.Proofs.YtcdoglogglbemaaGreatDoor.K
set_option linter.unusedVariables false
set_option linter.unusedSimpArgs false
namespace Go.AM
open Go.RowKit
theorem mput_eII (k v : Int) (l : List (Int × Int)) : ∃ l', mput (.int .i64 k) (.int .i64 v) (l.map eII) = l'.map eII ∧ (∀ q, mget l' q = if q = k then v else mget l q) ∧ l'.length ≤ l.length + 1 := by
 unfold mput
 rw [mfind_eII]
 cases hm : mix l k with
 | none =>
  refine ⟨l ++ [(k, v)], by simp [eII], fun q => ?_, by simp⟩
  have e1 : mix (l ++ [(k, v)]) k = some l.length := by
   unfold mix at hm ⊢
   rw [List.findIdx?_append, hm]; simp
  by_cases hq : q = k
  ·subst hq; simp [mget, e1]
  ·rw [if_neg hq]
   unfold mget
   have e3 : mix (l ++ [(k, v)]) q = mix l q := by
    unfold mix
    rw [List.findIdx?_append]
    cases hc : l.findIdx? (fun p => decide (q = p.1)) <;> simp [hq]
   rw [e3]
   cases hc : mix l q with
   | none => rfl
   | some i =>
    unfold mix at hc
    rw [List.findIdx?_eq_some_iff_getElem] at hc
    obtain ⟨hi, _⟩ := hc
    simp only
    rw [List.getElem?_append_left hi]
 | some i =>
  refine ⟨l.set i (k, v), by rw [List.map_set]; simp [eII], ?_, by simp⟩
  have hH : oat [.map (l.map eII)] 0 = .map (l.map eII) := rfl
  have := mstore_int (H := [.map (l.map eII)]) (o := 0) (l := l) (k := k) (i := i) (v := v) (K := fun _ _ => ∀ q, mget (l.set i (k, v)) q = if q = k then v else mget l q) hH hm fun h => h
  unfold amstore at this
  obtain ⟨u, q1, _⟩ := mix_some hm
  have e1 : (l.map eII)[i]? = some (eII (k, u)) := by rw [List.getElem?_map, q1]; rfl
  simp only [hH, Int.natCast_nonneg, if_true, Int.toNat_natCast, e1, mst] at this
  exact this
theorem mput_int {P : Program} {H : List Obj} {t : TypeId} {o : Nat} {l : List (Int × Int)} {k v : Int} {K : V → List Obj → Prop} (hT : mapT P t = some (.int .i64, some (.int .i64 0))) (hH : oat H o = .map (l.map eII))
  (h : ∀ l' : List (Int × Int), (∀ q, mget l' q = if q = k then v else mget l q) → K .junk (H.set o (.map (l'.map eII)))) : mst (amput P H t (.mp o) (.p (.int .i64 k)) (.p (.int .i64 v))) K := by
 obtain ⟨kt, et, h1, h2, h3⟩ := mapT_inv hT
 obtain ⟨l', e, hg, _⟩ := mput_eII k v l
 simp only [amput, h1, mapAt_eII h2 hH, Option.map_some, mst, e]
 exact h l' hg
end Go.AM
namespace Go.Proofs.YtcdoglogglbemaaGreatDoor.K
open Go Go.AM Go.Proofs
set_option maxRecDepth 8000
set_option maxHeartbeats 8000000
def cntF (l : List Vis) (k : Nat) (q : Int) : Int := ((l.take k).countP fun v => decide (v.order = q) : Nat)
theorem cntF_succ {l : List Vis} {k : Nat} (h : k < l.length) (q : Int) : cntF l (k + 1) q = if q = (nth l k).order then cntF l k q + 1 else cntF l k q := by
 unfold cntF
 rw [List.take_succ_eq_append_getElem h, List.countP_append, nth_get h]
 by_cases c : l[k].order = q
 ·rw [if_pos c.symm]; simp [c]
 ·rw [if_neg (fun e => c e.symm)]; simp [c]
theorem cntF_rng {l : List Vis} {k : Nat} (h : k ≤ l.length) (q : Int) : 0 ≤ cntF l k q ∧ cntF l k q ≤ k := by
 unfold cntF
 have := List.countP_le_length (p := fun v : Vis => decide (v.order = q)) (l := l.take k)
 rw [List.length_take] at this
 omega
theorem cntF_first {l : List Vis} {k : Nat} : firstB l k = decide (cntF l k (nth l k).order = 0) := by
 unfold firstB cntF
 rw [Bool.eq_iff_iff]
 simp only [Bool.not_eq_true', decide_eq_true_eq]
 rw [List.any_eq_false]
 have : ((List.countP (fun v => decide (v.order = (nth l k).order)) (l.take k) : Nat) : Int) = 0 ↔ List.countP (fun v => decide (v.order = (nth l k).order)) (l.take k) = 0 := by omega
 rw [this, List.countP_eq_zero]
theorem pForeign_c (a b : Int) : ACalls Tryz.prog 276 [.p (.int .i64 a), .p (.int .i64 b)] [] fun y H' => y = .p (.bool (foreign a b)) ∧ H' = [] := by
 refine acalls_pure (fn := Tryz.f276) Tryz.func276 rfl isF276 ?_
 simp (disch := omega) only [Tryz.f276, go_sem, seval]
 refine aguard_t (fun h => ?_) (fun h => ?_) <;> (try simp only [decide_eq_true_eq, decide_eq_false_iff_not] at h) <;> simp (disch := omega) only [Sh.out h, go_sem, seval]
 ·simp [foreign, h]
 ·simp only [Classical.not_not] at h
  simp [foreign, h]
theorem pRoute_c (x : Inst) (r : Rte) (s : She) (hty : 0 ≤ r.typ ∧ r.typ < (x.types.length : Int)) (ho : x.orders.length ≤ 1048576) (ht : x.types.length ≤ 1048576) (hl : r.visits.length ≤ 1048576) (hv : Inr x r.visits)
  (hc : 0 ≤ (typR x r).fixed ∧ (typR x r).fixed ≤ 100000 ∧ 0 ≤ (typR x r).perMile ∧ (typR x r).perMile ≤ 100 ∧ 0 ≤ (typR x r).perTick ∧ (typR x r).perTick ≤ 100) (ho2 : 0 ≤ (typR x r).opn ∧ (typR x r).opn ≤ 4096)
  (hf : -4096 ≤ s.fin ∧ s.fin ≤ 8192) (hm : 0 ≤ s.miles ∧ s.miles ≤ 1000000) :
  ACalls Tryz.prog 198 [.p (eInst x), .p (eRte r), .p (eShe s)] [] fun y H' => y = .p (eSco (scoF x r s)) ∧ H' = [] := by
 have hti : r.typ.toNat < x.types.length := by omega
 have hT : mapT Tryz.prog 143 = some (.int .i64, some (.int .i64 0)) := by kernel_rfl
 unfold scoF
 have htd : nth x.types r.typ.toNat = typR x r := rfl
 generalize typR x r = t at *
 have e1 : ¬ r.typ < 0 := by omega
 have e2 : ¬ (x.types.length : Int) ≤ r.typ := by omega
 have p1 : 0 ≤ t.perMile * s.miles ∧ t.perMile * s.miles ≤ 100 * 1000000 := ⟨Int.mul_nonneg (by omega) (by omega), Int.mul_le_mul (by omega) (by omega) (by omega) (by omega)⟩
 have hW : -8192 ≤ s.fin - t.opn ∧ s.fin - t.opn ≤ 8192 := by omega
 have p2 : -819200 ≤ t.perTick * (s.fin - t.opn) ∧ t.perTick * (s.fin - t.opn) ≤ 819200 := by
  generalize s.fin - t.opn = w at hW
  have a1 := Int.mul_le_mul_of_nonneg_left hW.2 (show 0 ≤ t.perTick by omega)
  have a2 := Int.mul_le_mul_of_nonneg_left hW.1 (show 0 ≤ t.perTick by omega)
  omega
 have p3 : -128 ≤ (s.fin - t.opn).tdiv 64 ∧ (s.fin - t.opn).tdiv 64 ≤ 128 := by
  generalize s.fin - t.opn = w at hW
  rcases Int.le_total 0 w with h | h
  ·rw [Int.tdiv_eq_ediv_of_nonneg h]; omega
  ·have : w.tdiv 64 = -((-w) / 64) := by rw [← Int.tdiv_eq_ediv_of_nonneg (by omega), Int.neg_tdiv, Int.neg_neg]
   rw [this]; omega
 have p4 : 0 ≤ (s.fin - t.opn).tdiv 64 * (s.fin - t.opn).tdiv 64 ∧ (s.fin - t.opn).tdiv 64 * (s.fin - t.opn).tdiv 64 ≤ 16384 := by
  generalize (s.fin - t.opn).tdiv 64 = q at p3
  refine ⟨?_, ?_⟩
  ·rcases Int.le_total 0 q with h | h
   ·exact Int.mul_nonneg h h
   ·exact Int.mul_nonneg_of_nonpos_of_nonpos h h
  ·rcases Int.le_total 0 q with h | h
   ·have := Int.mul_le_mul p3.2 p3.2 h (by omega); omega
   ·have h2 : 0 ≤ -q := by omega
    have := Int.mul_le_mul (show -q ≤ 128 by omega) (show -q ≤ 128 by omega) h2 (by omega)
    rw [Int.neg_mul_neg] at this; omega
 refine acalls_pure (fn := Tryz.f198) Tryz.func198 rfl isF198 ?_
 simp (disch := omega) only [Tryz.f198, e1, e2, htd, go_sem, seval]
 refine awp_for [3, 4, 6, 10, 11, 59, 60] (fun q : Nat × List (Int × Int) => [(61, .p (.int .i64 q.1))]) (fun q => [instO x, rteO r, .cells [.p (.bool s.rest), .p (.int .i64 s.dep), .p (.list s.times_c (s.times.map eTim)), .p (.int .i64 s.fin), .p (.int .i64 s.miles)], scoO 0 0 0 0, typO t, scoO (t.fixed + t.perMile * s.miles + t.perTick * (s.fin - t.opn)) (chgF x r.visits r.typ q.1).1 (chgF x r.visits r.typ q.1).2 ((s.fin - t.opn).tdiv 64 * (s.fin - t.opn).tdiv 64), .map (q.2.map eII)])
  (fun q => q.1 ≤ r.visits.length ∧ ∀ n, mget q.2 n = cntF r.visits q.1 n) (fun q => r.visits.length - q.1) (0, []) ⟨by simp, fun n => rfl⟩ (Weak.mk ?_) ?_
 ·simp (disch := omega) only [instO, rteO, typO, scoO, chgF, go_sem, seval]
 ·rintro ⟨k, m⟩ ⟨hk, hmg⟩
  simp only at hk hmg
  have hch := chgF_rng (x := x) (l := r.visits) (t := r.typ) k
  simp (disch := omega) only [instO, rteO, typO, scoO, go_sem, seval]
  refine acond_b (fun h1 => ?_) (fun h1 => ?_) <;> (try simp only [decide_eq_true_eq, decide_eq_false_iff_not] at h1) <;> simp (disch := omega) only [Sh.out h1, go_sem, seval]
  ·have hk2 : k < r.visits.length := by omega
   obtain ⟨v1, v2⟩ := hv _ (nth_mem hk2)
   have e3 : ¬ (nth r.visits k).order < 0 := by omega
   have e4 : ¬ (x.orders.length : Int) ≤ (nth r.visits k).order := by omega
   have v3 : (nth r.visits k).order.toNat < x.orders.length := by omega
   have hcs := cntF_succ hk2
   have hcr := cntF_rng hk (nth r.visits k).order
   have hfi := cntF_first (l := r.visits) (k := k)
   have hch2 : chgF x r.visits r.typ (k + 1) = _ := chgF.eq_2 x r.visits r.typ k
   refine look_int hT rfl ?_
   rw [hmg]
   simp (disch := omega) only [go_sem, seval]
   refine mput_int hT rfl fun m' hm' => ?_
   have hmg' : ∀ n, mget m' n = cntF r.visits (k + 1) n := fun n => by rw [hm', hcs, hmg]; split <;> simp_all
   simp (disch := omega) only [e3, e4, List.set_cons_succ, List.set_cons_zero, go_sem, seval]
   refine look_int hT rfl ?_
   rw [hm', if_pos rfl]
   simp (disch := omega) only [go_sem, seval]
   refine acond_b (fun h2 => ?_) (fun h2 => ?_) <;> (try simp only [decide_eq_true_eq, decide_eq_false_iff_not] at h2) <;> simp (disch := omega) only [Sh.out h2, go_sem, seval]
   ·have h3 : ¬ firstB r.visits k = true := by rw [hfi]; simp; omega
    rw [if_neg h3] at hch2
    exact ⟨(k + 1, m'), ⟨by simp only; omega, hmg'⟩, by simp only; omega, Weak.mk (by simp (disch := omega) only [instO, rteO, typO, scoO, hch2, go_sem, seval])⟩
   ·have h3 : firstB r.visits k = true := by rw [hfi]; simp; omega
    rw [if_pos h3] at hch2
    refine (pForeign_c (nth x.orders (nth r.visits k).order.toNat).now r.typ).use ?_
    simp (disch := omega) only [go_sem, seval]
    refine acond_b (fun h4 => ?_) (fun h4 => ?_) <;> (try simp only [decide_eq_true_eq, decide_eq_false_iff_not] at h4) <;> simp (disch := omega) only [Sh.out h4, go_sem, seval]
    ·rw [if_pos h4] at hch2
     refine (pForeign_c (nth x.orders (nth r.visits k).order.toNat).last r.typ).use ?_
     simp (disch := omega) only [go_sem, seval]
     refine acond_b (fun h5 => ?_) (fun h5 => ?_) <;> (try simp only [decide_eq_true_eq, decide_eq_false_iff_not] at h5) <;> simp (disch := omega) only [Sh.out h5, go_sem, seval]
     ·rw [if_pos h5] at hch2
      exact ⟨(k + 1, m'), ⟨by simp only; omega, hmg'⟩, by simp only; omega, Weak.mk (by simp (disch := omega) only [instO, rteO, typO, scoO, hch2, go_sem, seval])⟩
     ·rw [if_neg (by rw [h5]; simp)] at hch2
      exact ⟨(k + 1, m'), ⟨by simp only; omega, hmg'⟩, by simp only; omega, Weak.mk (by simp (disch := omega) only [instO, rteO, typO, scoO, hch2, Int.add_zero, go_sem, seval])⟩
    ·rw [if_neg (by rw [h4]; simp)] at hch2
     refine (pForeign_c (nth x.orders (nth r.visits k).order.toNat).last r.typ).use ?_
     simp (disch := omega) only [go_sem, seval]
     refine acond_b (fun h5 => ?_) (fun h5 => ?_) <;> (try simp only [decide_eq_true_eq, decide_eq_false_iff_not] at h5) <;> simp (disch := omega) only [Sh.out h5, go_sem, seval]
     ·rw [if_pos h5] at hch2
      exact ⟨(k + 1, m'), ⟨by simp only; omega, hmg'⟩, by simp only; omega, Weak.mk (by simp (disch := omega) only [instO, rteO, typO, scoO, hch2, Int.add_zero, go_sem, seval])⟩
     ·rw [if_neg (by rw [h5]; simp)] at hch2
      exact ⟨(k + 1, m'), ⟨by simp only; omega, hmg'⟩, by simp only; omega, Weak.mk (by simp (disch := omega) only [instO, rteO, typO, scoO, hch2, Int.add_zero, go_sem, seval])⟩
  ·have hkl : k = r.visits.length := by omega
   subst hkl
   rfl
end Go.Proofs.YtcdoglogglbemaaGreatDoor.K
set_option linter.unusedVariables false
set_option linter.unusedSimpArgs false
namespace Go.Proofs.YtcdoglogglbemaaGreatDoor.K
open Go Go.AM Go.Proofs
set_option maxRecDepth 8000
set_option maxHeartbeats 8000000
@[go_sem] theorem cells_fnQ {f : FuncId} : (PV.fn f).cells = [.fn f] := Eq.trans rfl rfl
def she0 : AM.Obj := .cells [.p (.bool false), .p (.int .i64 0), .p (.list true []), .p (.int .i64 0), .p (.int .i64 0)]
theorem evaluate_c (x : Inst) (r : Rte) (hx : InstOk x) (hl : r.visits.length ≤ 1048576) (hrl : r.rests.length ≤ 1048576) : ACalls Tryz.prog 133 [.p (eInst x), .p (eRte r)] [] fun y H' => y = evalT x r ∧ H' = [] := by
 have hld := ldOk_of hx
 have htl := hld.typ
 have hol := hld.ord
 have chk := pSeq_c x r hx hl
 have htb : x.types.length ≤ 6 := by have := hx.types.1; simp only [rng, decide_eq_true_eq] at this; omega
 refine acalls_weak [] (fn := Tryz.f133) Tryz.func133 rfl isF133 ?_
 simp (disch := omega) only [Tryz.f133, go_sem, seval]
 refine aguard_f (fun h1 => ?_) (fun h1 => ?_) <;> (try simp only [decide_eq_true_eq, decide_eq_false_iff_not] at h1) <;> simp (disch := omega) only [Sh.out h1, go_sem, seval]
 ·have e : ruleE x r = 2 := by rw [ruleE, if_pos (by omega)]
  rw [evalT_err (e := 2) (by rw [evalE, e]; rfl) (by omega)]
  exact ⟨_, _, Weak.mk (by simp (disch := omega) only [zShe, zSco, List.map_nil, go_sem, seval]), rfl, rfl⟩
 ·refine acond_b (fun h2 => ?_) (fun h2 => ?_) <;> (try simp only [decide_eq_true_eq, decide_eq_false_iff_not] at h2) <;> simp (disch := omega) only [Sh.out h2, go_sem, seval]
  ·have e : ruleE x r = 2 := by rw [ruleE, if_pos (by omega)]
   rw [evalT_err (e := 2) (by rw [evalE, e]; rfl) (by omega)]
   exact ⟨_, _, Weak.mk (by simp (disch := omega) only [zShe, zSco, List.map_nil, go_sem, seval]), rfl, rfl⟩
  ·have hty : 0 ≤ r.typ ∧ r.typ < (x.types.length : Int) := by omega
   have hti : r.typ.toNat < x.types.length := by omega
   have hnum := typ_nums hx hti
   have htyp : nth x.types r.typ.toNat = typR x r := rfl
   rw [htyp] at hnum
   have hsk : ∀ o ∈ x.orders, o.skills < 9223372036854775808 := fun o hm => by
    obtain ⟨i, hi, rfl⟩ := List.mem_iff_getElem.1 hm
    have := (hx.orders.2 i hi).skills
    rw [nth_get hi] at this
    omega
   refine awp_for [2, 3, 4, 5, 25, 26] (fun k : Nat => [(27, .p (.int .i64 k))]) (fun _ => [instO x, rteO r, she0, scoO 0 0 0 0, .elems 1 [.fn 194, .fn 195, .fn 196]])
    (fun k => k ≤ 3 ∧ (0 < k → seqChk x r.visits = 0) ∧ (1 < k → ¬ (r.visits.any fun v => !ableB (typR x r) (nth x.orders v.order.toNat).skills) = true) ∧ (2 < k → loadB x (typR x r).cap r.visits = true)) (fun k => 3 - k) 0 ⟨by omega, by omega, by omega, by omega⟩ (Weak.mk ?_) ?_
   ·simp (disch := omega) only [instO, rteO, scoO, she0, go_sem, seval]
   ·rintro k ⟨hk, k1, k2, k3⟩
    simp (disch := omega) only [instO, rteO, scoO, she0, go_sem, seval]
    refine acond_b (fun h3 => ?_) (fun h3 => ?_) <;> (try simp only [decide_eq_true_eq, decide_eq_false_iff_not] at h3) <;> simp (disch := omega) only [Sh.out h3, go_sem, seval]
    ·by_cases hk0 : k = 0
     ·subst hk0
      have he : elt [PV.fn 194, PV.fn 195, PV.fn 196] 0 = PV.fn 194 := rfl
      simp (disch := first | omega | (simp only [List.length_cons, List.length_nil, List.length_append, List.length_map, List.length_take, List.length_drop] <;> omega)) only [he, go_sem, seval]
      refine (chk).use ?_
      simp (disch := omega) only [go_sem, seval]
      refine acond_b (fun h4 => ?_) (fun h4 => ?_) <;> (try simp only [decide_eq_true_eq, decide_eq_false_iff_not] at h4) <;> simp (disch := omega) only [Sh.out h4, go_sem, seval]
      ·have e : ruleE x r = seqChk x r.visits := by rw [ruleE, if_neg (fun h => h hty), if_pos h4]
       rw [evalT_err (e := seqChk x r.visits) (by rw [evalE, e, if_neg h4]) h4]
       exact ⟨_, _, Weak.mk (by simp (disch := omega) only [zShe, zSco, List.map_nil, go_sem, seval]), rfl, rfl⟩
      ·exact ⟨1, ⟨by omega, fun _ => by omega, by omega, by omega⟩, by omega, Weak.mk (by simp (disch := omega) only [instO, rteO, scoO, she0, go_sem, seval])⟩
     ·have h0 := k1 (by omega)
      have hsq := sqOk_of h0
      have hr0 : ruleE x r = if (r.visits.any fun v => !ableB (typR x r) (nth x.orders v.order.toNat).skills) = true then 18 else if loadB x (typR x r).cap r.visits = false then 17 else if ¬ (0 ≤ r.start ∧ r.start ≤ 4096 ∧ r.rests.length ≤ r.visits.length + 1) then 2 else 0 := by
       rw [ruleE, if_neg (fun h => h hty), if_neg (by omega)]
      by_cases hk1 : k = 1
      ·subst hk1
       have he : elt [PV.fn 194, PV.fn 195, PV.fn 196] 1 = PV.fn 195 := rfl
       simp (disch := first | omega | (simp only [List.length_cons, List.length_nil, List.length_append, List.length_map, List.length_take, List.length_drop] <;> omega)) only [he, go_sem, seval]
       refine (pRAble_c x r hty (fun v hv => by have := hsq.inr v hv; simp [inB, this.1, this.2]) hl htl (by omega) (by omega) hsk).use ?_
       simp (disch := omega) only [go_sem, seval]
       by_cases h5 : (r.visits.any fun v => !ableB (typR x r) (nth x.orders v.order.toNat).skills) = true
       ·rw [if_pos h5] at hr0 ⊢
        rw [evalT_err (e := 18) (by rw [evalE, hr0]; rfl) (by omega)]
        simp (disch := omega) only [go_sem, seval]
        exact ⟨_, _, Weak.mk (by simp (disch := omega) only [zShe, zSco, List.map_nil, go_sem, seval]), rfl, rfl⟩
       ·rw [if_neg h5]
        simp (disch := omega) only [go_sem, seval]
        exact ⟨2, ⟨by omega, fun _ => h0, fun _ => h5, by omega⟩, by omega, Weak.mk (by simp (disch := omega) only [instO, rteO, scoO, she0, go_sem, seval])⟩
      ·have hk2 : k = 2 := by omega
       subst hk2
       have he : elt [PV.fn 194, PV.fn 195, PV.fn 196] 2 = PV.fn 196 := rfl
       simp (disch := first | omega | (simp only [List.length_cons, List.length_nil, List.length_append, List.length_map, List.length_take, List.length_drop] <;> omega)) only [he, go_sem, seval]
       refine (pCFits_c x r hx hl hty h0).use ?_
       simp (disch := omega) only [go_sem, seval]
       rw [if_neg (k2 (by omega))] at hr0
       cases h5 : loadB x (typR x r).cap r.visits with
       | false =>
        rw [if_pos h5] at hr0
        rw [evalT_err (e := 17) (by rw [evalE, hr0]; rfl) (by omega)]
        simp only [Bool.false_eq_true, if_false]
        simp (disch := omega) only [go_sem, seval]
        exact ⟨_, _, Weak.mk (by simp (disch := omega) only [zShe, zSco, List.map_nil, go_sem, seval]), rfl, rfl⟩
       | true =>
        simp only [if_true]
        simp (disch := omega) only [go_sem, seval]
        exact ⟨3, ⟨by omega, fun _ => h0, fun _ => k2 (by omega), fun _ => by first | exact h5 | trivial⟩, by omega, Weak.mk (by simp (disch := omega) only [instO, rteO, scoO, she0, go_sem, seval])⟩
    ·have hk3 : k = 3 := by omega
     subst hk3
     have h0 := k1 (by omega)
     have hsq := sqOk_of h0
     have hr0 : ruleE x r = if ¬ (0 ≤ r.start ∧ r.start ≤ 4096 ∧ r.rests.length ≤ r.visits.length + 1) then 2 else 0 := by
      rw [ruleE, if_neg (fun h => h hty), if_neg (by omega), if_neg (k2 (by omega)), if_neg (by rw [k3 (by omega)]; simp)]
     have cb := pBest_c x r hx hl hrl hty h0
     have hok := trpOk_of hx hty hsq
     have hbr : bestV x r = bestR x r → (bestR x r).2 = 0 → (0 ≤ r.start ∧ r.start ≤ 4096 ∧ r.rests.length ≤ r.visits.length + 1) → (0 ≤ (bestR x r).1.fin ∧ (bestR x r).1.fin ≤ 8192) ∧ (0 ≤ (bestR x r).1.miles ∧ (bestR x r).1.miles ≤ 210000) := fun _ hz hs =>
      best_rng hok ⟨hs.1, hs.2.1⟩ (by rw [stopsF_len]; exact hs.2.2) hz
     by_cases h6 : 0 ≤ r.start ∧ r.start ≤ 4096 ∧ r.rests.length ≤ r.visits.length + 1
     ·have e : ruleE x r = 0 := by rw [hr0, if_neg (fun h => h h6)]
      have ee : evalE x r = (bestR x r).2 := by rw [evalE, if_pos e]
      have eb : bestV x r = bestR x r := by rw [bestV, if_pos h6]
      have hbr := fun hz => hbr eb hz h6
      rw [eb] at cb
      have es : evalS x r = if (bestR x r).2 = 0 then (bestR x r).1 else zShe := by rw [evalS, ee]
      have ep : evalP x r = if (bestR x r).2 = 0 then scoF x r (bestR x r).1 else zSco := by rw [evalP, ee]
      unfold evalT
      rw [ee, es, ep]
      clear ee es ep eb
      generalize bestR x r = q at *
      obtain ⟨sh, eb⟩ := q
      simp only at cb hbr ⊢
      refine useT' cb ?_
      simp (disch := omega) only [go_sem, seval]
      refine acond_b (fun h7 => ?_) (fun h7 => ?_) <;> (try simp only [decide_eq_true_eq, decide_eq_false_iff_not] at h7) <;> simp (disch := omega) only [Sh.out h7, go_sem, seval]
      ·exact ⟨_, _, Weak.mk (by simp (disch := omega) only [zShe, zSco, List.map_nil, go_sem, seval]), rfl, rfl⟩
      ·have h7' : eb = 0 := by omega
       try rw [if_pos h7', if_pos h7']
       subst h7'
       obtain ⟨g1, g2⟩ := hbr rfl
       refine awp_drawnS 5 mixed (by kernel_rfl) (by kernel_rfl) ?_
       simp (disch := omega) only [go_sem, seval]
       refine exq_call (pRoute_c x r sh hty (by omega) htl hl hsq.inr hnum.2.2.2.1 (by omega) (by omega) (by omega)) ?_
       simp (disch := omega) only [go_sem, seval]
       exact ⟨_, _, Weak.mk (by simp (disch := omega) only [go_sem, seval]), rfl, rfl⟩
     ·have e : ruleE x r = 2 := by rw [hr0, if_pos h6]
      have eb : bestV x r = (zShe, 2) := by rw [bestV, if_neg h6]
      rw [evalT_err (e := 2) (by rw [evalE, e]; rfl) (by omega)]
      rw [eb] at cb
      refine useT' cb ?_
      simp (disch := omega) only [go_sem, seval]
      exact ⟨_, _, Weak.mk (by simp (disch := omega) only [zShe, zSco, List.map_nil, go_sem, seval]), rfl, rfl⟩
theorem eval_typ {x : Inst} {r : Rte} (h : evalE x r = 0) : ruleE x r = 0 := by
 unfold evalE at h
 split at h
 ·assumption
 ·rename_i c; exact absurd h c
theorem ruleE_typ {x : Inst} {r : Rte} (h : ruleE x r = 0) : (0 ≤ r.typ ∧ r.typ < (x.types.length : Int)) ∧ seqChk x r.visits = 0 ∧ (0 ≤ r.start ∧ r.start ≤ 4096 ∧ r.rests.length ≤ r.visits.length + 1) := by
 unfold ruleE at h
 split at h
 ·simp at h
 ·rename_i c1
  split at h
  ·rename_i c2; exact absurd h c2
  ·rename_i c2
   split at h
   ·simp at h
   ·split at h
    ·simp at h
    ·split at h
     ·simp at h
     ·rename_i c5
      exact ⟨by omega, by omega, Classical.not_not.1 c5⟩
theorem eval_rng {x : Inst} {r : Rte} (hx : InstOk x) (h : evalE x r = 0) : (0 ≤ (evalS x r).fin ∧ (evalS x r).fin ≤ 8192) ∧ (0 ≤ (evalS x r).miles ∧ (evalS x r).miles ≤ 210000) := by
 obtain ⟨hty, h0, hs⟩ := ruleE_typ (eval_typ h)
 have e : evalS x r = (bestR x r).1 := by rw [evalS, if_pos h]
 have ee : (bestR x r).2 = 0 := by rw [evalE, if_pos (eval_typ h)] at h; exact h
 rw [e]
 exact best_rng (trpOk_of hx hty (sqOk_of h0)) ⟨hs.1, hs.2.1⟩ (by rw [stopsF_len]; exact hs.2.2) ee
end Go.Proofs.YtcdoglogglbemaaGreatDoor.K
set_option linter.unusedVariables false
set_option linter.unusedSimpArgs false
namespace Go.Proofs.YtcdoglogglbemaaGreatDoor.K
open Go Go.AM Go.Proofs
set_option maxRecDepth 8000
set_option maxHeartbeats 8000000
theorem aidxB_arr {P : Program} {e : TypeId} {k : Nat} {cs : List PV} {kk : IntKind} {n : Int} {x : PV} (h0 : 0 ≤ n) (h1 : n < k) (hx : apart P e cs n.toNat = some x) (ht : tsz P e = some 1) : aidxB P (some (.array k e)) (.p (.agg cs)) (.p (.int kk n)) = some (.p x) := by
 simp only [aidxB, if_pos (show 0 ≤ n ∧ n < (k : Int) from ⟨h0, h1⟩), ht, Nat.mul_one, hx]; rfl
def arrS (s : Sco) : PV := .agg [.int .i64 s.cost, .int .i64 s.moved, .int .i64 s.other, .int .i64 s.work]
@[go_sem] theorem arrS_eq (s : Sco) : arrS s = .agg [.int .i64 s.cost, .int .i64 s.moved, .int .i64 s.other, .int .i64 s.work] := Eq.trans rfl rfl
theorem pSplit_c (s : Sco) : ACalls Tryz.prog 136 [.p (eSco s)] [] fun y H' => y = .p (arrS s) ∧ H' = [] := by
 refine acalls_weak [] (fn := Tryz.f136) Tryz.func136 rfl isF136 ?_
 simp (disch := omega) only [Tryz.f136, go_sem, seval]
 exact ⟨_, _, Weak.mk (by simp (disch := omega) only [go_sem, seval]), rfl, rfl⟩
theorem pJoin_c (s : Sco) : ACalls Tryz.prog 199 [.p (arrS s)] [] fun y H' => y = .p (eSco s) ∧ H' = [] := by
 refine acalls_weak [] (fn := Tryz.f199) Tryz.func199 rfl isF199 ?_
 simp (disch := omega) only [Tryz.f199, go_sem, seval]
 exact ⟨_, _, Weak.mk (by simp (disch := omega) only [go_sem, seval]), rfl, rfl⟩
def scoAdd (a b : Sco) : Sco := ⟨a.cost + b.cost, a.moved + b.moved, a.other + b.other, a.work + b.work⟩
def scoR (B : Int) (s : Sco) : Prop := (-B ≤ s.cost ∧ s.cost ≤ B) ∧ (-B ≤ s.moved ∧ s.moved ≤ B) ∧ (-B ≤ s.other ∧ s.other ≤ B) ∧ (-B ≤ s.work ∧ s.work ≤ B)
def sumO (a b : Sco) (k : Nat) : AM.Obj := .cells [.p (.int .i64 (if 0 < k then a.cost + b.cost else a.cost)), .p (.int .i64 (if 1 < k then a.moved + b.moved else a.moved)), .p (.int .i64 (if 2 < k then a.other + b.other else a.other)), .p (.int .i64 (if 3 < k then a.work + b.work else a.work))]
def arrO (s : Sco) : AM.Obj := .cells [.p (.int .i64 s.cost), .p (.int .i64 s.moved), .p (.int .i64 s.other), .p (.int .i64 s.work)]
theorem pPAdd_c (a b : Sco) (ha : scoR 1152921504606846976 a) (hb : scoR 1152921504606846976 b) : ACalls Tryz.prog 134 [.p (eSco a), .p (eSco b)] [] fun y H' => y = .p (eSco (scoAdd a b)) ∧ H' = [] := by
 obtain ⟨a1, a2, a3, a4⟩ := ha
 obtain ⟨b1, b2, b3, b4⟩ := hb
 refine acalls_weak [1] (fn := Tryz.f134) Tryz.func134 rfl isF134 ?_
 simp (disch := omega) only [Tryz.f134, go_sem, seval]
 refine awp_join [4] (fun c : Bool => [(5, .ptr (if c = true then 3 else 4) 0), (6, .ptr (if c = true then 4 else 3) 0)]) (fun c => [arrO a, arrO b, arrO zSco, if c = true then arrO a else arrO b, if c = true then arrO b else arrO a]) (fun _ => True) ?_ ?_
 ·simp (disch := omega) only [go_sem, seval]
  refine awp_drawnT [4, 5] 6 mixed (by kernel_rfl) (by kernel_rfl) (by kernel_rfl) (by simp) ?_
  simp (disch := omega) only [go_sem, seval]
  refine exq_call (pSplit_c a) ?_
  simp (disch := omega) only [go_sem, seval]
  refine exq_call (pSplit_c b) ?_
  simp (disch := omega) only [go_sem, seval]
  refine lateT_two 4 5 _ _ _ _ (by kernel_rfl) (by simp (disch := omega) only [go_sem, seval]; exact ⟨rfl, rfl⟩) (by simp (disch := omega) only [go_sem, seval]; exact ⟨rfl, rfl⟩) ?_ ?_
  ·refine lateT_one 5 _ _ (by kernel_rfl) (by simp (disch := omega) only [go_sem, seval]; exact ⟨rfl, rfl⟩) (lateT_z ?_)
   simp (disch := omega) only [go_sem, seval]
   exact ⟨true, Weak.mk (by simp (disch := omega) only [arrO, zSco, go_sem, seval])⟩
  ·refine lateT_one 4 _ _ (by kernel_rfl) (by simp (disch := omega) only [go_sem, seval]; exact ⟨rfl, rfl⟩) (lateT_z ?_)
   simp (disch := omega) only [go_sem, seval]
   exact ⟨false, Weak.mk (by simp (disch := omega) only [arrO, zSco, Bool.false_eq_true, go_sem, seval])⟩
 ·intro c _
  cases c <;>
  (simp only [Bool.false_eq_true, if_true, if_false]
   refine awp_sound [] _ _ _ _ ?_
   simp (disch := omega) only [arrO, zSco, go_sem, seval])
  ·refine awp_for [4, 5, 6] (fun k : Nat => [(12, .p (.int .i64 k))]) (fun k => [arrO a, arrO b, arrO zSco, arrO b, sumO a b k]) (fun k => k ≤ 4) (fun k => 4 - k) 0 (by omega) (Weak.mk ?_) ?_
   ·simp (disch := omega) only [arrO, sumO, zSco, go_sem, seval]
   ·intro k hk
    simp (disch := omega) only [arrO, sumO, zSco, go_sem, seval]
    refine acond_b (fun h1 => ?_) (fun h1 => ?_) <;> (try simp only [decide_eq_true_eq, decide_eq_false_iff_not] at h1) <;> simp (disch := omega) only [Sh.out h1, go_sem, seval]
    ·have : k = 0 ∨ k = 1 ∨ k = 2 ∨ k = 3 := by omega
     rcases this with rfl | rfl | rfl | rfl
     ·refine awp_drawnS 7 mixed (by kernel_rfl) (by kernel_rfl) ?_
      simp (disch := omega) only [go_sem, seval]
      exact ⟨1, by omega, by omega, Weak.mk (by simp (disch := omega) only [arrO, sumO, zSco, go_sem, seval])⟩
     ·refine awp_drawnS 7 mixed (by kernel_rfl) (by kernel_rfl) ?_
      simp (disch := omega) only [go_sem, seval]
      exact ⟨2, by omega, by omega, Weak.mk (by simp (disch := omega) only [arrO, sumO, zSco, go_sem, seval])⟩
     ·refine awp_drawnS 7 mixed (by kernel_rfl) (by kernel_rfl) ?_
      simp (disch := omega) only [go_sem, seval]
      exact ⟨3, by omega, by omega, Weak.mk (by simp (disch := omega) only [arrO, sumO, zSco, go_sem, seval])⟩
     ·refine awp_drawnS 7 mixed (by kernel_rfl) (by kernel_rfl) ?_
      simp (disch := omega) only [go_sem, seval]
      exact ⟨4, by omega, by omega, Weak.mk (by simp (disch := omega) only [arrO, sumO, zSco, go_sem, seval])⟩
    ·have hk4 : k = 4 := by omega
     subst hk4
     refine (pJoin_c (scoAdd a b)).use ?_
     simp (disch := omega) only [go_sem, seval]
     exact ⟨_, _, Weak.mk (by simp (disch := omega) only [go_sem, seval]), rfl, rfl⟩
  ·refine awp_for [4, 5, 6] (fun k : Nat => [(12, .p (.int .i64 k))]) (fun k => [arrO a, arrO b, arrO zSco, sumO a b k, arrO b]) (fun k => k ≤ 4) (fun k => 4 - k) 0 (by omega) (Weak.mk ?_) ?_
   ·simp (disch := omega) only [arrO, sumO, zSco, go_sem, seval]
   ·intro k hk
    simp (disch := omega) only [arrO, sumO, zSco, go_sem, seval]
    refine acond_b (fun h1 => ?_) (fun h1 => ?_) <;> (try simp only [decide_eq_true_eq, decide_eq_false_iff_not] at h1) <;> simp (disch := omega) only [Sh.out h1, go_sem, seval]
    ·have : k = 0 ∨ k = 1 ∨ k = 2 ∨ k = 3 := by omega
     rcases this with rfl | rfl | rfl | rfl
     ·refine awp_drawnS 7 mixed (by kernel_rfl) (by kernel_rfl) ?_
      simp (disch := omega) only [go_sem, seval]
      exact ⟨1, by omega, by omega, Weak.mk (by simp (disch := omega) only [arrO, sumO, zSco, go_sem, seval])⟩
     ·refine awp_drawnS 7 mixed (by kernel_rfl) (by kernel_rfl) ?_
      simp (disch := omega) only [go_sem, seval]
      exact ⟨2, by omega, by omega, Weak.mk (by simp (disch := omega) only [arrO, sumO, zSco, go_sem, seval])⟩
     ·refine awp_drawnS 7 mixed (by kernel_rfl) (by kernel_rfl) ?_
      simp (disch := omega) only [go_sem, seval]
      exact ⟨3, by omega, by omega, Weak.mk (by simp (disch := omega) only [arrO, sumO, zSco, go_sem, seval])⟩
     ·refine awp_drawnS 7 mixed (by kernel_rfl) (by kernel_rfl) ?_
      simp (disch := omega) only [go_sem, seval]
      exact ⟨4, by omega, by omega, Weak.mk (by simp (disch := omega) only [arrO, sumO, zSco, go_sem, seval])⟩
    ·have hk4 : k = 4 := by omega
     subst hk4
     refine (pJoin_c (scoAdd a b)).use ?_
     simp (disch := omega) only [go_sem, seval]
     exact ⟨_, _, Weak.mk (by simp (disch := omega) only [go_sem, seval]), rfl, rfl⟩
def wgtF (s : Sco) : Int × Int := if s.cost < 0 ∨ s.moved < 0 ∨ s.other < 0 ∨ s.work < 0 then (0, 2) else if 1073741824 < s.cost ∨ 16 ≤ s.moved ∨ 16 ≤ s.other ∨ 65536 ≤ s.work then (0, 4) else (((s.cost * 16 + s.moved) * 16 + s.other) * 65536 + s.work, 0)
theorem pWeight_c (s : Sco) (hs : scoR 1152921504606846976 s) : ACalls Tryz.prog 85 [.p (eSco s)] [] fun y H' => y = .tup [.p (.int .i64 (wgtF s).1), .p (.int .i64 (wgtF s).2)] ∧ H' = [] := by
 obtain ⟨a1, a2, a3, a4⟩ := hs
 refine acalls_weak [] (fn := Tryz.f85) Tryz.func85 rfl isF85 ?_
 simp (disch := omega) only [Tryz.f85, go_sem, seval]
 refine (pSplit_c s).use ?_
 simp (disch := omega) only [go_sem, seval]
 refine awp_for [1, 9] (fun k : Nat => [(10, .p (.int .i64 k))]) (fun _ => [arrO s, arrO s]) (fun k => k ≤ 4 ∧ (0 < k → 0 ≤ s.cost) ∧ (1 < k → 0 ≤ s.moved) ∧ (2 < k → 0 ≤ s.other) ∧ (3 < k → 0 ≤ s.work)) (fun k => 4 - k) 0 ⟨by omega, by omega, by omega, by omega, by omega⟩ (Weak.mk ?_) ?_
 ·simp (disch := omega) only [arrO, go_sem, seval]
 ·rintro k ⟨hk, k1, k2, k3, k4⟩
  simp (disch := omega) only [arrO, go_sem, seval]
  refine acond_b (fun h1 => ?_) (fun h1 => ?_) <;> (try simp only [decide_eq_true_eq, decide_eq_false_iff_not] at h1) <;> simp (disch := omega) only [Sh.out h1, go_sem, seval]
  ·have : k = 0 ∨ k = 1 ∨ k = 2 ∨ k = 3 := by omega
   rcases this with rfl | rfl | rfl | rfl
   ·rw [aidxB_arr (x := .int .i64 s.cost) (by omega) (by omega) (by rfl) (by kernel_rfl)]
    simp (disch := omega) only [go_sem, seval]
    refine acond_b (fun h2 => ?_) (fun h2 => ?_) <;> (try simp only [decide_eq_true_eq, decide_eq_false_iff_not] at h2) <;> simp (disch := omega) only [Sh.out h2, go_sem, seval]
    ·have e : wgtF s = (0, 2) := by rw [wgtF, if_pos (by omega)]
     rw [e]
     exact ⟨_, _, Weak.mk (by simp (disch := omega) only [go_sem, seval]), rfl, rfl⟩
    ·exact ⟨1, ⟨by omega, fun _ => by omega, by omega, by omega, by omega⟩, by omega, Weak.mk (by simp (disch := omega) only [arrO, go_sem, seval])⟩
   ·rw [aidxB_arr (x := .int .i64 s.moved) (by omega) (by omega) (by rfl) (by kernel_rfl)]
    simp (disch := omega) only [go_sem, seval]
    refine acond_b (fun h2 => ?_) (fun h2 => ?_) <;> (try simp only [decide_eq_true_eq, decide_eq_false_iff_not] at h2) <;> simp (disch := omega) only [Sh.out h2, go_sem, seval]
    ·have e : wgtF s = (0, 2) := by rw [wgtF, if_pos (by omega)]
     rw [e]
     exact ⟨_, _, Weak.mk (by simp (disch := omega) only [go_sem, seval]), rfl, rfl⟩
    ·exact ⟨2, ⟨by omega, fun _ => k1 (by omega), fun _ => by omega, by omega, by omega⟩, by omega, Weak.mk (by simp (disch := omega) only [arrO, go_sem, seval])⟩
   ·rw [aidxB_arr (x := .int .i64 s.other) (by omega) (by omega) (by rfl) (by kernel_rfl)]
    simp (disch := omega) only [go_sem, seval]
    refine acond_b (fun h2 => ?_) (fun h2 => ?_) <;> (try simp only [decide_eq_true_eq, decide_eq_false_iff_not] at h2) <;> simp (disch := omega) only [Sh.out h2, go_sem, seval]
    ·have e : wgtF s = (0, 2) := by rw [wgtF, if_pos (by omega)]
     rw [e]
     exact ⟨_, _, Weak.mk (by simp (disch := omega) only [go_sem, seval]), rfl, rfl⟩
    ·exact ⟨3, ⟨by omega, fun _ => k1 (by omega), fun _ => k2 (by omega), fun _ => by omega, by omega⟩, by omega, Weak.mk (by simp (disch := omega) only [arrO, go_sem, seval])⟩
   ·rw [aidxB_arr (x := .int .i64 s.work) (by omega) (by omega) (by rfl) (by kernel_rfl)]
    simp (disch := omega) only [go_sem, seval]
    refine acond_b (fun h2 => ?_) (fun h2 => ?_) <;> (try simp only [decide_eq_true_eq, decide_eq_false_iff_not] at h2) <;> simp (disch := omega) only [Sh.out h2, go_sem, seval]
    ·have e : wgtF s = (0, 2) := by rw [wgtF, if_pos (by omega)]
     rw [e]
     exact ⟨_, _, Weak.mk (by simp (disch := omega) only [go_sem, seval]), rfl, rfl⟩
    ·exact ⟨4, ⟨by omega, fun _ => k1 (by omega), fun _ => k2 (by omega), fun _ => k3 (by omega), fun _ => by omega⟩, by omega, Weak.mk (by simp (disch := omega) only [arrO, go_sem, seval])⟩
  ·have hk4 : k = 4 := by omega
   subst hk4
   have g1 := k1 (by omega)
   have g2 := k2 (by omega)
   have g3 := k3 (by omega)
   have g4 := k4 (by omega)
   have n1 : ¬ (s.cost < 0 ∨ s.moved < 0 ∨ s.other < 0 ∨ s.work < 0) := by omega
   have bad : (1073741824 < s.cost ∨ 16 ≤ s.moved ∨ 16 ≤ s.other ∨ 65536 ≤ s.work) → wgtF s = (0, 4) := fun h => by rw [wgtF, if_neg n1, if_pos h]
   refine aguard_f (fun h2 => ?_) (fun h2 => ?_) <;> (try simp only [decide_eq_true_eq, decide_eq_false_iff_not] at h2) <;> simp (disch := omega) only [Sh.out h2, go_sem, seval]
   ·rw [bad (by omega)]
    exact ⟨_, _, Weak.mk (by simp (disch := omega) only [go_sem, seval]), rfl, rfl⟩
   ·refine aguard_f (fun h3 => ?_) (fun h3 => ?_) <;> (try simp only [decide_eq_true_eq, decide_eq_false_iff_not] at h3) <;> simp (disch := omega) only [Sh.out h3, go_sem, seval]
    ·rw [bad (by omega)]
     exact ⟨_, _, Weak.mk (by simp (disch := omega) only [go_sem, seval]), rfl, rfl⟩
    ·refine aguard_f (fun h4 => ?_) (fun h4 => ?_) <;> (try simp only [decide_eq_true_eq, decide_eq_false_iff_not] at h4) <;> simp (disch := omega) only [Sh.out h4, go_sem, seval]
     ·rw [bad (by omega)]
      exact ⟨_, _, Weak.mk (by simp (disch := omega) only [go_sem, seval]), rfl, rfl⟩
     ·refine acond_b (fun h5 => ?_) (fun h5 => ?_) <;> (try simp only [decide_eq_true_eq, decide_eq_false_iff_not] at h5) <;> simp (disch := omega) only [Sh.out h5, go_sem, seval]
      ·rw [bad (by omega)]
       exact ⟨_, _, Weak.mk (by simp (disch := omega) only [go_sem, seval]), rfl, rfl⟩
      ·have e : wgtF s = (((s.cost * 16 + s.moved) * 16 + s.other) * 65536 + s.work, 0) := by rw [wgtF, if_neg n1, if_neg (by omega)]
       rw [e]
       exact ⟨_, _, Weak.mk (by simp (disch := omega) only [go_sem, seval]), rfl, rfl⟩
end Go.Proofs.YtcdoglogglbemaaGreatDoor.K
set_option linter.unusedVariables false
set_option linter.unusedSimpArgs false
namespace Go.Proofs.YtcdoglogglbemaaGreatDoor.K
open Go Go.AM Go.Proofs
set_option maxRecDepth 8000
set_option maxHeartbeats 8000000
def swpL (l : List Int) (j : Nat) : List Int := (l.set j (nth l (j - 1))).set (j - 1) (nth l j)
theorem swpL_len {l : List Int} {j : Nat} : (swpL l j).length = l.length := by simp [swpL]
theorem swpL_perm {l : List Int} {j : Nat} (h : j < l.length) : (swpL l j).Perm l := by
 have h1 : j - 1 < l.length := by omega
 rw [swpL, nth_get h, nth_get h1]
 exact List.set_set_perm h h1
theorem swpL_nth {l : List Int} {j q : Nat} (hj : 0 < j) (h : j < l.length) (hq : q < l.length) : nth (swpL l j) q = if q = j then nth l (j - 1) else if q = j - 1 then nth l j else nth l q := by
 rw [nth_get (by rw [swpL_len]; exact hq)]
 simp only [swpL, List.getElem_set]
 by_cases c1 : q = j
 ·subst c1
  rw [if_neg (by omega), if_pos rfl, if_pos rfl]
 ·rw [if_neg c1]
  by_cases c2 : q = j - 1
  ·subst c2; rw [if_pos rfl, if_pos rfl]
  ·rw [if_neg (fun e => c2 e.symm), if_neg c2, if_neg (fun e => c1 e.symm), nth_get hq]
end Go.Proofs.YtcdoglogglbemaaGreatDoor.K
set_option linter.unusedVariables false
set_option linter.unusedSimpArgs false
namespace Go.Proofs.YtcdoglogglbemaaGreatDoor.K
open Go Go.AM Go.Proofs
set_option maxRecDepth 8000
set_option maxHeartbeats 8000000
theorem ord10 {x : Inst} (hx : InstOk x) : x.orders.length ≤ 10 := by have := hx.orders.1; omega
end Go.Proofs.YtcdoglogglbemaaGreatDoor.K
set_option linter.unusedVariables false
set_option linter.unusedSimpArgs false
namespace Go.Proofs.YtcdoglogglbemaaGreatDoor.K
open Go Go.AM Go.Proofs
set_option maxRecDepth 8000
set_option maxHeartbeats 8000000
theorem pln_rte {p : Pln} (hp : p.wf 1048576) : ∀ r ∈ p.routes, rteB r := fun r hr => by
 obtain ⟨_, _, w1, _, w2, _⟩ := hp.2.1 r hr
 exact ⟨w2, w1⟩
end Go.Proofs.YtcdoglogglbemaaGreatDoor.K
set_option linter.unusedVariables false
set_option linter.unusedSimpArgs false
namespace Go.Proofs.YtcdoglogglbemaaGreatDoor.K
open Go Go.AM Go.Proofs
set_option maxRecDepth 8000
set_option maxHeartbeats 8000000
theorem evalP_rng {x : Inst} {r : Rte} (hx : InstOk x) (hl : r.visits.length ≤ 1048576) (h : evalE x r = 0) : scoR 1073741824 (evalP x r) := by
 have hg := eval_rng hx h
 obtain ⟨hty, _, _⟩ := ruleE_typ (eval_typ h)
 have hnum := typ_nums hx (show r.typ.toNat < x.types.length by omega)
 have htyp : nth x.types r.typ.toNat = typR x r := rfl
 rw [htyp] at hnum
 have e : (bestR x r).1 = evalS x r := by rw [evalS, if_pos h]
 have hch := chgF_rng (x := x) (l := r.visits) (t := r.typ) r.visits.length
 rw [evalP, if_pos h, e]
 unfold scoF scoR
 generalize evalS x r = s at *
 generalize typR x r = t at *
 have p1 : 0 ≤ t.perMile * s.miles ∧ t.perMile * s.miles ≤ 100 * 210000 := ⟨Int.mul_nonneg (by omega) (by omega), Int.mul_le_mul (by omega) (by omega) (by omega) (by omega)⟩
 have hW : -8192 ≤ s.fin - t.opn ∧ s.fin - t.opn ≤ 8192 := by omega
 have p2 : -819200 ≤ t.perTick * (s.fin - t.opn) ∧ t.perTick * (s.fin - t.opn) ≤ 819200 := by
  generalize s.fin - t.opn = w at hW
  have a1 := Int.mul_le_mul_of_nonneg_left hW.2 (show 0 ≤ t.perTick by omega)
  have a2 := Int.mul_le_mul_of_nonneg_left hW.1 (show 0 ≤ t.perTick by omega)
  omega
 have p3 : -128 ≤ (s.fin - t.opn).tdiv 64 ∧ (s.fin - t.opn).tdiv 64 ≤ 128 := by
  generalize s.fin - t.opn = w at hW
  rcases Int.le_total 0 w with h | h
  ·rw [Int.tdiv_eq_ediv_of_nonneg h]; omega
  ·have : w.tdiv 64 = -((-w) / 64) := by rw [← Int.tdiv_eq_ediv_of_nonneg (by omega), Int.neg_tdiv, Int.neg_neg]
   rw [this]; omega
 have p4 : 0 ≤ (s.fin - t.opn).tdiv 64 * (s.fin - t.opn).tdiv 64 ∧ (s.fin - t.opn).tdiv 64 * (s.fin - t.opn).tdiv 64 ≤ 16384 := by
  generalize (s.fin - t.opn).tdiv 64 = q at p3
  refine ⟨?_, ?_⟩
  ·rcases Int.le_total 0 q with h | h
   ·exact Int.mul_nonneg h h
   ·exact Int.mul_nonneg_of_nonpos_of_nonpos h h
  ·rcases Int.le_total 0 q with h | h
   ·have := Int.mul_le_mul p3.2 p3.2 h (by omega); omega
   ·have h2 : 0 ≤ -q := by omega
    have := Int.mul_le_mul (show -q ≤ 128 by omega) (show -q ≤ 128 by omega) h2 (by omega)
    rw [Int.neg_mul_neg] at this; omega
 simp only
 omega
theorem scoR_mono {a : Sco} {B C : Int} (h : B ≤ C) (ha : scoR B a) : scoR C a := by
 simp only [scoR] at *
 omega
end Go.Proofs.YtcdoglogglbemaaGreatDoor.K
set_option linter.unusedVariables false
set_option linter.unusedSimpArgs false
namespace Go.Proofs.YtcdoglogglbemaaGreatDoor.K
open Go Go.AM Go.Proofs
set_option maxRecDepth 8000
set_option maxHeartbeats 8000000
theorem exq_callP {P : Program} {H0 L : List AM.Obj} {f : FuncId} {gs : List V} {z : PV} {B : V → Prop} {t} (h : ACalls P f gs H0 fun x H' => x = .p z ∧ H' = H0) (k : B (.p z)) (ha : refBs H0.length gs = true) (hf : refH H0.length H0 = true) :
  exq (fun y => ACalls P f gs (H0 ++ L) (hide (hide (fun x H' => x = y ∧ H' = H0 ++ L) ⟨⟩) ⟨⟩)) (hide B t) :=
 ⟨.p z, h.useP rfl ⟨rfl, rfl⟩ ha hf, k⟩
def tkH (a b : AM.Obj) (g : FuncId) (caps : List V) (m : List Int) : List AM.Obj := [a, b, .cells [.fn (.func g) [] caps], .elems 1 (m.map eI)]
structure Two (a b : AM.Obj) (caps : List V) : Prop where
 wa : ∀ H n, 2 ≤ n → wkO H n a a
 wb : ∀ H n, 2 ≤ n → wkO H n b b
 wc : ∀ n, 2 ≤ n → refBs n caps = true
 wf : refH 2 [a, b] = true
theorem exq_call0 {P : Program} {H : List AM.Obj} {f : FuncId} {gs : List V} {z : PV} {B : V → Prop} {t} (h : ACalls P f gs H fun x H' => x = .p z ∧ H' = H) (k : B (.p z)) :
  exq (fun y => ACalls P f gs H (hide (hide (fun x H' => x = y ∧ H' = H) ⟨⟩) ⟨⟩)) (hide B t) := ⟨.p z, h, k⟩
theorem take1_c {a b : AM.Obj} {g : FuncId} {caps : List V} {v : Int → Int} (w : Two a b caps) (m : List Int) (p q : Int)
  (hp : ACalls Tryz.prog g (.p (eI p) :: caps) [a, b] fun x H' => x = .p (eI (v p)) ∧ H' = [a, b]) (hq : ACalls Tryz.prog g (.p (eI q) :: caps) [a, b] fun x H' => x = .p (eI (v q)) ∧ H' = [a, b]) :
  ACalls Tryz.prog 165 [.p (eI p), .p (eI q), .ptr 2 0] (tkH a b g caps m) fun y H' => y = .p (eI (cmpI (v p) (v q))) ∧ H' = tkH a b g caps m := by
 obtain ⟨wa, wb, wc, wf⟩ := w
 refine acalls_weak [] (fn := Tryz.f165) Tryz.func165 rfl isF165 ?_
 simp (disch := omega) only [Tryz.f165, tkH, go_sem, seval]
 refine awp_drawnA mixed (by kernel_rfl) (by kernel_rfl) ?_
 simp (disch := omega) only [go_sem, seval]
 refine exq_callP (H0 := [a, b]) (L := [_, _]) hp ?_ (by simp [refBs, refB, wc 2 (Nat.le_refl _)]) wf
 simp (disch := omega) only [go_sem, seval]
 refine exq_callP (H0 := [a, b]) (L := [_, _]) hq ?_ (by simp [refBs, refB, wc 2 (Nat.le_refl _)]) wf
 simp (disch := omega) only [go_sem, seval]
 refine exq_call (cmp_c (v p) (v q)) ?_
 simp (disch := omega) only [go_sem, seval]
 exact ⟨_, _, Weak.mk (by simp (disch := omega) only [tkH, wa, wb, wc, go_sem, seval]), rfl, rfl⟩
theorem insertK_c {a b : AM.Obj} {g : FuncId} {caps : List V} {v : Int → Int} (w : Two a b caps) (l : List Int) (hl : l.length ≤ 1048576) (hasc : l.Pairwise (· < ·))
  (hv : ∀ p ∈ l, ACalls Tryz.prog g (.p (eI p) :: caps) [a, b] fun x H' => x = .p (eI (v p)) ∧ H' = [a, b]) :
  ACalls Tryz.prog 281 [.sl 3 0 l.length l.length, .p (.int .i64 0), .p (.int .i64 l.length), .fn (.func 165) [] [.ptr 2 0]] (tkH a b g caps l) fun y H' => y = .tup [] ∧ H' = tkH a b g caps (srtK (fun _ => false) v l) := by
 have w' := w
 obtain ⟨wa, wb, wc, wf⟩ := w'
 have hasc' : ∀ a b, a < b → b < l.length → nth l a < nth l b := fun a b h1 h2 => by rw [nth_get h2, nth_get (by omega)]; exact List.pairwise_iff_getElem.1 hasc a b (by omega) h2 h1
 refine acalls_weak [] (fn := Tryz.f281) Tryz.func281 rfl isF281 ?_
 simp (disch := omega) only [Tryz.f281, tkH, go_sem, seval]
 refine awp_for [0, 1, 2, 3] (fun q : Nat × List Int => [(8, .p (.int .i64 q.1))]) (fun q => tkH a b g caps q.2)
  (fun q => 1 ≤ q.1 ∧ q.2.Perm l ∧ (∀ a b, a < b → b < q.1 → b < q.2.length → leK (fun _ => false) v (nth q.2 a) (nth q.2 b) = true) ∧ (∀ a b, a < b → q.1 ≤ b → b < l.length → nth q.2 a < nth q.2 b)) (fun q => l.length - q.1) (1, l) ⟨by omega, .refl _, fun a b h1 h2 => by omega, fun a b h1 h2 h3 => hasc' a b h1 h3⟩ (Weak.mk ?_) ?_
 ·simp (disch := omega) only [tkH, wa, wb, wc, go_sem, seval]
 ·rintro ⟨i, m⟩ ⟨hi, hp, hs, hu⟩
  simp only at hi hp hs hu
  have hml := hp.length_eq
  simp (disch := omega) only [tkH, go_sem, seval]
  refine acond_b (fun h1 => ?_) (fun h1 => ?_) <;> (try simp only [decide_eq_true_eq, decide_eq_false_iff_not] at h1) <;> simp (disch := omega) only [Sh.out h1, go_sem, seval]
  ·have hi2 : i < m.length := by omega
   refine awp_for [0, 1, 2, 3, 8] (fun q : Nat × List Int => [(9, .p (.int .i64 q.1))]) (fun q => tkH a b g caps q.2)
    (fun q => q.1 ≤ i ∧ q.2.Perm l ∧ (∀ a b, a < b → b ≤ i → b ≠ q.1 → leK (fun _ => false) v (nth q.2 a) (nth q.2 b) = true) ∧ (∀ a, a < q.1 → nth q.2 a < nth q.2 q.1) ∧ ∀ a b, a < b → i + 1 ≤ b → b < l.length → nth q.2 a < nth q.2 b) (fun q => q.1) (i, m)
    ⟨by simp, hp, fun a b h1 h2 h3 => hs a b h1 (by simp only at h3; omega) (by omega), fun a h => hu a i h (Nat.le_refl _) (by omega), fun a b h1 h2 h3 => hu a b h1 (by omega) h3⟩ (Weak.mk ?_) ?_
   ·simp (disch := omega) only [tkH, wa, wb, wc, go_sem, seval]
   ·clear hp hs hml hi2 hu
    rintro ⟨j, m⟩ ⟨hj, hp, hs, hu, hr⟩
    simp only at hj hp hs hu hr
    have hml := hp.length_eq
    have hj2 : j < m.length := by omega
    have hin : ∀ k, k < m.length → nth m k ∈ l := fun k hk => hp.mem_iff.1 (nth_in hk)
    simp (disch := omega) only [tkH, go_sem, seval]
    refine awp_drawnA mixed (by kernel_rfl) (by kernel_rfl) ?_
    simp (disch := omega) only [go_sem, seval]
    have e1 : ((j : Int) - 1).toNat = j - 1 := by omega
    refine aguard_t (fun h2 => ?_) (fun h2 => ?_) <;> (try simp only [decide_eq_true_eq, decide_eq_false_iff_not] at h2) <;> simp (disch := omega) only [Sh.out h2, go_sem, seval]
    ·have he1 : elt (m.map eI) j = eI (nth m j) := elt_map hj2
     have he2 : elt (m.map eI) (j - 1) = eI (nth m (j - 1)) := elt_map (by omega)
     have hj3 : j < l.length := by omega
     have hj4 : j - 1 < l.length := by omega
     simp (disch := first | omega | (simp only [List.length_cons, List.length_nil, List.length_append, List.length_map, List.length_take, List.length_drop] <;> omega)) only [e1, he1, he2, hml, hj3, hj4, eq_self, true_and, if_true, go_sem, seval]
     refine exq_call0 (take1_c w m (nth m j) (nth m (j - 1)) (hv _ (hin j hj2)) (hv _ (hin (j - 1) (by omega)))) ?_
     simp (disch := omega) only [go_sem, seval]
     refine acond_b (fun h3 => ?_) (fun h3 => ?_) <;> (try simp only [decide_eq_true_eq, decide_eq_false_iff_not] at h3) <;> simp (disch := omega) only [Sh.out h3, go_sem, seval]
     ·have h3' : v (nth m j) < v (nth m (j - 1)) := by
       by_cases c : v (nth m j) < v (nth m (j - 1))
       ·exact c
       ·unfold cmpI at h3
        rw [if_neg c] at h3
        split at h3 <;> omega
      refine awp_drawnH [15] 16 mixed (by kernel_rfl) (by kernel_rfl) (by kernel_rfl) (by kernel_rfl) (by simp) ?_
      simp (disch := first | omega | (simp only [List.length_cons, List.length_nil, List.length_append, List.length_map, List.length_take, List.length_drop] <;> omega)) only [e1, he1, he2, hml, hj3, hj4, eq_self, true_and, if_true, go_sem, seval]
      have hset1 : (m.map eI).set j (.int .i64 (nth m (j - 1))) = (m.set j (nth m (j - 1))).map eI := by rw [List.map_set]; rfl
      have hl1 : (m.set j (nth m (j - 1))).length = l.length := by simp [hml]
      refine lateH_one 15 _ _ (by kernel_rfl) (by simp (disch := first | omega | (simp only [List.length_cons, List.length_nil, List.length_append, List.length_map, List.length_take, List.length_drop] <;> omega)) only [e1, he1, he2, hml, hj3, hj4, eq_self, true_and, if_true, hset1, go_sem, seval]; exact ⟨rfl, rfl⟩) (lateH_z ?_)
      generalize hm1 : m.set j (nth m (j - 1)) = m1 at *
      have he3 : elt (m1.map eI) (j - 1) = eI (nth m1 (j - 1)) := elt_map (by omega)
      have hset2 : (m1.map eI).set (j - 1) (.int .i64 (nth m j)) = (swpL m j).map eI := by rw [swpL, hm1, List.map_set]; rfl
      simp (disch := first | omega | (simp only [List.length_cons, List.length_nil, List.length_append, List.length_map, List.length_take, List.length_drop] <;> omega)) only [e1, he3, hl1, hj4, eq_self, true_and, if_true, hset2, go_sem, seval]
      have hsl := swpL_len (l := m) (j := j)
      have hsw := fun q => swpL_nth (l := m) (j := j) (q := q) (by omega) hj2
      refine ⟨(j - 1, swpL m j), ⟨by simp only; omega, (swpL_perm hj2).trans hp, fun a b h4 h5 h6 => ?_, fun a h4 => ?_, fun a b h4 h5 h6 => ?_⟩, by simp only; omega, Weak.mk (by simp (disch := omega) only [tkH, wa, wb, wc, show ((j - 1 : Nat) : Int) = (j : Int) - 1 by omega, go_sem, seval])⟩
      ·simp only at h6 ⊢
       rw [hsw b (by omega), hsw a (by omega)]
       by_cases c1 : b = j
       ·rw [if_pos c1]
        subst c1
        rw [if_neg (by omega)]
        by_cases c2 : a = b - 1
        ·rw [if_pos c2]; simp [leK, h3']
        ·rw [if_neg c2]; exact hs a (b - 1) (by omega) (by omega) (by omega)
       ·rw [if_neg c1, if_neg h6]
        by_cases c2 : a = j
        ·rw [if_pos c2]; exact hs (j - 1) b (by omega) h5 c1
        ·rw [if_neg c2]
         by_cases c3 : a = j - 1
         ·rw [if_pos c3]; exact hs j b (by omega) h5 c1
         ·rw [if_neg c3]; exact hs a b h4 h5 c1
      ·simp only at h4 ⊢
       rw [hsw a (by omega), hsw (j - 1) (by omega), if_neg (by omega), if_neg (by omega), if_neg (by omega), if_pos rfl]
       exact hu a (by omega)
      ·simp only at h5 ⊢
       rw [hsw a (by omega), hsw b (by omega), if_neg (show ¬ b = j by omega), if_neg (show ¬ b = j - 1 by omega)]
       by_cases c2 : a = j
       ·rw [if_pos c2]; exact hr (j - 1) b (by omega) h5 h6
       ·rw [if_neg c2]
        by_cases c3 : a = j - 1
        ·rw [if_pos c3]; exact hr j b (by omega) h5 h6
        ·rw [if_neg c3]; exact hr a b h4 h5 h6
     ·have h3' : ¬ v (nth m j) < v (nth m (j - 1)) := fun h => h3 (by unfold cmpI; rw [if_pos h]; omega)
      have hlast : leK (fun _ => false) v (nth m (j - 1)) (nth m j) = true := by
       have := hu (j - 1) (by omega)
       simp [leK]; omega
      exact ⟨(i + 1, m), ⟨by simp only; omega, hp, fun a b h4 h5 h6 => by
       simp only at h5 ⊢
       by_cases c1 : b = j
       ·subst c1
        by_cases c2 : a = b - 1
        ·rw [c2]; exact hlast
        ·exact leK_trans (hs a (b - 1) (by omega) (by omega) (by omega)) hlast
       ·exact hs a b h4 (by omega) c1, fun a b h4 h5 h6 => hr a b h4 h5 h6⟩, by simp only; omega, Weak.mk (by simp (disch := omega) only [tkH, wa, wb, wc, go_sem, seval])⟩
    ·have hj0 : j = 0 := by omega
     subst hj0
     exact ⟨(i + 1, m), ⟨by simp only; omega, hp, fun a b h4 h5 h6 => hs a b h4 (by simp only at h5; omega) (by omega), fun a b h4 h5 h6 => hr a b h4 h5 h6⟩, by simp only; omega, Weak.mk (by simp (disch := omega) only [tkH, wa, wb, wc, go_sem, seval])⟩
  ·have e : m = srtK (fun _ => false) v l := srtK_eq hp (by
    rw [List.pairwise_iff_getElem]
    intro a b ha hb hab
    have := hs a b hab (by omega) hb
    rwa [nth_get ha, nth_get hb] at this)
   rw [← e]
   exact ⟨.tup [], tkH a b g caps m, Weak.mk (by simp (disch := omega) only [tkH, wa, wb, wc, go_sem, seval]), rfl, rfl⟩
theorem stable_c {a b : AM.Obj} {g : FuncId} {caps : List V} {v : Int → Int} (w : Two a b caps) (l : List Int) (hl : l.length ≤ 19) (hasc : l.Pairwise (· < ·))
  (hv : ∀ p ∈ l, ACalls Tryz.prog g (.p (eI p) :: caps) [a, b] fun x H' => x = .p (eI (v p)) ∧ H' = [a, b]) :
  ACalls Tryz.prog 217 [.sl 3 0 l.length l.length, .p (.int .i64 l.length), .fn (.func 165) [] [.ptr 2 0]] (tkH a b g caps l) fun y H' => y = .tup [] ∧ H' = tkH a b g caps (srtK (fun _ => false) v l) := by
 have w' := w
 obtain ⟨wa, wb, wc, wf⟩ := w'
 refine acalls_weak [] (fn := Tryz.f217) Tryz.func217 rfl isF217 ?_
 simp (disch := omega) only [Tryz.f217, tkH, go_sem, seval]
 refine awp_for [0, 1, 2, 6, 7, 8] (fun _ : Unit => []) (fun _ => tkH a b g caps l) (fun _ => True) (fun _ => 0) () trivial (Weak.mk ?_) ?_
 ·simp (disch := omega) only [tkH, wa, wb, wc, go_sem, seval]
 ·intro _ _
  simp (disch := omega) only [tkH, go_sem, seval]
  have h1 : ¬ (20 : Int) ≤ (l.length : Int) := by omega
  simp (disch := omega) only [h1, go_sem, seval]
  refine (insertK_c w l (by omega) hasc hv).useH ?_
  simp (disch := omega) only [tkH, go_sem, seval]
  refine awp_for [0, 1, 2, 6] (fun _ : Unit => []) (fun _ => tkH a b g caps (srtK (fun _ => false) v l)) (fun _ => True) (fun _ => 0) () trivial (Weak.mk ?_) ?_
  ·simp (disch := omega) only [tkH, wa, wb, wc, go_sem, seval]
  ·intro _ _
   have h2 : ¬ (20 : Int) < (l.length : Int) := by omega
   simp (disch := omega) only [tkH, h2, go_sem, seval]
   exact ⟨.tup [], tkH a b g caps (srtK (fun _ => false) v l), Weak.mk (by simp (disch := omega) only [tkH, wa, wb, wc, go_sem, seval]), rfl, rfl⟩
theorem sortStable_c {a b : AM.Obj} {g : FuncId} {caps : List V} {v : Int → Int} (w : Two a b caps) (l : List Int) (hl : l.length ≤ 19) (hasc : l.Pairwise (· < ·))
  (hv : ∀ p ∈ l, ACalls Tryz.prog g (.p (eI p) :: caps) [a, b] fun x H' => x = .p (eI (v p)) ∧ H' = [a, b]) :
  ACalls Tryz.prog 164 [.sl 3 0 l.length l.length, .fn (.func 165) [] [.ptr 2 0]] (tkH a b g caps l) fun y H' => y = .tup [] ∧ H' = tkH a b g caps (srtK (fun _ => false) v l) := by
 have w' := w
 obtain ⟨wa, wb, wc, wf⟩ := w'
 refine acalls_weak [] (fn := Tryz.f164) Tryz.func164 rfl isF164 ?_
 simp (disch := omega) only [Tryz.f164, tkH, go_sem, seval]
 refine (stable_c w l hl hasc hv).useH ?_
 simp (disch := omega) only [tkH, go_sem, seval]
 exact ⟨.tup [], tkH a b g caps (srtK (fun _ => false) v l), Weak.mk (by simp (disch := omega) only [tkH, wa, wb, wc, go_sem, seval]), rfl, rfl⟩
theorem take_c {a b : AM.Obj} {g : FuncId} {caps : List V} {v : Int → Int} (w : Two a b caps) (l : List Int) (c : Bool) (n : Nat) (hl : l.length ≤ 19) (hasc : l.Pairwise (· < ·)) (h0 : ∀ i ∈ l, 0 ≤ i ∧ i ≤ 60)
  (hv : ∀ p ∈ l, ACalls Tryz.prog g (.p (eI p) :: caps) [a, b] fun x H' => x = .p (eI (v p)) ∧ H' = [a, b]) :
  ACalls Tryz.prog 110 [.p (.list c (l.map eI)), .p (.int .i64 (n : Int)), .fn (.func g) [] caps] [a, b] fun y H' => y = .p (.int .i64 (takK (fun _ => false) v l n : Nat)) ∧ H' = [a, b] := by
 have w' := w
 obtain ⟨wa, wb, wc, wf⟩ := w'
 refine acalls_weak [4] (fn := Tryz.f110) Tryz.func110 rfl isF110 ?_
 simp (disch := omega) only [Tryz.f110, go_sem, seval]
 refine (cloneI_c l c (by omega)).useF ?_
 simp (disch := omega) only [go_sem, seval]
 refine (sortStable_c w l hl hasc hv).useH ?_
 have hsl := srtK_len (q := fun _ => false) (v := v) (l := l)
 have hsm : ∀ i ∈ srtK (fun _ => false) v l, 0 ≤ i ∧ i ≤ 60 := fun i hi => h0 i (srtK_mem.1 hi)
 generalize hS : srtK (fun _ => false) v l = m at *
 obtain ⟨K, hK⟩ : ∃ K, K = min n l.length := ⟨_, rfl⟩
 have hmin : amax true [.p (.int .i64 (n : Int)), .p (.int .i64 (l.length : Int))] = some (.int .i64 (K : Int)) := by
  by_cases h : n ≤ l.length
  ·rw [amin_le (by omega)]; congr 2; omega
  ·rw [amin_gt (by omega)]; congr 2; omega
 have hKl : K ≤ m.length := by omega
 have htk : takK (fun _ => false) v l n = setL (m.take K) := by
  rw [takK, hS, List.take_eq_take_min, hK, hsl]
 rw [htk]
 simp (disch := omega) only [tkH, go_sem, seval]
 have hlp : ∀ k, k < m.length → setL (m.take k) < pw 61 := fun k hk => setL_lt fun i hi => by have := hsm i (List.mem_of_mem_take hi); omega
 have e61 : pw 61 = 2305843009213693952 := rfl
 by_cases hK0 : K = 0
 ·refine awp_seq (awp_seq (awp_opN 5 rfl rfl ?_))
  simp (disch := omega) only [hsl, hmin, go_sem, seval]
  rw [hK0]
  refine ⟨_, opn_head0 rfl telt32 rfl (by rfl) (by simpa using hsl) rfl, ?_⟩
  rintro _ rfl
  simp (disch := omega) only [go_sem, seval]
  refine awp_sound [] _ _ _ _ ?_
  simp (disch := omega) only [go_sem, seval]
  refine awp_for [7, 20, 21, 22] (fun _ : Unit => []) (fun _ => tkH a b g caps m) (fun _ => True) (fun _ => 0) () trivial (Weak.mk ?_) ?_
  ·simp (disch := omega) only [tkH, wa, wb, wc, go_sem, seval]
  ·intro _ _
   simp (disch := omega) only [go_sem, seval]
   refine awp_sound [] _ _ _ _ ?_
   simp (disch := omega) only [tkH, go_sem, seval]
   exact ⟨.p (.int .i64 0), [a, b], Weak.mk (by simp (disch := omega) only [wa, wb, go_sem, seval]), rfl, rfl⟩
 ·refine awp_sound [] _ _ _ _ ?_
  simp (disch := omega) only [tkH, hsl, hmin, go_sem, seval]
  refine awp_for [20, 21] (fun k : Nat => [(7, .p (.int .i64 (setL (m.take k) : Nat))), (22, .p (.int .i64 k))]) (fun _ => tkH a b g caps m) (fun k => k ≤ K) (fun k => K - k) 0 (by simp) (Weak.mk ?_) ?_
  ·simp (disch := omega) only [tkH, wa, wb, wc, setL, List.take_zero, List.foldl_nil, go_sem, seval]
  ·intro k hk
   simp (disch := omega) only [tkH, hsl, go_sem, seval]
   refine acond_b (fun h1 => ?_) (fun h1 => ?_) <;> (try simp only [decide_eq_true_eq, decide_eq_false_iff_not] at h1) <;> simp (disch := omega) only [Sh.out h1, go_sem, seval]
   ·have hk2 : k < m.length := by omega
    have hmk := hsm _ (nth_mem hk2)
    have h2 := hlp k hk2
    have h3 : pw (nth m k).toNat ≤ pw 60 := pw_le (by omega)
    have h4 : pw 60 = 1152921504606846976 := rfl
    have hs := setL_take hk2
    have hk3 : k < l.length := by omega
    simp (disch := first | omega | (simp only [List.length_cons, List.length_nil, List.length_append, List.length_map, List.length_take, List.length_drop] <;> omega)) only [elt_map hk2, hsl, hk3, if_true, go_sem, seval]
    exact ⟨k + 1, by omega, by omega, Weak.mk (by simp (disch := omega) only [tkH, wa, wb, wc, hs, go_sem, seval])⟩
   ·have hkl : k = K := by omega
    subst hkl
    exact ⟨.p (.int .i64 (setL (m.take k) : Nat)), [a, b], Weak.mk (by simp (disch := omega) only [wa, wb, go_sem, seval]), rfl, rfl⟩
end Go.Proofs.YtcdoglogglbemaaGreatDoor.K
set_option linter.unusedVariables false
set_option linter.unusedSimpArgs false
namespace Go.Proofs.YtcdoglogglbemaaGreatDoor.K
open Go Go.AM Go.Proofs
theorem needs_bit {n : Nat} {be : List (Int × Int)} (hv : Val n be) {i j : Nat} (hi : i < n) : (needsOf n be (i : Int)).testBit j = true ↔ j = i ∨ Ch be j i := by
 have h0 : 0 ≤ (i : Int) ∧ (i : Int) < n := by omega
 rw [needsOf, if_pos h0, Nat.testBit_or, Bool.or_eq_true, Int.toNat_natCast, cloOf_bit hv j i hi, testBit_pw, decide_eq_true_eq]
 constructor
 ·rintro (h | h)
  ·exact .inr h
  ·exact .inl h.symm
 ·rintro (h | h)
  ·exact .inr h.symm
  ·exact .inl h
theorem and_ne {a b c : Nat} : a &&& b &&& c ≠ 0 ↔ ∃ j, a.testBit j = true ∧ b.testBit j = true ∧ c.testBit j = true := by
 constructor
 ·intro h
  obtain ⟨j, hj⟩ := Nat.exists_testBit_of_ne_zero h
  rw [Nat.testBit_and, Nat.testBit_and, Bool.and_eq_true, Bool.and_eq_true] at hj
  exact ⟨j, hj.1.1, hj.1.2, hj.2⟩
 ·rintro ⟨j, h1, h2, h3⟩ h
  have : (a &&& b &&& c).testBit j = true := by rw [Nat.testBit_and, Nat.testBit_and, h1, h2, h3]; rfl
  rw [h] at this; simp at this
theorem lvS_iff {n : Nat} {be : List (Int × Int)} (hv : Val n be) {all set i : Nat} (ha : all < pw n) : (lvS n be all set).testBit i = true ↔ all.testBit i = true ∧ ∃ j, (j = i ∨ Ch be j i) ∧ set.testBit j = true ∧ all.testBit j = true := by
 rw [lvS_bit, lvB, Bool.and_eq_true, Bool.and_eq_true, decide_eq_true_eq, decide_eq_true_eq, and_ne]
 constructor
 ·rintro ⟨h1, h2, j, h3, h4⟩
  exact ⟨h2, j, (needs_bit hv h1).1 h3, h4⟩
 ·rintro ⟨h2, j, h3, h4⟩
  have h1 := bit_pw ha h2
  exact ⟨h1, h2, j, (needs_bit hv h1).2 h3, h4⟩
end Go.Proofs.YtcdoglogglbemaaGreatDoor.K
