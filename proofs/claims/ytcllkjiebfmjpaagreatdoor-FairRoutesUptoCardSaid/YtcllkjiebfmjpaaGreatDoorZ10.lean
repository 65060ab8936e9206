/- Declarations that the closing texts need, part 10: joined by tools/slim.py. -/
import Derived.Test.YtcllkjiebfmjpaaGreatDoorZ9
set_option linter.unusedVariables false
set_option linter.unusedSimpArgs false
namespace Go.Proofs.YtcllkjiebfmjpaaGreatDoor.K
open Go Go.AM Go.Proofs
set_option maxRecDepth 8000
set_option maxHeartbeats 8000000
def Plc (x : Inst) : Prop := ∀ o ∈ x.orders, -1 ≤ o.pick.place ∧ -1 ≤ o.drp.place
theorem vIx_inj {l : List Vis} {v w : Vis} (h : vIx l v = vIx l w) (h0 : 0 ≤ vIx l v) : v = w := by
  unfold vIx fIx at h h0
  cases hv : l.findIdx? (fun u => decide (v = u)) with
  | none => rw [hv] at h0; simp at h0
  | some i =>
    rw [hv] at h
    cases hw : l.findIdx? (fun u => decide (w = u)) with
    | none => rw [hw] at h; simp at h
    | some j =>
      rw [hw] at h
      have hij : i = j := by simp at h; omega
      subst hij
      rw [List.findIdx?_eq_some_iff_getElem] at hv hw
      obtain ⟨h1, h2, _⟩ := hv
      obtain ⟨_, h4, _⟩ := hw
      simp at h2 h4
      rw [h2, h4]
theorem visO_cases (os : List Ord) (i : Nat) : visO os i = [] ∨ visO os i = [⟨i, false⟩] ∨ visO os i = [⟨i, true⟩] ∨ visO os i = [⟨i, false⟩, ⟨i, true⟩] := by
  unfold visO; split <;> split <;> simp
theorem pair_ref {l own : List Vis} (ho : own = [] ∨ (∃ v, own = [v]) ∨ ∃ v w, own = [v, w] ∧ v ≠ w) :
    ascB l (-1) own = (allIn l own && !(decide (own.length = 2) && decide (vIx l (nth own 1) < vIx l (nth own 0)))) := by
  rcases ho with rfl | ⟨v, rfl⟩ | ⟨v, w, rfl, hne⟩
  · rfl
  · have := @vIx_ge l v
    by_cases h : 0 ≤ vIx l v
    · have : -1 < vIx l v := by omega
      simp [ascB, allIn, h, this]
    · have : ¬ -1 < vIx l v := by omega
      simp [ascB, allIn, h, this]
  · have hne2 : 0 ≤ vIx l v → vIx l v ≠ vIx l w := fun h0 h => hne (vIx_inj h h0)
    have h1 := @vIx_ge l v
    have h2 := @vIx_ge l w
    rw [Bool.eq_iff_iff]
    simp [ascB, allIn, nth]
    omega
theorem visO_two (os : List Ord) (i : Nat) : visO os i = [] ∨ (∃ v, visO os i = [v]) ∨ ∃ v w, visO os i = [v, w] ∧ v ≠ w := by
  rcases visO_cases os i with h | h | h | h
  · exact .inl h
  · exact .inr (.inl ⟨_, h⟩)
  · exact .inr (.inl ⟨_, h⟩)
  · exact .inr (.inr ⟨_, _, h, by simp⟩)
theorem all_no {α : Type} [Inhabited α] {l : List α} {f : α → Bool} {k : Nat} (hk : k < l.length) (h : f (nth l k) = false) : l.all f = false := by
  rw [List.all_eq_false]; exact ⟨nth l k, nth_mem hk, by rw [h]; simp⟩
theorem all_yes {α : Type} [Inhabited α] {l : List α} {f : α → Bool} (h : ∀ j, j < l.length → f (nth l j) = true) : l.all f = true := by
  rw [List.all_eq_true]
  intro v hv
  obtain ⟨j, hj, rfl⟩ := List.mem_iff_getElem.1 hv
  rw [← nth_get hj]; exact h j hj
theorem rpaired_c (x : Inst) (l : List Vis) (c : Bool) (hl : l.length ≤ 1048576) (ho : x.orders.length ≤ 1048576) (hp : Plc x) (hv : ∀ v ∈ l, 0 ≤ v.order ∧ v.order < x.orders.length) :
    ACalls Tryz.prog 138 [.p (eInst x), .p (.list c (l.map eVis))] [] fun y H' => y = .p (.bool (l.all (pairB x.orders l))) ∧ H' = [] := by
  refine acalls_pure (fn := Tryz.f138) Tryz.func138 rfl isF138 ?_
  simp (disch := omega) only [Tryz.f138, go_sem, seval, reduceCtorEq, ↓reduceIte]
  refine awp_for [1, 2] (fun k : Nat => [(5, .p (.int .i64 k))]) (fun _ => [instO x]) (fun k => k ≤ l.length ∧ ∀ j, j < k → pairB x.orders l (nth l j) = true) (fun k => l.length - k) 0 (by simp) (Weak.mk ?_) ?_
  · simp (disch := omega) only [instO, go_sem, seval, reduceCtorEq, ↓reduceIte]
  · rintro k ⟨hk, hno⟩
    simp (disch := omega) only [instO, go_sem, seval, reduceCtorEq, ↓reduceIte]
    refine acond_b (fun h => ?_) (fun h => ?_) <;> (try simp only [decide_eq_true_eq, decide_eq_false_iff_not] at h) <;> simp (disch := omega) only [Sh.out h, go_sem, seval, reduceCtorEq, ↓reduceIte]
    · have hk2 : k < l.length := by omega
      obtain ⟨v1, v2⟩ := hv _ (nth_mem hk2)
      obtain ⟨i, hi⟩ : ∃ i : Nat, (nth l k).order = (i : Int) := ⟨(nth l k).order.toNat, by omega⟩
      rw [hi] at v1 v2
      have hpb : pairB x.orders l (nth l k) = (decide (0 ≤ vIx (visO x.orders i) (nth l k)) && ascB l (-1) (visO x.orders i)) := by rw [pairB, hi]; rfl
      have hown := visO_two x.orders i
      rw [pair_ref hown] at hpb
      refine awp_drawnA mixed (by kernel_rfl) (by kernel_rfl) ?_
      simp (disch := omega) only [hi, go_sem, seval, reduceCtorEq, ↓reduceIte]
      refine exq_call (rvisits_c x i (by omega) ho hp) ?_
      simp (disch := omega) only [go_sem, seval, reduceCtorEq, ↓reduceIte]
      have hvl := visO_len x.orders i
      generalize visO x.orders i = own at hvl hpb
      have hix := rindex_c own false (nth l k) (by omega)
      rw [eVis_eq, hi] at hix
      refine awp_drawnA mixed (by kernel_rfl) (by kernel_rfl) ?_
      simp (disch := omega) only [hi, go_sem, seval, reduceCtorEq, ↓reduceIte]
      refine exq_call (hix) ?_
      simp (disch := omega) only [go_sem, seval, reduceCtorEq, ↓reduceIte]
      refine aguard_f (fun h2 => ?_) (fun h2 => ?_) <;> (try simp only [decide_eq_true_eq, decide_eq_false_iff_not] at h2) <;> simp (disch := omega) only [Sh.out h2, go_sem, seval, reduceCtorEq, ↓reduceIte]
      · have h3 : ¬ 0 ≤ vIx own (nth l k) := by omega
        rw [all_no hk2 (by rw [hpb]; simp [h3])]
      · have h3 : 0 ≤ vIx own (nth l k) := by omega
        have hgo : pairB x.orders l (nth l k) = true → ∀ j, j < k + 1 → pairB x.orders l (nth l j) = true := fun e => upto_iff.2 ⟨hno, e⟩
        refine exq_call (rcontains_c l own c false hl (by omega)) ?_
        simp (disch := omega) only [go_sem, seval, reduceCtorEq, ↓reduceIte]
        refine aguard_f (fun h4 => ?_) (fun h4 => ?_) <;> (try simp only [decide_eq_true_eq, decide_eq_false_iff_not] at h4) <;> simp (disch := omega) only [Sh.out h4, go_sem, seval, reduceCtorEq, ↓reduceIte]
        · have h5 : allIn l own = false := by simpa using h4
          rw [all_no hk2 (by rw [hpb, h5]; simp)]
        · have h5 : allIn l own = true := by simpa using h4
          rw [h5] at hpb
          refine aguard_t (fun h6 => ?_) (fun h6 => ?_) <;> (try simp only [decide_eq_true_eq, decide_eq_false_iff_not] at h6) <;> simp (disch := omega) only [Sh.out h6, go_sem, seval, reduceCtorEq, ↓reduceIte]
          · have h7 : own.length = 2 := by omega
            refine exq_call (rindex_c l c (nth own 0) hl) ?_
            simp (disch := omega) only [go_sem, seval, reduceCtorEq, ↓reduceIte]
            refine exq_call (rindex_c l c (nth own 1) hl) ?_
            simp (disch := omega) only [go_sem, seval, reduceCtorEq, ↓reduceIte]
            refine acond_b (fun h8 => ?_) (fun h8 => ?_) <;> (try simp only [decide_eq_true_eq, decide_eq_false_iff_not] at h8) <;> simp (disch := omega) only [Sh.out h8, go_sem, seval, reduceCtorEq, ↓reduceIte]
            · rw [all_no hk2 (by rw [hpb]; simp [h7, h8])]
            · exact ⟨k + 1, ⟨by omega, hgo (by rw [hpb]; simp [h3]; omega)⟩, by omega, Weak.mk (by simp (disch := omega) only [instO, go_sem, seval, reduceCtorEq, ↓reduceIte])⟩
          · exact ⟨k + 1, ⟨by omega, hgo (by rw [hpb]; simp [h3]; omega)⟩, by omega, Weak.mk (by simp (disch := omega) only [instO, go_sem, seval, reduceCtorEq, ↓reduceIte])⟩
    · have hkl : k = l.length := by omega
      subst hkl
      rw [all_yes hno]
/-- two orders of a set that must be apart -/
def apB (x : Inst) (S : Nat) : Bool := x.apart.any fun p => nHas S p.1 && nHas S p.2
theorem rapart_c (x : Inst) (S : Nat) (hS : S < 9223372036854775808) (ha : x.apart.length ≤ 1048576) : ACalls Tryz.prog 139 [.p (eInst x), .p (.int .i64 (S : Nat))] [] fun y H' => y = .p (.bool (!apB x S)) ∧ H' = [] := by
  refine acalls_pure (fn := Tryz.f139) Tryz.func139 rfl isF139 ?_
  simp (disch := omega) only [Tryz.f139, go_sem, seval, reduceCtorEq, ↓reduceIte]
  refine awp_for [1, 2] (fun k : Nat => [(5, .p (.int .i64 k))]) (fun _ => [instO x]) (fun k => k ≤ x.apart.length ∧ ∀ j, j < k → (nHas S (nth x.apart j).1 && nHas S (nth x.apart j).2) = false) (fun k => x.apart.length - k) 0 (by simp) (Weak.mk ?_) ?_
  · simp (disch := omega) only [instO, go_sem, seval, reduceCtorEq, ↓reduceIte]
  · rintro k ⟨hk, hno⟩
    simp (disch := omega) only [instO, go_sem, seval, reduceCtorEq, ↓reduceIte]
    refine acond_b (fun h => ?_) (fun h => ?_) <;> (try simp only [decide_eq_true_eq, decide_eq_false_iff_not] at h) <;> simp (disch := omega) only [Sh.out h, go_sem, seval, reduceCtorEq, ↓reduceIte]
    · have hk2 : k < x.apart.length := by omega
      refine (rhas16_c S (nth x.apart k).1 hS).use ?_
      simp (disch := omega) only [go_sem, seval, reduceCtorEq, ↓reduceIte]
      refine aguard_t (fun h2 => ?_) (fun h2 => ?_) <;> (try simp only [decide_eq_true_eq, decide_eq_false_iff_not] at h2) <;> simp (disch := omega) only [Sh.out h2, go_sem, seval, reduceCtorEq, ↓reduceIte]
      · refine (rhas16_c S (nth x.apart k).2 hS).use ?_
        simp (disch := omega) only [go_sem, seval, reduceCtorEq, ↓reduceIte]
        refine acond_b (fun h3 => ?_) (fun h3 => ?_) <;> (try simp only [decide_eq_true_eq, decide_eq_false_iff_not] at h3) <;> simp (disch := omega) only [Sh.out h3, go_sem, seval, reduceCtorEq, ↓reduceIte]
        · have : apB x S = true := any_yes hk2 (by rw [h2, h3]; rfl)
          rw [this]; rfl
        · exact ⟨k + 1, ⟨by omega, upto_iff.2 ⟨hno, by rw [h2, h3]; rfl⟩⟩, by omega, Weak.mk (by simp (disch := omega) only [instO, go_sem, seval, reduceCtorEq, ↓reduceIte])⟩
      · exact ⟨k + 1, ⟨by omega, upto_iff.2 ⟨hno, by rw [h2]; rfl⟩⟩, by omega, Weak.mk (by simp (disch := omega) only [instO, go_sem, seval, reduceCtorEq, ↓reduceIte])⟩
    · have hkl : k = x.apart.length := by omega
      subst hkl
      have : apB x S = false := any_no hno
      rw [this]; rfl
/-- an order of a pair stands before the other -/
def lateB (l : List Vis) (a b : Int) (j k : Nat) : Bool := decide ((nth l j).order = a) && decide ((nth l k).order = b)
def rbefB (S : Nat) (l : List Vis) (p : Int × Int) : Bool := !nHas S p.2 || (nHas S p.1 && (List.range l.length).all fun j => (List.range j).all fun k => !lateB l p.1 p.2 j k)
theorem rbefore_c (x : Inst) (S : Nat) (l : List Vis) (c : Bool) (hS : S < 9223372036854775808) (hl : l.length ≤ 1048576) (hb : x.before.length ≤ 1048576) : ACalls Tryz.prog 140 [.p (eInst x), .p (.int .i64 (S : Nat)), .p (.list c (l.map eVis))] [] fun y H' => y = .p (.bool (x.before.all (rbefB S l))) ∧ H' = [] := by
  refine acalls_pure (fn := Tryz.f140) Tryz.func140 rfl isF140 ?_
  simp (disch := omega) only [Tryz.f140, go_sem, seval, reduceCtorEq, ↓reduceIte]
  refine awp_for [1, 2, 3] (fun k : Nat => [(7, .p (.int .i64 k))]) (fun _ => [instO x]) (fun k => k ≤ x.before.length ∧ ∀ j, j < k → rbefB S l (nth x.before j) = true) (fun k => x.before.length - k) 0 (by simp) (Weak.mk ?_) ?_
  · simp (disch := omega) only [instO, go_sem, seval, reduceCtorEq, ↓reduceIte]
  · rintro i ⟨hi, hno⟩
    simp (disch := omega) only [instO, go_sem, seval, reduceCtorEq, ↓reduceIte]
    refine acond_b (fun h => ?_) (fun h => ?_) <;> (try simp only [decide_eq_true_eq, decide_eq_false_iff_not] at h) <;> simp (disch := omega) only [Sh.out h, go_sem, seval, reduceCtorEq, ↓reduceIte]
    · have hi2 : i < x.before.length := by omega
      have hgo : rbefB S l (nth x.before i) = true → ∀ j, j < i + 1 → rbefB S l (nth x.before j) = true := fun e => upto_iff.2 ⟨hno, e⟩
      have hbad : rbefB S l (nth x.before i) = false → x.before.all (rbefB S l) = false := fun e => all_no hi2 e
      have hdef : rbefB S l (nth x.before i) = (!nHas S (nth x.before i).2 || (nHas S (nth x.before i).1 && (List.range l.length).all fun j => (List.range j).all fun k => !lateB l (nth x.before i).1 (nth x.before i).2 j k)) := rfl
      generalize rbefB S l (nth x.before i) = R at hgo hbad hdef
      generalize nth x.before i = p at hdef ⊢
      refine (rhas16_c S p.2 hS).use ?_
      simp (disch := omega) only [go_sem, seval, reduceCtorEq, ↓reduceIte]
      refine acond_b (fun h2 => ?_) (fun h2 => ?_) <;> (try simp only [decide_eq_true_eq, decide_eq_false_iff_not] at h2) <;> simp (disch := omega) only [Sh.out h2, go_sem, seval, reduceCtorEq, ↓reduceIte]
      · have h3 : nHas S p.2 = false := by simpa using h2
        exact ⟨i + 1, ⟨by omega, hgo (by rw [hdef, h3]; rfl)⟩, by omega, Weak.mk (by simp (disch := omega) only [instO, go_sem, seval, reduceCtorEq, ↓reduceIte])⟩
      · have h3 : nHas S p.2 = true := by simpa using h2
        refine (rhas16_c S p.1 hS).use ?_
        simp (disch := omega) only [go_sem, seval, reduceCtorEq, ↓reduceIte]
        refine acond_b (fun h4 => ?_) (fun h4 => ?_) <;> (try simp only [decide_eq_true_eq, decide_eq_false_iff_not] at h4) <;> simp (disch := omega) only [Sh.out h4, go_sem, seval, reduceCtorEq, ↓reduceIte]
        · have h5 : nHas S p.1 = false := by simpa using h4
          rw [hbad (by rw [hdef, h3, h5]; rfl)]
        · have h5 : nHas S p.1 = true := by simpa using h4
          rw [h3, h5] at hdef
          simp only [Bool.not_true, Bool.false_or, Bool.true_and] at hdef
          refine awp_for [1, 2, 3, 7, 8, 9] (fun k : Nat => [(10, .p (.int .i64 k))]) (fun _ => [instO x]) (fun k => k ≤ l.length ∧ ∀ j, j < k → ∀ q, q < j → lateB l p.1 p.2 j q = false) (fun k => l.length - k) 0 (by simp) (Weak.mk ?_) ?_
          · simp (disch := omega) only [instO, go_sem, seval, reduceCtorEq, ↓reduceIte]
          · rintro j ⟨hj, hnj⟩
            simp (disch := omega) only [instO, go_sem, seval, reduceCtorEq, ↓reduceIte]
            refine acond_b (fun h6 => ?_) (fun h6 => ?_) <;> (try simp only [decide_eq_true_eq, decide_eq_false_iff_not] at h6) <;> simp (disch := omega) only [Sh.out h6, go_sem, seval, reduceCtorEq, ↓reduceIte]
            · have hj2 : j < l.length := by omega
              refine awp_for [1, 2, 3, 7, 8, 9, 10] (fun k : Nat => [(11, .p (.int .i64 k))]) (fun _ => [instO x]) (fun k => k ≤ j ∧ ∀ q, q < k → lateB l p.1 p.2 j q = false) (fun k => j - k) 0 (by simp) (Weak.mk ?_) ?_
              · simp (disch := omega) only [instO, go_sem, seval, reduceCtorEq, ↓reduceIte]
              · rintro k ⟨hk, hnk⟩
                simp (disch := omega) only [instO, go_sem, seval, reduceCtorEq, ↓reduceIte]
                refine acond_b (fun h7 => ?_) (fun h7 => ?_) <;> (try simp only [decide_eq_true_eq, decide_eq_false_iff_not] at h7) <;> simp (disch := omega) only [Sh.out h7, go_sem, seval, reduceCtorEq, ↓reduceIte]
                · have hk2 : k < j := by omega
                  refine aguard_t (fun h8 => ?_) (fun h8 => ?_) <;> (try simp only [decide_eq_true_eq, decide_eq_false_iff_not] at h8) <;> simp (disch := omega) only [Sh.out h8, go_sem, seval, reduceCtorEq, ↓reduceIte]
                  · refine acond_b (fun h9 => ?_) (fun h9 => ?_) <;> (try simp only [decide_eq_true_eq, decide_eq_false_iff_not] at h9) <;> simp (disch := omega) only [Sh.out h9, go_sem, seval, reduceCtorEq, ↓reduceIte]
                    · rw [hbad (by
                        rw [hdef, List.all_eq_false]
                        refine ⟨j, by simpa using hj2, ?_⟩
                        rw [Bool.not_eq_true, List.all_eq_false]
                        exact ⟨k, by simpa using hk2, by simp [lateB, h8, h9]⟩)]
                    · exact ⟨k + 1, ⟨by omega, upto_iff.2 ⟨hnk, by simp [lateB, h9]⟩⟩, by omega, Weak.mk (by simp (disch := omega) only [instO, go_sem, seval, reduceCtorEq, ↓reduceIte])⟩
                  · exact ⟨k + 1, ⟨by omega, upto_iff.2 ⟨hnk, by simp [lateB, h8]⟩⟩, by omega, Weak.mk (by simp (disch := omega) only [instO, go_sem, seval, reduceCtorEq, ↓reduceIte])⟩
                · have hkl : k = j := by omega
                  subst hkl
                  exact ⟨k + 1, ⟨by omega, (upto_iff (p := fun j => ∀ q, q < j → lateB l p.1 p.2 j q = false)).2 ⟨hnj, hnk⟩⟩, by omega, Weak.mk (by simp (disch := omega) only [instO, go_sem, seval, reduceCtorEq, ↓reduceIte])⟩
            · have hjl : j = l.length := by omega
              subst hjl
              refine ⟨i + 1, ⟨by omega, hgo ?_⟩, by omega, Weak.mk (by simp (disch := omega) only [instO, go_sem, seval, reduceCtorEq, ↓reduceIte])⟩
              rw [hdef, List.all_eq_true]
              intro j hj
              rw [List.all_eq_true]
              intro k hk
              simp at hj hk
              simp [hnj j hj k hk]
    · have hkl : i = x.before.length := by omega
      subst hkl
      rw [all_yes hno]
end Go.Proofs.YtcllkjiebfmjpaaGreatDoor.K
set_option linter.unusedVariables false
set_option linter.unusedSimpArgs false
namespace Go.Proofs.YtcllkjiebfmjpaaGreatDoor.K
open Go Go.AM Go.Proofs
theorem nHas_iff {S : Nat} {i : Int} : nHas S i = true ↔ 0 ≤ i ∧ i ≤ 62 ∧ S.testBit i.toNat = true := by simp [nHas, and_assoc]
theorem vIx_mem {l : List Vis} {v : Vis} : 0 ≤ vIx l v ↔ v ∈ l := by
  have := fIx_ge (f := fun w => decide (v = w)) (l := l)
  have h2 : (l.any fun w => decide (v = w)) = true ↔ v ∈ l := by
    rw [List.any_eq_true]
    exact ⟨fun ⟨w, hw, e⟩ => by simp at e; rw [e]; exact hw, fun h => ⟨v, h, by simp⟩⟩
  rw [← h2, ← this, vIx]; simp
def Vne (x : Inst) : Prop := ∀ i, i < x.orders.length → visO x.orders i ≠ []
end Go.Proofs.YtcllkjiebfmjpaaGreatDoor.K
set_option linter.unusedVariables false
set_option linter.unusedSimpArgs false
namespace Go.Proofs.YtcllkjiebfmjpaaGreatDoor.K
open Go Go.AM Go.Proofs
/-- the specification's list -/
def ext (nx : List Vis → List Vis) : Nat → List Vis → List (List Vis) → List (List Vis)
  | 0, l, outs => if 8192 < outs.length then outs else outs ++ [l]
  | f + 1, l, outs => if 8192 < outs.length then outs else (nx l).foldl (fun acc v => ext nx f (l ++ [v]) acc) outs
end Go.Proofs.YtcllkjiebfmjpaaGreatDoor.K
set_option linter.unusedVariables false
set_option linter.unusedSimpArgs false
namespace Go.Proofs.YtcllkjiebfmjpaaGreatDoor.K
open Go Go.AM Go.Proofs
set_option maxRecDepth 8000
set_option maxHeartbeats 8000000
/-- the specification's check -/
def rchk (x : Inst) (l : List Vis) : Int :=
  if l.any (outB x) = true then 2
  else if l.length = 0 then 2
  else if (l.any fun v => (nth x.orders v.order.toNat).off) = true then 9
  else if ((List.range l.length).any fun i => decide (vIx l (nth l i) ≠ (i : Int))) = true then 6
  else if l.all (pairB x.orders l) = false then 19
  else if apB x (ordS l) = true then 20
  else if x.before.all (rbefB (ordS l) l) = false then 21
  else 0
theorem rcheck16_c (x : Inst) (r : Rte) (ho : x.orders.length ≤ 60) (hl : r.visits.length ≤ 1048576) (hap : x.apart.length ≤ 1048576) (hbe : x.before.length ≤ 1048576) (hp : Plc x) :
    ACalls Tryz.prog 95 [.p (eInst x), .p (eRte r)] [] fun y H' => y = .p (.int .i64 (rchk x r.visits)) ∧ H' = [] := by
  refine acalls_pure (fn := Tryz.f95) Tryz.func95 rfl isF95 ?_
  simp (disch := omega) only [Tryz.f95, go_sem, seval, reduceCtorEq, ↓reduceIte]
  refine awp_for [2, 3, 5] (fun k : Nat => [(6, .p (.int .i64 k))]) (fun _ => [instO x, rteO r]) (fun k => k ≤ r.visits.length ∧ ∀ j, j < k → outB x (nth r.visits j) = false) (fun k => r.visits.length - k) 0 (by simp) (Weak.mk ?_) ?_
  · simp (disch := omega) only [instO, rteO, go_sem, seval, reduceCtorEq, ↓reduceIte]
  · rintro k ⟨hk, hno⟩
    simp (disch := omega) only [instO, rteO, go_sem, seval, reduceCtorEq, ↓reduceIte]
    refine acond_b (fun h => ?_) (fun h => ?_) <;> (try simp only [decide_eq_true_eq, decide_eq_false_iff_not] at h) <;> simp (disch := omega) only [Sh.out h, go_sem, seval, reduceCtorEq, ↓reduceIte]
    · have hk2 : k < r.visits.length := by omega
      refine awp_drawnA mixed (by kernel_rfl) (by kernel_rfl) ?_
      simp (disch := omega) only [go_sem, seval, reduceCtorEq, ↓reduceIte]
      refine aguard_f (fun h2 => ?_) (fun h2 => ?_) <;> (try simp only [decide_eq_true_eq, decide_eq_false_iff_not] at h2) <;> simp (disch := omega) only [Sh.out h2, go_sem, seval, reduceCtorEq, ↓reduceIte]
      · have : outB x (nth r.visits k) = true := by simp [outB]; omega
        rw [rchk, if_pos (any_yes hk2 this)]
      · refine acond_b (fun h3 => ?_) (fun h3 => ?_) <;> (try simp only [decide_eq_true_eq, decide_eq_false_iff_not] at h3) <;> simp (disch := omega) only [Sh.out h3, go_sem, seval, reduceCtorEq, ↓reduceIte]
        · have : outB x (nth r.visits k) = true := by simp [outB]; omega
          rw [rchk, if_pos (any_yes hk2 this)]
        · exact ⟨k + 1, ⟨by omega, upto_iff.2 ⟨hno, by simp [outB]; omega⟩⟩, by omega, Weak.mk (by simp (disch := omega) only [instO, rteO, go_sem, seval, reduceCtorEq, ↓reduceIte])⟩
    · have hkl : k = r.visits.length := by omega
      subst hkl
      have hr1 : rchk x r.visits = if r.visits.length = 0 then 2 else if (r.visits.any fun v => (nth x.orders v.order.toNat).off) = true then 9 else if ((List.range r.visits.length).any fun i => decide (vIx r.visits (nth r.visits i) ≠ (i : Int))) = true then 6 else if r.visits.all (pairB x.orders r.visits) = false then 19 else if apB x (ordS r.visits) = true then 20 else if x.before.all (rbefB (ordS r.visits) r.visits) = false then 21 else 0 := by
        rw [rchk, if_neg (by rw [any_no hno]; simp)]
      have hin : ∀ j, j < r.visits.length → 0 ≤ (nth r.visits j).order ∧ (nth r.visits j).order < x.orders.length := fun j hj => by
        have := hno j hj
        simpa [outB] using this
      have hmem : ∀ v ∈ r.visits, 0 ≤ v.order ∧ v.order < x.orders.length := fun v hv => by
        obtain ⟨j, hj, rfl⟩ := List.mem_iff_getElem.1 hv
        rw [← nth_get hj]; exact hin j hj
      have hord : ordR r.visits = (((ordS r.visits : Nat) : Int), 0) := by
        rw [ordR, if_pos]
        rw [List.all_eq_true]
        intro v hv
        have := hmem v hv
        simp [inS]; omega
      have hlt : ordS r.visits < 9223372036854775808 := by
        have := ordS_lt r.visits.length (l := r.visits) (Nat.le_refl _) (fun v hv => by
          rw [List.take_length] at hv
          have := hmem v hv
          simp [inS]; omega)
        rwa [List.take_length] at this
      have hoc := rorders_c r hl
      rw [hord] at hoc
      refine useT hoc ?_
      simp (disch := omega) only [instO, rteO, go_sem, seval, reduceCtorEq, ↓reduceIte]
      refine acond_b (fun h3 => ?_) (fun h3 => ?_) <;> (try simp only [decide_eq_true_eq, decide_eq_false_iff_not] at h3) <;> simp (disch := omega) only [Sh.out h3, go_sem, seval, reduceCtorEq, ↓reduceIte]
      · rw [hr1, if_pos (by omega)]
      · rw [hr1, if_neg (by omega)]
        clear hno hr1 h3 h hk
        refine awp_for [2, 5, 7] (fun k : Nat => [(9, .p (.int .i64 k))]) (fun _ => [instO x, rteO r]) (fun k => k ≤ r.visits.length ∧ ∀ j, j < k → (nth x.orders (nth r.visits j).order.toNat).off = false) (fun k => r.visits.length - k) 0 (by simp) (Weak.mk ?_) ?_
        · simp (disch := omega) only [instO, rteO, go_sem, seval, reduceCtorEq, ↓reduceIte]
        · rintro k ⟨hk, hno⟩
          simp (disch := omega) only [instO, rteO, go_sem, seval, reduceCtorEq, ↓reduceIte]
          refine acond_b (fun h => ?_) (fun h => ?_) <;> (try simp only [decide_eq_true_eq, decide_eq_false_iff_not] at h) <;> simp (disch := omega) only [Sh.out h, go_sem, seval, reduceCtorEq, ↓reduceIte]
          · have hk2 : k < r.visits.length := by omega
            obtain ⟨i1, i2⟩ := hin k hk2
            have i3 : (nth r.visits k).order.toNat < x.orders.length := by omega
            refine awp_drawnA mixed (by kernel_rfl) (by kernel_rfl) ?_
            simp (disch := omega) only [elt_map, go_sem, seval, reduceCtorEq, ↓reduceIte]
            refine acond_b (fun h4 => ?_) (fun h4 => ?_) <;> (try simp only [decide_eq_true_eq, decide_eq_false_iff_not] at h4) <;> simp (disch := omega) only [Sh.out h4, go_sem, seval, reduceCtorEq, ↓reduceIte]
            · rw [if_pos (any_yes hk2 h4)]
            · exact ⟨k + 1, ⟨by omega, upto_iff.2 ⟨hno, h4⟩⟩, by omega, Weak.mk (by simp (disch := omega) only [instO, rteO, go_sem, seval, reduceCtorEq, ↓reduceIte])⟩
          · have hkl : k = r.visits.length := by omega
            subst hkl
            have e9 : (r.visits.any fun v => (nth x.orders v.order.toNat).off) = false := any_no hno
            rw [e9, if_neg (by simp)]
            clear hno h hk
            refine awp_for [2, 5, 7] (fun k : Nat => [(10, .p (.int .i64 k))]) (fun _ => [instO x, rteO r]) (fun k => k ≤ r.visits.length ∧ ∀ j, j < k → vIx r.visits (nth r.visits j) = (j : Int)) (fun k => r.visits.length - k) 0 (by simp) (Weak.mk ?_) ?_
            · simp (disch := omega) only [instO, rteO, go_sem, seval, reduceCtorEq, ↓reduceIte]
            · rintro k ⟨hk, hno⟩
              simp (disch := omega) only [instO, rteO, go_sem, seval, reduceCtorEq, ↓reduceIte]
              refine acond_b (fun h => ?_) (fun h => ?_) <;> (try simp only [decide_eq_true_eq, decide_eq_false_iff_not] at h) <;> simp (disch := omega) only [Sh.out h, go_sem, seval, reduceCtorEq, ↓reduceIte]
              · have hk2 : k < r.visits.length := by omega
                refine (rindex_c r.visits r.visits_c (nth r.visits k) hl).use ?_
                simp (disch := omega) only [go_sem, seval, reduceCtorEq, ↓reduceIte]
                refine acond_b (fun h4 => ?_) (fun h4 => ?_) <;> (try simp only [decide_eq_true_eq, decide_eq_false_iff_not] at h4) <;> simp (disch := omega) only [Sh.out h4, go_sem, seval, reduceCtorEq, ↓reduceIte]
                · have : ((List.range r.visits.length).any fun i => decide (vIx r.visits (nth r.visits i) ≠ (i : Int))) = true := by
                    rw [List.any_eq_true]; exact ⟨k, by simpa using hk2, by simpa using h4⟩
                  rw [if_pos this]
                · exact ⟨k + 1, ⟨by omega, upto_iff.2 ⟨hno, by omega⟩⟩, by omega, Weak.mk (by simp (disch := omega) only [instO, rteO, go_sem, seval, reduceCtorEq, ↓reduceIte])⟩
              · have hkl : k = r.visits.length := by omega
                subst hkl
                have : ((List.range r.visits.length).any fun i => decide (vIx r.visits (nth r.visits i) ≠ (i : Int))) = false := by
                  rw [List.any_eq_false]; intro i hi; simpa using hno i (by simpa using hi)
                rw [this, if_neg (by simp)]
                refine (rpaired_c x r.visits r.visits_c hl (by omega) hp hmem).use ?_
                simp (disch := omega) only [go_sem, seval, reduceCtorEq, ↓reduceIte]
                refine acond_b (fun h4 => ?_) (fun h4 => ?_) <;> (try simp only [decide_eq_true_eq, decide_eq_false_iff_not] at h4) <;> simp (disch := omega) only [Sh.out h4, go_sem, seval, reduceCtorEq, ↓reduceIte]
                · rw [if_pos (by simpa using h4)]
                · rw [if_neg (by simpa using h4)]
                  refine (rapart_c x (ordS r.visits) hlt hap).use ?_
                  simp (disch := omega) only [go_sem, seval, reduceCtorEq, ↓reduceIte]
                  refine acond_b (fun h5 => ?_) (fun h5 => ?_) <;> (try simp only [decide_eq_true_eq, decide_eq_false_iff_not] at h5) <;> simp (disch := omega) only [Sh.out h5, go_sem, seval, reduceCtorEq, ↓reduceIte]
                  · rw [if_pos (by simpa using h5)]
                  · rw [if_neg (by simpa using h5)]
                    refine (rbefore_c x (ordS r.visits) r.visits r.visits_c hlt hl hbe).use ?_
                    simp (disch := omega) only [go_sem, seval, reduceCtorEq, ↓reduceIte]
                    refine acond_b (fun h6 => ?_) (fun h6 => ?_) <;> (try simp only [decide_eq_true_eq, decide_eq_false_iff_not] at h6) <;> simp (disch := omega) only [Sh.out h6, go_sem, seval, reduceCtorEq, ↓reduceIte]
                    · rw [if_pos (by simpa using h6)]
                    · rw [if_neg (by simpa using h6)]
end Go.Proofs.YtcllkjiebfmjpaaGreatDoor.K
set_option linter.unusedVariables false
set_option linter.unusedSimpArgs false
namespace Go.Proofs.YtcllkjiebfmjpaaGreatDoor.K
open Go Go.AM Go.Proofs
/-- what of a right instance the sequences need -/
structure IFacts (x : Inst) : Prop where
  len : x.orders.length ≤ 10
  plc : Plc x
  vne : Vne x
  val : Val x.orders.length x.before
  ne : ∀ p ∈ x.before, p.1 ≠ p.2
  aval : Val x.orders.length x.apart
theorem flt_ok {n : Int} {word : List UInt8} {sm : Int × Int → Int × Int → Bool} {l : List (Int × Int)} (h : fltU n word sm l l.length = []) : ∀ p ∈ l, okP n p = true := by
  intro p hp
  obtain ⟨i, hi, rfl⟩ := List.mem_iff_getElem.1 hp
  have h2 := (List.append_eq_nil_iff.1 h).2
  rw [List.flatMap_eq_nil_iff] at h2
  have h3 := h2 i (by simpa using hi)
  rw [flt, nth_get hi] at h3
  cases h4 : okP n l[i] with
  | true => rfl
  | false => rw [h4] at h3; simp at h3
theorem instFacts {x : Inst} (h : InstOk x) : IFacts x := by
  have ho := h.orders
  obtain ⟨h1, h2⟩ := List.append_eq_nil_iff.1 h.rules
  have ha := flt_ok h1
  have hb := flt_ok h2
  have hpl : Plc x := fun o hm => by
    obtain ⟨i, hi, rfl⟩ := List.mem_iff_getElem.1 hm
    have := ho.2 i hi
    rw [← nth_get hi]
    exact ⟨this.pick.1, this.drp.1⟩
  have val : ∀ l : List (Int × Int), (∀ p ∈ l, okP x.orders.length p = true) → Val x.orders.length l := fun l h p hp => by
    have := h p hp
    simp [okP] at this; omega
  refine ⟨ho.1, hpl, fun i hi => ?_, val _ hb, fun p hp => ?_, val _ ha⟩
  · have h3 := ho.2 i hi
    have h4 := hpl _ (nth_mem hi)
    have h5 := h3.one
    unfold visO
    by_cases h6 : 0 ≤ (nth x.orders i).pick.place
    · simp [h6]
    · have : 0 ≤ (nth x.orders i).drp.place := by omega
      simp [this]
  · have := hb p hp
    simp [okP] at this; exact this.2
theorem hasO_iff {l : List Vis} {o : Int} : hasO l o = true ↔ ∃ v ∈ l, v.order = o := by simp [hasO]
theorem ordS_bit : ∀ (l : List Vis) (i : Nat), (ordS l).testBit i = true ↔ ∃ v ∈ l, v.order.toNat = i := by
  have key : ∀ (l : List Vis) (s i : Nat), (l.foldl (fun s v => s ||| pw v.order.toNat) s).testBit i = true ↔ s.testBit i = true ∨ ∃ v ∈ l, v.order.toNat = i := by
    intro l
    induction l with
    | nil => intro s i; simp
    | cons v l ih =>
      intro s i
      rw [List.foldl_cons, ih, Nat.testBit_or, testBit_pw, Bool.or_eq_true, decide_eq_true_eq, or_assoc]
      refine or_congr Iff.rfl ?_
      constructor
      · rintro (h | ⟨w, hw, h⟩)
        · exact ⟨v, by simp, h⟩
        · exact ⟨w, by simp [hw], h⟩
      · rintro ⟨w, hw, h⟩
        rcases List.mem_cons.1 hw with rfl | hw
        · exact .inl h
        · exact .inr ⟨w, hw, h⟩
  intro l i
  rw [ordS, key]
  simp
def Inr (x : Inst) (l : List Vis) : Prop := ∀ v ∈ l, 0 ≤ v.order ∧ v.order < x.orders.length
theorem ordS_has {x : Inst} {l : List Vis} (hi : Inr x l) (hn : x.orders.length ≤ 60) (o : Int) (h : 0 ≤ o ∧ o ≤ 62) : nHas (ordS l) o = hasO l o := by
  rw [Bool.eq_iff_iff, nHas_iff, ordS_bit, hasO_iff]
  constructor
  · rintro ⟨h1, h2, v, hv, h3⟩
    have := hi v hv
    exact ⟨v, hv, by omega⟩
  · rintro ⟨v, hv, rfl⟩
    exact ⟨h.1, h.2, v, hv, rfl⟩
theorem vIx_at {l : List Vis} (hd : l.Nodup) {k : Nat} (hk : k < l.length) : vIx l (nth l k) = (k : Int) := by
  refine fIx_at hk (by simp) fun j hj => ?_
  have : nth l k ≠ nth l j := by
    rw [nth_get hk, nth_get (by omega)]
    exact fun e => (List.pairwise_iff_getElem.1 hd) j k (by omega) hk hj e.symm
  simpa using this
theorem vIx_get {l : List Vis} {v : Vis} (h : 0 ≤ vIx l v) : (vIx l v).toNat < l.length ∧ nth l (vIx l v).toNat = v := by
  have hl := fIx_lt (f := fun w => decide (v = w)) (l := l)
  unfold vIx fIx at h ⊢
  cases hv : l.findIdx? (fun u => decide (v = u)) with
  | none => rw [hv] at h; simp at h
  | some i =>
    rw [List.findIdx?_eq_some_iff_getElem] at hv
    obtain ⟨h1, h2, _⟩ := hv
    simp at h2
    exact ⟨by simpa using h1, by simp [nth_get h1, h2]⟩
theorem vIx_le {l : List Vis} {k : Nat} (hk : k < l.length) : 0 ≤ vIx l (nth l k) ∧ vIx l (nth l k) ≤ (k : Int) := by
  have hm : 0 ≤ vIx l (nth l k) := vIx_mem.2 (nth_mem hk)
  refine ⟨hm, ?_⟩
  unfold vIx fIx at hm ⊢
  cases hv : l.findIdx? (fun u => decide (nth l k = u)) with
  | none => rw [hv] at hm; simp at hm
  | some i =>
    rw [List.findIdx?_eq_some_iff_getElem] at hv
    obtain ⟨h1, h2, h3⟩ := hv
    simp
    rcases Nat.lt_or_ge k i with h4 | h4
    · have := h3 k h4
      rw [← nth_get hk] at this
      simp at this
    · exact h4
theorem take_mem {l : List Vis} {v : Vis} {i : Nat} (h : v ∈ l.take i) : ∃ j, j < i ∧ j < l.length ∧ nth l j = v := by
  obtain ⟨j, hj, rfl⟩ := List.mem_iff_getElem.1 h
  simp at hj
  exact ⟨j, by omega, by omega, by rw [List.getElem_take, nth_get (by omega)]⟩
theorem mem_take {l : List Vis} {i j : Nat} (h : j < i) (hl : j < l.length) : nth l j ∈ l.take i := by
  rw [nth_get hl]
  exact List.mem_iff_getElem.2 ⟨j, by simp; omega, by simp⟩
theorem twiceB_iff {l : List Vis} : twiceB l = false ↔ l.Nodup := by
  rw [twiceB, List.any_eq_false]
  constructor
  · intro h
    rw [List.nodup_iff_pairwise_ne, List.pairwise_iff_getElem]
    intro i j hi hj hij e
    have := h j (by simpa using hj)
    simp only [decide_eq_true_eq, vIx_mem] at this
    refine this ?_
    rw [nth_get hj, ← e, ← nth_get hi]
    exact mem_take hij hi
  · intro h j hj
    simp only [decide_eq_true_eq, vIx_mem]
    intro hm
    obtain ⟨i, h1, h2, h3⟩ := take_mem hm
    have hj2 : j < l.length := by simpa using hj
    have e1 := vIx_at h h2
    have e2 := vIx_at h hj2
    rw [h3] at e1
    omega
theorem twice_ref {l : List Vis} : ((List.range l.length).any fun i => decide (vIx l (nth l i) ≠ (i : Int))) = twiceB l := by
  rw [Bool.eq_iff_iff]
  constructor
  · intro h
    rw [List.any_eq_true] at h
    obtain ⟨i, hi, h2⟩ := h
    cases ht : twiceB l with
    | true => rfl
    | false => have := vIx_at (twiceB_iff.1 ht) (by simpa using hi); simp [this] at h2
  · intro h
    rw [twiceB, List.any_eq_true] at h
    obtain ⟨j, hj, h2⟩ := h
    simp only [decide_eq_true_eq, vIx_mem] at h2
    obtain ⟨i, h3, h4, h5⟩ := take_mem h2
    rw [List.any_eq_true]
    refine ⟨j, hj, ?_⟩
    have := (vIx_le h4).2
    rw [h5] at this
    simp only [ne_eq, decide_not, Bool.not_eq_true', decide_eq_false_iff_not]
    omega
/-- the first place of an order -/
def oIx (l : List Vis) (b : Int) : Int := fIx (fun v => decide (v.order = b)) l
theorem oIx_mem {l : List Vis} {b : Int} : 0 ≤ oIx l b ↔ ∃ v ∈ l, v.order = b := by
  have := fIx_ge (f := fun v => decide (v.order = b)) (l := l)
  rw [← hasO_iff, hasO, ← this, oIx]; simp
theorem oIx_get {l : List Vis} {b : Int} (h : 0 ≤ oIx l b) : (oIx l b).toNat < l.length ∧ (nth l (oIx l b).toNat).order = b ∧ ∀ j, j < (oIx l b).toNat → (nth l j).order ≠ b := by
  unfold oIx fIx at h ⊢
  cases hv : l.findIdx? (fun v => decide (v.order = b)) with
  | none => rw [hv] at h; simp at h
  | some i =>
    rw [List.findIdx?_eq_some_iff_getElem] at hv
    obtain ⟨h1, h2, h3⟩ := hv
    simp at h2
    refine ⟨by simpa using h1, by simpa [nth_get h1] using h2, fun j hj => ?_⟩
    have hj2 : j < i := by simpa using hj
    have := h3 j hj2
    rw [nth_get (by omega)]
    simpa using this
theorem oIx_le {l : List Vis} {b : Int} {k : Nat} (hk : k < l.length) (h : (nth l k).order = b) : 0 ≤ oIx l b ∧ oIx l b ≤ (k : Int) := by
  have h0 : 0 ≤ oIx l b := oIx_mem.2 ⟨_, nth_mem hk, h⟩
  refine ⟨h0, ?_⟩
  obtain ⟨h1, h2, h3⟩ := oIx_get h0
  rcases Nat.lt_or_ge k (oIx l b).toNat with h4 | h4
  · exact absurd h (h3 k h4)
  · omega
/-- a pair is in order: all visits of its first order stand before the first one of its second -/
theorem beforeB_iff {l : List Vis} {a b : Int} : beforeB l a b = true ↔ (0 ≤ oIx l b → (∃ v ∈ l, v.order = a) ∧ ∀ j, j < l.length → (nth l j).order = a → (j : Int) < oIx l b) := by
  unfold beforeB
  rw [show fIx (fun v => decide (v.order = b)) l = oIx l b from rfl]
  by_cases h : oIx l b < 0
  · rw [if_pos h]
    exact ⟨fun _ h2 => by omega, fun _ => rfl⟩
  · rw [if_neg h, Bool.and_eq_true, hasO_iff]
    have h0 : 0 ≤ oIx l b := by omega
    obtain ⟨h1, h2, h3⟩ := oIx_get h0
    have hd : (!hasO (l.drop (oIx l b).toNat) a) = true ↔ ∀ j, j < l.length → (nth l j).order = a → (j : Int) < oIx l b := by
      rw [Bool.not_eq_true', ← Bool.not_eq_true, hasO_iff]
      constructor
      · intro hno j hj e
        rcases Int.lt_or_le (j : Int) (oIx l b) with h4 | h4
        · exact h4
        · refine absurd ⟨nth l j, ?_, e⟩ hno
          rw [nth_get hj]
          exact List.mem_iff_getElem.2 ⟨j - (oIx l b).toNat, by simp; omega, by simp; congr 1; omega⟩
      · rintro hall ⟨v, hv, e⟩
        obtain ⟨j, hj, rfl⟩ := List.mem_iff_getElem.1 hv
        simp at hj
        rw [List.getElem_drop] at e
        have := hall ((oIx l b).toNat + j) (by omega) (by rw [nth_get (by omega)]; exact e)
        omega
    rw [hd]
    exact ⟨fun h _ => h, fun h => h h0⟩
theorem before_ref {x : Inst} {l : List Vis} (hi : Inr x l) (hn : x.orders.length ≤ 60) {p : Int × Int} (h1 : 0 ≤ p.1 ∧ p.1 < x.orders.length) (h2 : 0 ≤ p.2 ∧ p.2 < x.orders.length) (hne : p.1 ≠ p.2) : rbefB (ordS l) l p = beforeB l p.1 p.2 := by
  rw [Bool.eq_iff_iff, beforeB_iff, rbefB, ordS_has hi hn _ (by omega), ordS_has hi hn _ (by omega)]
  simp only [Bool.or_eq_true, Bool.not_eq_true', Bool.and_eq_true]
  rw [← Bool.not_eq_true, hasO_iff, hasO_iff, ← oIx_mem, ← oIx_mem (b := p.1)]
  constructor
  · rintro (h | ⟨h3, h4⟩) h0
    · exact absurd h0 h
    · refine ⟨h3, fun j hj e => ?_⟩
      rw [List.all_eq_true] at h4
      have h5 := h4 j (by simpa using hj)
      rw [List.all_eq_true] at h5
      obtain ⟨g1, g2, g3⟩ := oIx_get h0
      rcases Int.lt_or_le (j : Int) (oIx l p.2) with h6 | h6
      · exact h6
      · have hne2 : j ≠ (oIx l p.2).toNat := fun e2 => hne (by rw [← e, e2]; exact g2)
        have := h5 (oIx l p.2).toNat (by simp; omega)
        simp [lateB, e, g2] at this
  · intro h
    by_cases h0 : 0 ≤ oIx l p.2
    · obtain ⟨h3, h4⟩ := h h0
      refine .inr ⟨h3, ?_⟩
      rw [List.all_eq_true]
      intro j hj
      rw [List.all_eq_true]
      intro k hk
      simp at hj hk
      cases hb : lateB l p.1 p.2 j k with
      | false => rfl
      | true =>
        simp [lateB] at hb
        have h5 := h4 j hj hb.1
        have h6 := (oIx_le (by omega) hb.2).2
        omega
    · exact .inl h0
theorem rchk_eq {x : Inst} (hf : IFacts x) (l : List Vis) : rchk x l = seqChk x l := by
  by_cases ho : l.any (outB x) = true
  · rw [rchk, if_pos ho, seqChk, if_pos (.inr ho)]
  · have ho' : l.any (outB x) = false := by simpa using ho
    have hi : Inr x l := fun v hv => by
      rw [List.any_eq_false] at ho'
      simpa [outB] using ho' v hv
    have hn : x.orders.length ≤ 60 := by have := hf.len; omega
    rw [rchk, if_neg ho, seqChk]
    by_cases h0 : l.length = 0
    · rw [if_pos h0, if_pos (.inl h0)]
    · have hc : ¬ (l.length = 0 ∨ l.any (outB x) = true) := fun h => h.elim h0 ho
      rw [if_neg h0, if_neg hc, twice_ref]
      have e1 : apB x (ordS l) = x.apart.any fun p => hasO l p.1 && hasO l p.2 := by
        rw [apB, Bool.eq_iff_iff, List.any_eq_true, List.any_eq_true]
        have : ∀ p ∈ x.apart, (nHas (ordS l) p.1 && nHas (ordS l) p.2) = (hasO l p.1 && hasO l p.2) := fun p hp => by
          have := hf.aval p hp
          rw [ordS_has hi hn _ (by omega), ordS_has hi hn _ (by omega)]
        exact ⟨fun ⟨p, hp, h⟩ => ⟨p, hp, by rw [← this p hp]; exact h⟩, fun ⟨p, hp, h⟩ => ⟨p, hp, by rw [this p hp]; exact h⟩⟩
      have e2 : (x.before.all (rbefB (ordS l) l) = false) = ((x.before.any fun p => !beforeB l p.1 p.2) = true) := by
        have : ∀ p ∈ x.before, rbefB (ordS l) l p = beforeB l p.1 p.2 := fun p hp => by
          have := hf.val p hp
          exact before_ref hi hn (by omega) (by omega) (hf.ne p hp)
        rw [List.all_eq_false, List.any_eq_true]
        simp only [eq_iff_iff]
        exact ⟨fun ⟨p, hp, h⟩ => ⟨p, hp, by rw [← this p hp]; simpa using h⟩, fun ⟨p, hp, h⟩ => ⟨p, hp, by rw [this p hp]; simpa using h⟩⟩
      rw [e1]
      simp only [e2]
end Go.Proofs.YtcllkjiebfmjpaaGreatDoor.K
set_option linter.unusedVariables false
set_option linter.unusedSimpArgs false
namespace Go.Proofs.YtcllkjiebfmjpaaGreatDoor.K
open Go Go.AM Go.Proofs
def onB (x : Inst) (l : List Vis) (n i : Nat) : Bool := (l.take n).foldl (fun on v => if v.order = (i : Int) then !v.drp else on) (decide ((nth x.orders i).pick.place < 0))
theorem onB_zero {x : Inst} {l : List Vis} {i : Nat} : onB x l 0 i = decide ((nth x.orders i).pick.place < 0) := by simp [onB]
theorem onB_succ {x : Inst} {l : List Vis} {n i : Nat} (h : n < l.length) : onB x l (n + 1) i = if (nth l n).order = (i : Int) then !(nth l n).drp else onB x l n i := by
  rw [onB, List.take_succ_eq_append_getElem h, List.foldl_append, nth_get h]; rfl
/-- what of a right route the loads need -/
structure SqOk (x : Inst) (l : List Vis) : Prop where
  ne : l ≠ []
  inr : Inr x l
  nd : l.Nodup
  pair : ∀ v ∈ l, pairB x.orders l v = true
theorem sqOk_of {x : Inst} {l : List Vis} (h : seqChk x l = 0) : SqOk x l := by
  unfold seqChk at h
  split at h
  · simp at h
  · rename_i h1
    split at h
    · simp at h
    · split at h
      · simp at h
      · rename_i h3
        split at h
        · simp at h
        · rename_i h4
          refine ⟨fun e => h1 (.inl (by simp [e])), fun v hv => ?_, twiceB_iff.1 (by simpa using h3), fun v hv => ?_⟩
          · have h5 : ¬ (l.any (outB x)) = true := fun e => h1 (.inr e)
            have h6 : outB x v = false := by
              cases hb : outB x v with
              | false => rfl
              | true => exact absurd (List.any_eq_true.2 ⟨v, hv, hb⟩) h5
            simpa [outB] using h6
          · have h5 : l.all (pairB x.orders l) = true := by simpa using h4
            exact List.all_eq_true.1 h5 v hv
/-- the visits of an order on a right route -/
structure OwnV (x : Inst) (l : List Vis) (i : Nat) : Prop where
  pick : 0 ≤ (nth x.orders i).pick.place → (⟨i, false⟩ : Vis) ∈ l
  drp : 0 ≤ (nth x.orders i).drp.place → (⟨i, true⟩ : Vis) ∈ l
  both : 0 ≤ (nth x.orders i).pick.place → 0 ≤ (nth x.orders i).drp.place → vIx l ⟨i, false⟩ < vIx l ⟨i, true⟩
  isP : (⟨i, false⟩ : Vis) ∈ l → 0 ≤ (nth x.orders i).pick.place
  isD : (⟨i, true⟩ : Vis) ∈ l → 0 ≤ (nth x.orders i).drp.place
theorem SqOk.own {x : Inst} {l : List Vis} (h : SqOk x l) {i : Nat} (hi : ∃ v ∈ l, v.order = (i : Int)) : OwnV x l i := by
  obtain ⟨v0, hv0, ho⟩ := hi
  have key : ∀ v ∈ l, v.order = (i : Int) → v ∈ visO x.orders i ∧ ascB l (-1) (visO x.orders i) = true := fun v hv hvo => by
    have := h.pair v hv
    simp only [pairB, hvo, Int.toNat_natCast, Bool.and_eq_true, decide_eq_true_eq] at this
    exact ⟨vIx_mem.1 this.1, this.2⟩
  obtain ⟨_, hasc⟩ := key v0 hv0 ho
  have mem : ∀ b : Bool, (⟨i, b⟩ : Vis) ∈ l → (⟨i, b⟩ : Vis) ∈ visO x.orders i := fun b hb => (key _ hb rfl).1
  have hp : (⟨i, false⟩ : Vis) ∈ visO x.orders i → 0 ≤ (nth x.orders i).pick.place := fun hm => by
    unfold visO at hm
    rcases List.mem_append.1 hm with hm | hm
    · split at hm
      · assumption
      · simp at hm
    · split at hm <;> simp at hm
  have hd : (⟨i, true⟩ : Vis) ∈ visO x.orders i → 0 ≤ (nth x.orders i).drp.place := fun hm => by
    unfold visO at hm
    rcases List.mem_append.1 hm with hm | hm
    · split at hm <;> simp at hm
    · split at hm
      · assumption
      · simp at hm
  have m1 : ∀ v, -1 < vIx l v → v ∈ l := fun v hv => vIx_mem.1 (by omega)
  unfold visO at hasc
  by_cases c1 : 0 ≤ (nth x.orders i).pick.place <;> by_cases c2 : 0 ≤ (nth x.orders i).drp.place
  · simp only [c1, c2, if_true, List.cons_append, List.nil_append, ascB, Bool.and_true, Bool.and_eq_true, decide_eq_true_eq] at hasc
    exact ⟨fun _ => m1 _ hasc.1, fun _ => m1 _ (by omega), fun _ _ => hasc.2, fun _ => c1, fun _ => c2⟩
  · simp only [c1, c2, if_true, if_false, List.append_nil, ascB, Bool.and_true, decide_eq_true_eq] at hasc
    exact ⟨fun _ => m1 _ hasc, fun h => absurd h c2, fun _ h => absurd h c2, fun _ => c1, fun hm => hd (mem _ hm)⟩
  · simp only [c1, c2, if_true, if_false, List.nil_append, ascB, Bool.and_true, decide_eq_true_eq] at hasc
    exact ⟨fun h => absurd h c1, fun _ => m1 _ hasc, fun h => absurd h c1, fun hm => hp (mem _ hm), fun _ => c2⟩
  · exact ⟨fun h => absurd h c1, fun h => absurd h c2, fun h => absurd h c1, fun hm => hp (mem _ hm), fun hm => hd (mem _ hm)⟩
theorem take_iff {l : List Vis} (hn : l.Nodup) {v : Vis} {n : Nat} : v ∈ l.take n ↔ 0 ≤ vIx l v ∧ vIx l v < (n : Int) := by
  constructor
  · intro h
    obtain ⟨j, h1, h2, rfl⟩ := take_mem h
    rw [vIx_at hn h2]; omega
  · intro ⟨h1, h2⟩
    obtain ⟨h3, h4⟩ := vIx_get h1
    rw [← h4]
    exact mem_take (by omega) h3
theorem onB_eq {x : Inst} {l : List Vis} (h : SqOk x l) (i : Nat) : ∀ n, n ≤ l.length → onB x l n i = if (⟨i, true⟩ : Vis) ∈ l.take n then false else if (⟨i, false⟩ : Vis) ∈ l.take n then true else decide ((nth x.orders i).pick.place < 0)
  | 0, _ => by simp [onB]
  | n + 1, hn => by
    have hk : n < l.length := by omega
    have hat := vIx_at h.nd hk
    rw [onB_succ hk, onB_eq h i n (by omega)]
    by_cases c : (nth l n).order = (i : Int)
    · rw [if_pos c]
      have ho := h.own (i := i) ⟨nth l n, nth_mem hk, c⟩
      cases hd : (nth l n).drp with
      | true =>
        have hv : nth l n = ⟨i, true⟩ := by rw [← c, ← hd]
        rw [hv] at hat
        have : (⟨i, true⟩ : Vis) ∈ l.take (n + 1) := (take_iff h.nd).2 (by omega)
        rw [if_pos this]; rfl
      | false =>
        have hv : nth l n = ⟨i, false⟩ := by rw [← c, ← hd]
        rw [hv] at hat
        have h1 : (⟨i, false⟩ : Vis) ∈ l.take (n + 1) := (take_iff h.nd).2 (by omega)
        have h2 : ¬ (⟨i, true⟩ : Vis) ∈ l.take (n + 1) := fun hm => by
          have h3 := List.mem_of_mem_take hm
          have h4 := (take_iff h.nd).1 hm
          have h5 := ho.both (ho.isP (List.mem_of_mem_take h1)) (ho.isD h3)
          omega
        rw [if_neg h2, if_pos h1]; rfl
    · rw [if_neg c]
      have e : ∀ b : Bool, ((⟨i, b⟩ : Vis) ∈ l.take (n + 1)) = ((⟨i, b⟩ : Vis) ∈ l.take n) := fun b => by
        rw [List.take_succ_eq_append_getElem hk, List.mem_append, ← nth_get hk]
        refine propext ⟨fun hm => hm.resolve_right fun hm => ?_, .inl⟩
        simp at hm
        exact c (by rw [← hm])
      simp only [e]
theorem on_now {x : Inst} {l : List Vis} (h : SqOk x l) {k i : Nat} (hk : k < l.length) (hi : (nth l k).order = (i : Int)) : onB x l k i = (nth l k).drp := by
  have hat := vIx_at h.nd hk
  have ho := h.own (i := i) ⟨nth l k, nth_mem hk, hi⟩
  have hm := nth_mem hk
  rw [onB_eq h i k (by omega)]
  cases hd : (nth l k).drp with
  | true =>
    have hv : nth l k = ⟨i, true⟩ := by rw [← hi, ← hd]
    rw [hv] at hat hm
    have h1 : ¬ (⟨i, true⟩ : Vis) ∈ l.take k := fun hm => by have := (take_iff h.nd).1 hm; omega
    rw [if_neg h1]
    by_cases c : 0 ≤ (nth x.orders i).pick.place
    · have h2 := ho.both c (ho.isD hm)
      have h3 : (⟨i, false⟩ : Vis) ∈ l.take k := (take_iff h.nd).2 ⟨vIx_mem.2 (ho.pick c), by omega⟩
      rw [if_pos h3]
    · have : (nth x.orders i).pick.place < 0 := by omega
      split <;> simp [this]
  | false =>
    have hv : nth l k = ⟨i, false⟩ := by rw [← hi, ← hd]
    rw [hv] at hat hm
    have hp := ho.isP hm
    have h1 : ¬ (⟨i, false⟩ : Vis) ∈ l.take k := fun hm => by have := (take_iff h.nd).1 hm; omega
    have h2 : ¬ (nth x.orders i).pick.place < 0 := by omega
    rw [if_neg h1]
    split <;> simp [h2]
theorem sum_one {f g : Nat → Int} {i : Nat} (h : ∀ q, q ≠ i → f q = g q) : ∀ n, i < n → ((List.range n).map f).sum = ((List.range n).map g).sum + (f i - g i) := by
  have same : ∀ n, n ≤ i → ((List.range n).map f).sum = ((List.range n).map g).sum := fun n hn => by
    congr 1
    refine List.map_congr_left fun q hq => h q ?_
    have := List.mem_range.1 hq
    omega
  intro n
  induction n with
  | zero => intro h; omega
  | succ n ih =>
    intro hi
    simp only [List.range_succ, List.map_append, List.map_cons, List.map_nil, List.sum_append, List.sum_cons, List.sum_nil]
    by_cases hn : i = n
    · subst hn
      rw [same i (Nat.le_refl _)]; omega
    · rw [ih (by omega), h n (by omega)]; omega
theorem sum_rng {f : Nat → Int} {b : Int} (hb : 0 ≤ b) (h : ∀ q, 0 ≤ f q ∧ f q ≤ b) : ∀ n : Nat, 0 ≤ ((List.range n).map f).sum ∧ ((List.range n).map f).sum ≤ b * n
  | 0 => by simp
  | n + 1 => by
    have ih := sum_rng hb h n
    have := h n
    simp only [List.range_succ, List.map_append, List.map_cons, List.map_nil, List.sum_append, List.sum_cons, List.sum_nil]
    rw [Int.natCast_add, Int.mul_add]
    omega
theorem sum_filter {p : Nat → Bool} {f : Nat → Int} : ∀ l : List Nat, ((l.filter p).map f).sum = (l.map fun i => if p i = true then f i else 0).sum
  | [] => rfl
  | a :: l => by
    rw [List.filter_cons, List.map_cons, List.sum_cons]
    by_cases h : p a = true
    · rw [if_pos h, List.map_cons, List.sum_cons, sum_filter l, if_pos h]
    · rw [if_neg h, sum_filter l, if_neg h]; omega
/-- the load on board behind n visits, in one dimension -/
def sumB (x : Inst) (l : List Vis) (n j : Nat) : Int := ((List.range x.orders.length).map fun i => if (onB x l n i && hasO l i) = true then nth (nth x.orders i).load j else 0).sum
theorem sumB_succ {x : Inst} {l : List Vis} (h : SqOk x l) {k j : Nat} (hk : k < l.length) : sumB x l (k + 1) j = if (nth l k).drp = true then sumB x l k j - nth (nth x.orders (nth l k).order.toNat).load j else sumB x l k j + nth (nth x.orders (nth l k).order.toNat).load j := by
  obtain ⟨v1, v2⟩ := h.inr _ (nth_mem hk)
  obtain ⟨i, hi⟩ : ∃ i : Nat, (nth l k).order = (i : Int) := ⟨(nth l k).order.toNat, by omega⟩
  have hh : hasO l (i : Int) = true := hasO_iff.2 ⟨_, nth_mem hk, hi⟩
  have h1 := on_now h hk hi
  have h2 : onB x l (k + 1) i = !(nth l k).drp := by rw [onB_succ hk, if_pos hi]
  unfold sumB
  rw [sum_one (f := fun i => if (onB x l (k + 1) i && hasO l i) = true then nth (nth x.orders i).load j else 0) (g := fun i => if (onB x l k i && hasO l i) = true then nth (nth x.orders i).load j else 0) (i := i) (fun q hq => by
    have : onB x l (k + 1) q = onB x l k q := by rw [onB_succ hk, if_neg (by omega)]
    simp only [this]) x.orders.length (by omega)]
  rw [h1, h2, hh, hi, Int.toNat_natCast]
  cases (nth l k).drp
  · simp
  · simp; omega
/-- what is on board behind n visits -/
def aftF (x : Inst) (l : List Vis) (n : Nat) : List Int := (List.range (dimsOf x.types).toNat).map fun j => sumB x l n j
def addF (a b : List Int) : List Int := (List.range a.length).map fun j => nth a j + nth b j
def subF (a b : List Int) : List Int := (List.range a.length).map fun j => nth a j - nth b j
theorem aftF_len {x : Inst} {l : List Vis} {n : Nat} : (aftF x l n).length = (dimsOf x.types).toNat := by simp [aftF]
theorem nthI_map {f : Nat → Int} {n j : Nat} (h : j < n) : nth ((List.range n).map f) j = f j := by
  rw [nth_get (by simpa using h)]; simp
theorem aftF_succ {x : Inst} {l : List Vis} (h : SqOk x l) {k : Nat} (hk : k < l.length) : aftF x l (k + 1) = if (nth l k).drp = true then subF (aftF x l k) (nth x.orders (nth l k).order.toNat).load else addF (aftF x l k) (nth x.orders (nth l k).order.toNat).load := by
  have key : ∀ g : Nat → Int, (∀ j, j < (dimsOf x.types).toNat → sumB x l (k + 1) j = g j) → aftF x l (k + 1) = (List.range (dimsOf x.types).toNat).map g := fun g hg =>
    List.map_congr_left fun j hj => hg j (List.mem_range.1 hj)
  split
  · rename_i hd
    unfold subF
    rw [aftF_len]
    refine key _ fun j hj => ?_
    rw [sumB_succ h hk, if_pos hd, aftF, nthI_map hj]
  · rename_i hd
    unfold addF
    rw [aftF_len]
    refine key _ fun j hj => ?_
    rw [sumB_succ h hk, if_neg hd, aftF, nthI_map hj]
end Go.Proofs.YtcllkjiebfmjpaaGreatDoor.K
set_option linter.unusedVariables false
set_option linter.unusedSimpArgs false
namespace Go.Proofs.YtcllkjiebfmjpaaGreatDoor.K
open Go Go.AM Go.Proofs
set_option maxRecDepth 8000
set_option maxHeartbeats 8000000
def cmpL : List Int → List Int → Int
  | [], [] => 0
  | [], _ :: _ => -1
  | _ :: _, [] => 1
  | x :: a, y :: b => if x < y then -1 else if y < x then 1 else cmpL a b
theorem cmpL_step {a b : List Int} {k : Nat} (ha : k < a.length) (hb : k < b.length) : cmpL (a.drop k) (b.drop k) = if nth a k < nth b k then -1 else if nth b k < nth a k then 1 else cmpL (a.drop (k + 1)) (b.drop (k + 1)) := by
  rw [List.drop_eq_getElem_cons ha, List.drop_eq_getElem_cons hb, cmpL, nth_get ha, nth_get hb]
theorem cmpL_end {a b : List Int} {k : Nat} (h : k = a.length ∨ k = b.length) (ha : k ≤ a.length) (hb : k ≤ b.length) : cmpL (a.drop k) (b.drop k) = if a.length < b.length then -1 else if b.length < a.length then 1 else 0 := by
  by_cases h1 : k < a.length
  · have : k = b.length := by omega
    subst this
    rw [List.drop_length, List.drop_eq_getElem_cons h1, cmpL]
    have : ¬ a.length < b.length := by omega
    simp [this, h1]
  · have h1 : k = a.length := by omega
    by_cases h2 : k < b.length
    · subst h1
      rw [List.drop_length, List.drop_eq_getElem_cons h2, cmpL]
      simp [h2]
    · have h2 : k = b.length := by omega
      have h3 : a.drop k = [] := by rw [h1]; simp
      have h4 : b.drop k = [] := by rw [h2]; simp
      rw [h3, h4, cmpL]
      have : ¬ a.length < b.length := by omega
      have : ¬ b.length < a.length := by omega
      simp [*]
theorem slCompare_c (a b : List Int) (c d : Bool) (ha : a.length ≤ 1048576) (hb : b.length ≤ 1048576) : ACalls Tryz.prog 63 [.p (.list c (a.map eI)), .p (.list d (b.map eI))] [] fun x H' => x = .p (.int .i64 (cmpL a b)) ∧ H' = [] := by
  refine acalls_pure (fn := Tryz.f63) Tryz.func63 rfl isF63 ?_
  simp (disch := omega) only [Tryz.f63, go_sem, seval, reduceCtorEq, ↓reduceIte]
  refine awp_for [0, 1, 9, 10] (fun k : Nat => [(11, .p (.int .i64 k))]) (fun _ => []) (fun k => (k ≤ a.length ∧ k ≤ b.length) ∧ cmpL a b = cmpL (a.drop k) (b.drop k)) (fun k => a.length - k) 0 (by simp) (Weak.mk ?_) ?_
  · simp (disch := omega) only [go_sem, seval, reduceCtorEq, ↓reduceIte]
  · rintro k ⟨⟨hk1, hk2⟩, hc⟩
    simp (disch := omega) only [go_sem, seval, reduceCtorEq, ↓reduceIte]
    refine acond_b (fun h1 => ?_) (fun h1 => ?_) <;> (try simp only [decide_eq_true_eq, decide_eq_false_iff_not] at h1) <;> simp (disch := omega) only [Sh.out h1, go_sem, seval, reduceCtorEq, ↓reduceIte]
    · have h1' : k < a.length := by omega
      refine acond_b (fun h2 => ?_) (fun h2 => ?_) <;> (try simp only [decide_eq_true_eq, decide_eq_false_iff_not] at h2) <;> simp (disch := omega) only [Sh.out h2, go_sem, seval, reduceCtorEq, ↓reduceIte]
      · have hkb : k = b.length := by omega
        rw [hc, cmpL_end (.inr hkb) hk1 hk2, if_neg (by omega), if_pos (by omega)]
      · have h2' : k < b.length := by omega
        rw [cmpL_step h1' h2'] at hc
        refine (cmp_c (nth a k) (nth b k)).use ?_
        simp (disch := omega) only [go_sem, seval, reduceCtorEq, ↓reduceIte]
        unfold cmpI
        refine acond_b (fun h3 => ?_) (fun h3 => ?_) <;> (try simp only [decide_eq_true_eq, decide_eq_false_iff_not] at h3) <;> simp (disch := omega) only [Sh.out h3, go_sem, seval, reduceCtorEq, ↓reduceIte]
        · rw [hc]
          by_cases h4 : nth a k < nth b k
          · simp only [if_pos h4]
          · by_cases h5 : nth b k < nth a k
            · simp only [if_neg h4, if_pos h5]
            · exact absurd (by rw [if_neg h4, if_neg h5]) h3
        · have h4 : ¬ nth a k < nth b k := fun h => by rw [if_pos h] at h3; exact h3 (by decide)
          have h5 : ¬ nth b k < nth a k := fun h => by rw [if_neg h4, if_pos h] at h3; exact h3 (by decide)
          rw [if_neg h4, if_neg h5] at hc
          exact ⟨k + 1, ⟨⟨by omega, by omega⟩, hc⟩, by omega, Weak.mk (by simp (disch := omega) only [go_sem, seval, reduceCtorEq, ↓reduceIte])⟩
    · have hka : k = a.length := by omega
      refine acond_b (fun h2 => ?_) (fun h2 => ?_) <;> (try simp only [decide_eq_true_eq, decide_eq_false_iff_not] at h2) <;> simp (disch := omega) only [Sh.out h2, go_sem, seval, reduceCtorEq, ↓reduceIte]
      · rw [hc, cmpL_end (.inl hka) hk1 hk2, if_pos (by omega)]
      · rw [hc, cmpL_end (.inl hka) hk1 hk2, if_neg (by omega), if_neg (by omega)]
def maxL (l : List Int) (k : Nat) : Int := (l.take k).foldl max (nth l 0)
def minL (l : List Int) (k : Nat) : Int := (l.take k).foldl min (nth l 0)
theorem maxL_succ {l : List Int} {k : Nat} (h : k < l.length) : maxL l (k + 1) = max (maxL l k) (nth l k) := by
  rw [maxL, List.take_succ_eq_append_getElem h, List.foldl_append, nth_get h]; rfl
theorem minL_succ {l : List Int} {k : Nat} (h : k < l.length) : minL l (k + 1) = min (minL l k) (nth l k) := by
  rw [minL, List.take_succ_eq_append_getElem h, List.foldl_append, nth_get h]; rfl
theorem maxL_one {l : List Int} (h : 0 < l.length) : maxL l 1 = nth l 0 := by rw [maxL_succ h]; simp [maxL]
theorem minL_one {l : List Int} (h : 0 < l.length) : minL l 1 = nth l 0 := by rw [minL_succ h]; simp [minL]
theorem mmL_rng {l : List Int} {B : Int} (h : ∀ n ∈ l, -B ≤ n ∧ n ≤ B) (h0 : 0 < l.length) : ∀ k, k ≤ l.length → (-B ≤ minL l k ∧ minL l k ≤ B) ∧ (-B ≤ maxL l k ∧ maxL l k ≤ B)
  | 0, _ => by have := h _ (nth_mem h0); simp [minL, maxL]; omega
  | k + 1, hk => by
    have ih := mmL_rng h h0 k (by omega)
    have := h _ (nth_mem (show k < l.length by omega))
    rw [minL_succ (by omega), maxL_succ (by omega)]
    omega
@[go_sem high] theorem amin_mn {k k' : IntKind} {a b : Int} : amax true [.p (.int k a), .p (.int k' b)] = some (.int k (min a b)) := by
  simp only [amax]
  by_cases h : b < a
  · simp [h]; omega
  · simp [h]; omega
@[go_sem high] theorem amax_mx2 {k k' : IntKind} {a b : Int} : amax false [.p (.int k a), .p (.int k' b)] = some (.int k (max a b)) := by
  simp only [amax]
  by_cases h : a < b
  · simp [h]; omega
  · simp [h]; omega
theorem slMax_c (l : List Int) (c : Bool) (h0 : 0 < l.length) (hl : l.length ≤ 1048576) : ACalls Tryz.prog 60 [.p (.list c (l.map eI))] [] fun x H' => x = .p (.int .i64 (maxL l l.length)) ∧ H' = [] := by
  have e1 : ¬ (l.length : Int) < 1 := by omega
  refine acalls_pure (fn := Tryz.f60) Tryz.func60 rfl isF60 ?_
  simp (disch := omega) only [Tryz.f60, e1, go_sem, seval, reduceCtorEq, ↓reduceIte]
  refine awp_for [0] (fun k : Nat => [(3, .p (.int .i64 (maxL l k))), (4, .p (.int .i64 k))]) (fun _ => []) (fun k => k ≤ l.length) (fun k => l.length - k) 1 (by omega) (Weak.mk ?_) ?_
  · simp (disch := omega) only [maxL_one h0, go_sem, seval, reduceCtorEq, ↓reduceIte]
  · intro k hk
    simp (disch := omega) only [go_sem, seval, reduceCtorEq, ↓reduceIte]
    refine acond_b (fun h1 => ?_) (fun h1 => ?_) <;> (try simp only [decide_eq_true_eq, decide_eq_false_iff_not] at h1) <;> simp (disch := omega) only [Sh.out h1, go_sem, seval, reduceCtorEq, ↓reduceIte]
    · exact ⟨k + 1, by omega, by omega, Weak.mk (by simp (disch := omega) only [maxL_succ (show k < l.length by omega), go_sem, seval, reduceCtorEq, ↓reduceIte])⟩
    · have : k = l.length := by omega
      subst this
      rfl
theorem slMin_c (l : List Int) (c : Bool) (h0 : 0 < l.length) (hl : l.length ≤ 1048576) : ACalls Tryz.prog 61 [.p (.list c (l.map eI))] [] fun x H' => x = .p (.int .i64 (minL l l.length)) ∧ H' = [] := by
  have e1 : ¬ (l.length : Int) < 1 := by omega
  refine acalls_pure (fn := Tryz.f61) Tryz.func61 rfl isF61 ?_
  simp (disch := omega) only [Tryz.f61, e1, go_sem, seval, reduceCtorEq, ↓reduceIte]
  refine awp_for [0] (fun k : Nat => [(3, .p (.int .i64 (minL l k))), (4, .p (.int .i64 k))]) (fun _ => []) (fun k => k ≤ l.length) (fun k => l.length - k) 1 (by omega) (Weak.mk ?_) ?_
  · simp (disch := omega) only [minL_one h0, go_sem, seval, reduceCtorEq, ↓reduceIte]
  · intro k hk
    simp (disch := omega) only [go_sem, seval, reduceCtorEq, ↓reduceIte]
    refine acond_b (fun h1 => ?_) (fun h1 => ?_) <;> (try simp only [decide_eq_true_eq, decide_eq_false_iff_not] at h1) <;> simp (disch := omega) only [Sh.out h1, go_sem, seval, reduceCtorEq, ↓reduceIte]
    · exact ⟨k + 1, by omega, by omega, Weak.mk (by simp (disch := omega) only [minL_succ (show k < l.length by omega), go_sem, seval, reduceCtorEq, ↓reduceIte])⟩
    · have : k = l.length := by omega
      subst this
      rfl
def sprL (l : List Int) : Int := if l.length = 0 then 0 else maxL l l.length - minL l l.length
theorem spread_c (l : List Int) (c : Bool) (hl : l.length ≤ 1048576) (h : ∀ n ∈ l, -1152921504606846976 ≤ n ∧ n ≤ 1152921504606846976) : ACalls Tryz.prog 29 [.p (.list c (l.map eI))] [] fun x H' => x = .p (.int .i64 (sprL l)) ∧ H' = [] := by
  refine acalls_pure (fn := Tryz.f29) Tryz.func29 rfl isF29 ?_
  simp (disch := omega) only [Tryz.f29, go_sem, seval, reduceCtorEq, ↓reduceIte]
  refine acond_b (fun h1 => ?_) (fun h1 => ?_) <;> (try simp only [decide_eq_true_eq, decide_eq_false_iff_not] at h1) <;> simp (disch := omega) only [Sh.out h1, go_sem, seval, reduceCtorEq, ↓reduceIte]
  · rw [sprL, if_pos (by omega)]
  · have h0 : 0 < l.length := by omega
    have hr := mmL_rng h h0 l.length (Nat.le_refl _)
    refine (slMax_c l c h0 hl).use ?_
    simp (disch := omega) only [go_sem, seval, reduceCtorEq, ↓reduceIte]
    refine (slMin_c l c h0 hl).use ?_
    simp (disch := omega) only [go_sem, seval, reduceCtorEq, ↓reduceIte]
    rw [sprL, if_neg (by omega)]
end Go.Proofs.YtcllkjiebfmjpaaGreatDoor.K
set_option linter.unusedVariables false
set_option linter.unusedSimpArgs false
namespace Go.Proofs.YtcllkjiebfmjpaaGreatDoor.K
open Go Go.AM Go.Proofs
set_option maxRecDepth 8000
set_option maxHeartbeats 8000000
def segI (l : List Pt) (t : Int) (i : Nat) : Bool := decide ((nth l i).t ≤ t) && decide (t < (nth l (i + 1)).t)
def segA (p q : Pt) (t : Int) : Int := p.a + ((t - p.t) * (q.a - p.a) + q.t - p.t - 1) / (q.t - p.t)
/-- the arrival of a travel function -/
def arrT (l : List Pt) (t : Int) : Int := match (List.range (l.length - 1)).find? (segI l t) with
  | some i => segA (nth l i) (nth l (i + 1)) t
  | none => if (nth l 0).t < t then t + (nth l (l.length - 1)).a - (nth l (l.length - 1)).t else t + (nth l 0).a - (nth l 0).t
theorem arrT_at {l : List Pt} {t : Int} {i : Nat} (hi : i + 1 < l.length) (hno : ∀ j, j < i → segI l t j = false) (h : segI l t i = true) : arrT l t = segA (nth l i) (nth l (i + 1)) t := by
  have : (List.range (l.length - 1)).find? (segI l t) = some i := by
    rw [List.find?_eq_some_iff_getElem]
    refine ⟨h, i, by simp; omega, by simp, fun j hj => ?_⟩
    simp [hno j hj]
  rw [arrT, this]
theorem arrT_no {l : List Pt} {t : Int} (hno : ∀ j, j + 1 < l.length → segI l t j = false) : arrT l t = if (nth l 0).t < t then t + (nth l (l.length - 1)).a - (nth l (l.length - 1)).t else t + (nth l 0).a - (nth l 0).t := by
  have : (List.range (l.length - 1)).find? (segI l t) = none := by
    rw [List.find?_eq_none]
    intro j hj
    simp at hj
    rw [hno j (by omega)]; simp
  rw [arrT, this]
theorem segA_rng {p q : Pt} {t : Int} (h1 : p.t ≤ t) (h2 : t < q.t) (hp : 0 ≤ p.t) (hq : q.t ≤ 4096) (ha : p.a ≤ q.a) (hpa : 0 ≤ p.a) (hqa : q.a ≤ 8192) : 0 ≤ (t - p.t) * (q.a - p.a) ∧ (t - p.t) * (q.a - p.a) ≤ 33554432 := by
  refine ⟨Int.mul_nonneg (by omega) (by omega), ?_⟩
  have : (t - p.t) * (q.a - p.a) ≤ 4096 * 8192 := Int.mul_le_mul (by omega) (by omega) (by omega) (by omega)
  omega
theorem arrive07_c (l : List Pt) (c : Bool) (t : Int) (hl : ptsOk l) (ht : 0 ≤ t ∧ t ≤ 1073741824) : ACalls Tryz.prog 289 [.p (.list c (l.map ePt)), .p (.int .i64 t)] [] fun x H' => x = .p (.int .i64 (arrT l t)) ∧ H' = [] := by
  obtain ⟨⟨hl1, hl2⟩, hpt⟩ := hl
  refine acalls_pure (fn := Tryz.f289) Tryz.func289 rfl isF289 ?_
  simp (disch := omega) only [Tryz.f289, go_sem, seval, reduceCtorEq, ↓reduceIte]
  refine ((ck07_c l c (by omega)).frozenE).useV fun m hm => ?_
  simp (disch := omega) only [go_sem, seval, reduceCtorEq, ↓reduceIte]
  have hm0 : m.length = 0 := by rw [hm.emp.2 ⟨⟨hl1, hl2⟩, hpt⟩]; rfl
  have e1 : ¬ t < 0 := by omega
  have e2 : ¬ 1073741824 < t := by omega
  simp (disch := omega) only [hm0, e1, e2, go_sem, seval, reduceCtorEq, ↓reduceIte]
  refine awp_for [0, 1] (fun k : Nat => [(5, .p (.int .i64 k))]) (fun _ => []) (fun k => k < l.length ∧ ∀ j, j < k → segI l t j = false) (fun k => l.length - k) 0 (by simp; omega) (Weak.mk ?_) ?_
  · simp (disch := omega) only [go_sem, seval, reduceCtorEq, ↓reduceIte]
  · rintro k ⟨hk, hno⟩
    simp (disch := omega) only [go_sem, seval, reduceCtorEq, ↓reduceIte]
    refine acond_b (fun h => ?_) (fun h => ?_) <;> (try simp only [decide_eq_true_eq, decide_eq_false_iff_not] at h) <;> simp (disch := omega) only [Sh.out h, go_sem, seval, reduceCtorEq, ↓reduceIte]
    · have hk2 : k + 1 < l.length := by omega
      obtain ⟨⟨p1, p2, p3, p4⟩, _⟩ := hpt k hk
      obtain ⟨⟨q1, q2, q3, q4⟩, q5⟩ := hpt (k + 1) hk2
      obtain ⟨r1, r2⟩ := q5 (by omega)
      rw [Nat.add_sub_cancel] at r1 r2
      refine aguard_t (fun h2 => ?_) (fun h2 => ?_) <;> (try simp only [decide_eq_true_eq, decide_eq_false_iff_not] at h2) <;> simp (disch := omega) only [Sh.out h2, go_sem, seval, reduceCtorEq, ↓reduceIte]
      · refine acond_b (fun h3 => ?_) (fun h3 => ?_) <;> (try simp only [decide_eq_true_eq, decide_eq_false_iff_not] at h3) <;> simp (disch := omega) only [Sh.out h3, go_sem, seval, reduceCtorEq, ↓reduceIte]
        · have hsg : segI l t k = true := by simp [segI, h2, h3]
          rw [arrT_at hk2 hno hsg]
          obtain ⟨s1, s2⟩ := segA_rng h2 h3 p1 q2 r2 (by omega) (by omega)
          have d1 : 0 ≤ ((t - (nth l k).t) * ((nth l (k + 1)).a - (nth l k).a) + (nth l (k + 1)).t - (nth l k).t - 1) / ((nth l (k + 1)).t - (nth l k).t) := Int.ediv_nonneg (by omega) (by omega)
          have d2 : ((t - (nth l k).t) * ((nth l (k + 1)).a - (nth l k).a) + (nth l (k + 1)).t - (nth l k).t - 1) / ((nth l (k + 1)).t - (nth l k).t) ≤ 33558528 := Int.le_trans (Int.ediv_le_self _ (by omega)) (by omega)
          have d3 : ¬ (nth l (k + 1)).t - (nth l k).t = 0 := by omega
          simp only [segA]
          refine awp_drawnA mixed (by kernel_rfl) (by kernel_rfl) ?_
          simp (disch := omega) only [d3, go_sem, seval, reduceCtorEq, ↓reduceIte]
        · have hsg : segI l t k = false := by simp [segI, h3]
          exact ⟨k + 1, ⟨by omega, upto_iff.2 ⟨hno, hsg⟩⟩, by omega, Weak.mk (by simp (disch := omega) only [go_sem, seval, reduceCtorEq, ↓reduceIte])⟩
      · have hsg : segI l t k = false := by simp [segI, h2]
        exact ⟨k + 1, ⟨by omega, upto_iff.2 ⟨hno, hsg⟩⟩, by omega, Weak.mk (by simp (disch := omega) only [go_sem, seval, reduceCtorEq, ↓reduceIte])⟩
    · have hkl : k + 1 = l.length := by omega
      rw [arrT_no (fun j hj => hno j (by omega))]
      obtain ⟨⟨p1, p2, p3, p4⟩, _⟩ := hpt 0 (by omega)
      obtain ⟨⟨q1, q2, q3, q4⟩, _⟩ := hpt (l.length - 1) (by omega)
      have i1 : ((l.length : Int) - 1).toNat = l.length - 1 := by omega
      refine acond_b (fun h2 => ?_) (fun h2 => ?_) <;> (try simp only [decide_eq_true_eq, decide_eq_false_iff_not] at h2) <;> simp (disch := omega) only [Sh.out h2, go_sem, seval, reduceCtorEq, ↓reduceIte]
theorem nth_in {α : Type} [Inhabited α] {l : List α} {i : Nat} (h : i < l.length) : nth l i ∈ l := by rw [nth_get h]; exact List.getElem_mem h
/-- the arrival over an arc -/
def arcR (a : Arc) : Prop := ptsOk a.travel ∧ a.slow.length ≤ 16 ∧ ∀ p ∈ a.slow, 0 ≤ p.t ∧ p.t ≤ 4096 ∧ 0 ≤ p.a ∧ p.a ≤ 4096
def slowS (l : List Pt) (t : Int) (k : Nat) : Int := (l.take k).foldl (fun s p => if p.t ≤ t then s + p.a else s) 0
def arrA (a : Arc) (t : Int) : Int := arrT a.travel t + slowS a.slow t a.slow.length
theorem slowS_succ {l : List Pt} {t : Int} {k : Nat} (h : k < l.length) : slowS l t (k + 1) = if (nth l k).t ≤ t then slowS l t k + (nth l k).a else slowS l t k := by
  rw [slowS, List.take_succ_eq_append_getElem h, List.foldl_append, nth_get h]; rfl
theorem slowS_rng {l : List Pt} {t : Int} (hl : ∀ p ∈ l, 0 ≤ p.a ∧ p.a ≤ 4096) : ∀ k, k ≤ l.length → 0 ≤ slowS l t k ∧ slowS l t k ≤ 4096 * k
  | 0, _ => by simp [slowS]
  | k + 1, h => by
    have ih := slowS_rng (t := t) hl k (by omega)
    have hp := hl _ (nth_in (show k < l.length by omega))
    rw [slowS_succ (by omega)]
    split <;> omega
theorem arrT_rng {l : List Pt} {t : Int} (hl : ptsOk l) (ht : 0 ≤ t ∧ t ≤ 1073741824) : 0 ≤ arrT l t ∧ arrT l t ≤ 1107304448 := by
  obtain ⟨⟨hl1, hl2⟩, hpt⟩ := hl
  unfold arrT
  split
  · rename_i i hi
    have hm := List.mem_of_find?_eq_some hi
    have hs := List.find?_some hi
    simp at hm
    simp only [segI, Bool.and_eq_true, decide_eq_true_eq] at hs
    obtain ⟨⟨p1, p2, p3, p4⟩, _⟩ := hpt i (by omega)
    obtain ⟨⟨q1, q2, q3, q4⟩, q5⟩ := hpt (i + 1) (by omega)
    obtain ⟨r1, r2⟩ := q5 (by omega)
    rw [Nat.add_sub_cancel] at r1 r2
    obtain ⟨s1, s2⟩ := segA_rng hs.1 hs.2 p1 q2 r2 (by omega) (by omega)
    have d1 : 0 ≤ ((t - (nth l i).t) * ((nth l (i + 1)).a - (nth l i).a) + (nth l (i + 1)).t - (nth l i).t - 1) / ((nth l (i + 1)).t - (nth l i).t) := Int.ediv_nonneg (by omega) (by omega)
    have d2 : ((t - (nth l i).t) * ((nth l (i + 1)).a - (nth l i).a) + (nth l (i + 1)).t - (nth l i).t - 1) / ((nth l (i + 1)).t - (nth l i).t) ≤ 33558528 := Int.le_trans (Int.ediv_le_self _ (by omega)) (by omega)
    unfold segA
    omega
  · obtain ⟨⟨p1, p2, p3, p4⟩, _⟩ := hpt 0 (by omega)
    obtain ⟨⟨q1, q2, q3, q4⟩, _⟩ := hpt (l.length - 1) (by omega)
    split <;> omega
theorem arrive09_c (a : Arc) (t : Int) (ha : arcR a) (ht : 0 ≤ t ∧ t ≤ 1073741824) : ACalls Tryz.prog 281 [.p (eArc a), .p (.int .i64 t)] [] fun x H' => x = .p (.int .i64 (arrA a t)) ∧ H' = [] := by
  obtain ⟨h1, h2, h3⟩ := ha
  have hr := arrT_rng h1 ht
  have hs := slowS_rng (t := t) (fun p hp => (h3 p hp).2.2)
  refine acalls_pure (fn := Tryz.f281) Tryz.func281 rfl isF281 ?_
  simp (disch := omega) only [Tryz.f281, go_sem, seval, reduceCtorEq, ↓reduceIte]
  refine (arrive07_c a.travel a.travel_c t h1 ht).use ?_
  simp (disch := omega) only [go_sem, seval, reduceCtorEq, ↓reduceIte]
  refine awp_for [1, 2] (fun k : Nat => [(5, .p (.int .i64 (arrT a.travel t + slowS a.slow t k))), (6, .p (.int .i64 k))]) (fun _ => [arcO a]) (fun k => k ≤ a.slow.length) (fun k => a.slow.length - k) 0 (by simp) (Weak.mk ?_) ?_
  · simp (disch := omega) only [arcO, slowS, List.foldl_nil, go_sem, seval, reduceCtorEq, ↓reduceIte]
    simp
  · intro k hk
    have hsk := hs k hk
    simp (disch := omega) only [arcO, go_sem, seval, reduceCtorEq, ↓reduceIte]
    refine acond_b (fun h => ?_) (fun h => ?_) <;> (try simp only [decide_eq_true_eq, decide_eq_false_iff_not] at h) <;> simp (disch := omega) only [Sh.out h, go_sem, seval, reduceCtorEq, ↓reduceIte]
    · have hk2 : k < a.slow.length := by omega
      have hp := h3 _ (nth_in hk2)
      have hsn := slowS_succ (t := t) hk2
      refine acond_b (fun h4 => ?_) (fun h4 => ?_) <;> (try simp only [decide_eq_true_eq, decide_eq_false_iff_not] at h4) <;> simp (disch := omega) only [Sh.out h4, go_sem, seval, reduceCtorEq, ↓reduceIte]
      · rw [if_pos h4] at hsn
        exact ⟨k + 1, by omega, by omega, Weak.mk (by simp (disch := omega) only [arcO, hsn, Int.add_assoc, go_sem, seval, reduceCtorEq, ↓reduceIte])⟩
      · rw [if_neg h4] at hsn
        exact ⟨k + 1, by omega, by omega, Weak.mk (by simp (disch := omega) only [arcO, hsn, go_sem, seval, reduceCtorEq, ↓reduceIte])⟩
    · have hkl : k = a.slow.length := by omega
      subst hkl
      simp only [arrA]
end Go.Proofs.YtcllkjiebfmjpaaGreatDoor.K
set_option linter.unusedVariables false
set_option linter.unusedSimpArgs false
namespace Go.Proofs.YtcllkjiebfmjpaaGreatDoor.K
open Go Go.AM Go.Proofs
set_option maxRecDepth 8000
set_option maxHeartbeats 8000000
theorem useT3 {g : FuncId} {args : List V} {a b c : PV} {H : List AM.Obj} {K : V → List AM.Obj → Prop} (h : ACalls Tryz.prog g args [] fun x H' => x = .tup [.p a, .p b, .p c] ∧ H' = []) (k : K (.tup [.p a, .p b, .p c]) H) (ha : refBs 0 args = true := by rfl) : ACalls Tryz.prog g args H K :=
  (h.behind ha H).mono fun x H' hq => by
    obtain ⟨y, H1, ⟨rfl, rfl⟩, rfl, rfl⟩ := hq
    simpa [shV, shVs] using k
theorem useT' {g : FuncId} {args : List V} {a b : PV} {H : List AM.Obj} {K : V → List AM.Obj → Prop} (h : ACalls Tryz.prog g args [] fun x H' => x = .tup [.p a, .p b] ∧ H' = []) (k : K (.tup [.p a, .p b]) H) (ha : refBs 0 args = true := by rfl) : ACalls Tryz.prog g args H K :=
  (h.behind ha H).mono fun x H' hq => by
    obtain ⟨y, H1, ⟨rfl, rfl⟩, rfl, rfl⟩ := hq
    simpa [shV, shVs] using k
def placeB (n : Net) (p : Int) : Bool := decide (0 ≤ p) && decide (p < (n.places.length : Int))
theorem place09_c (n : Net) (p : Int) (hn : n.places.length ≤ 1048576) : ACalls Tryz.prog 279 [.p (eNet n), .p (.int .i64 p)] [] fun x H' => x = .p (.bool (placeB n p)) ∧ H' = [] := by
  refine acalls_pure (fn := Tryz.f279) Tryz.func279 rfl isF279 ?_
  simp (disch := omega) only [Tryz.f279, go_sem, seval, reduceCtorEq, ↓reduceIte]
  refine aguard_t (fun h => ?_) (fun h => ?_) <;> (try simp only [decide_eq_true_eq, decide_eq_false_iff_not] at h) <;> simp (disch := omega) only [Sh.out h, go_sem, seval, reduceCtorEq, ↓reduceIte]
  · simp [placeB, h]
  · simp [placeB, h]
def arcEq (pr f t : Int) (a : Arc) : Bool := decide (a.src = f) && decide (a.dst = t) && decide (a.prof = pr)
def zeroArc : Arc := ⟨0, 0, 0, 0, true, [], true, []⟩
def findA (n : Net) (pr f t : Int) : Arc × Bool := match n.arcs.find? (arcEq pr f t) with | some a => (a, true) | none => (zeroArc, false)
theorem findA_at {n : Net} {pr f t : Int} {k : Nat} (hk : k < n.arcs.length) (hno : ∀ j, j < k → arcEq pr f t (nth n.arcs j) = false) (h : arcEq pr f t (nth n.arcs k) = true) : findA n pr f t = (nth n.arcs k, true) := by
  have : n.arcs.find? (arcEq pr f t) = some (nth n.arcs k) := by
    rw [List.find?_eq_some_iff_getElem]
    refine ⟨h, k, hk, by rw [nth_get hk], fun j hj => ?_⟩
    have := hno j hj
    rw [nth_get (by omega)] at this
    simp [this]
  rw [findA, this]
theorem findA_no {n : Net} {pr f t : Int} (hno : ∀ j, j < n.arcs.length → arcEq pr f t (nth n.arcs j) = false) : findA n pr f t = (zeroArc, false) := by
  have : n.arcs.find? (arcEq pr f t) = none := by
    rw [List.find?_eq_none]
    intro a ha
    obtain ⟨j, hj, rfl⟩ := List.mem_iff_getElem.1 ha
    have := hno j hj
    rw [nth_get hj] at this
    simp [this]
  rw [findA, this]
theorem find09_c (n : Net) (pr f t : Int) (hn : n.arcs.length ≤ 1048576) : ACalls Tryz.prog 280 [.p (eNet n), .p (.int .i64 pr), .p (.int .i64 f), .p (.int .i64 t)] [] fun x H' => x = .tup [.p (eArc (findA n pr f t).1), .p (.bool (findA n pr f t).2)] ∧ H' = [] := by
  refine acalls_weak [] (fn := Tryz.f280) Tryz.func280 rfl isF280 ?_
  simp (disch := omega) only [Tryz.f280, go_sem, seval, reduceCtorEq, ↓reduceIte]
  refine awp_for [1, 2, 3, 4, 8] (fun k : Nat => [(10, .p (.int .i64 k))]) (fun _ => netH n ++ [arcO zeroArc]) (fun k => k ≤ n.arcs.length ∧ ∀ j, j < k → arcEq pr f t (nth n.arcs j) = false) (fun k => n.arcs.length - k) 0 (by simp) (Weak.mk ?_) ?_
  · simp (disch := omega) only [netH, arcO, zeroArc, List.map_nil, List.cons_append, List.nil_append, go_sem, seval, reduceCtorEq, ↓reduceIte]
  · rintro k ⟨hk, hno⟩
    simp (disch := omega) only [netH, arcO, zeroArc, List.map_nil, List.cons_append, List.nil_append, go_sem, seval, reduceCtorEq, ↓reduceIte]
    refine acond_b (fun h => ?_) (fun h => ?_) <;> (try simp only [decide_eq_true_eq, decide_eq_false_iff_not] at h) <;> simp (disch := omega) only [Sh.out h, go_sem, seval, reduceCtorEq, ↓reduceIte]
    · have hk2 : k < n.arcs.length := by omega
      have nx : arcEq pr f t (nth n.arcs k) = false → ∀ j, j < k + 1 → arcEq pr f t (nth n.arcs j) = false := fun h => upto_iff.2 ⟨hno, h⟩
      refine aguard_t (fun h1 => ?_) (fun h1 => ?_) <;> (try simp only [decide_eq_true_eq, decide_eq_false_iff_not] at h1) <;> simp (disch := omega) only [Sh.out h1, go_sem, seval, reduceCtorEq, ↓reduceIte]
      · refine aguard_t (fun h2 => ?_) (fun h2 => ?_) <;> (try simp only [decide_eq_true_eq, decide_eq_false_iff_not] at h2) <;> simp (disch := omega) only [Sh.out h2, go_sem, seval, reduceCtorEq, ↓reduceIte]
        · refine acond_b (fun h3 => ?_) (fun h3 => ?_) <;> (try simp only [decide_eq_true_eq, decide_eq_false_iff_not] at h3) <;> simp (disch := omega) only [Sh.out h3, go_sem, seval, reduceCtorEq, ↓reduceIte]
          · have e := findA_at hk2 hno (by simp [arcEq, h1, h2, h3])
            rw [e]
            exact ⟨_, _, Weak.mk (by simp (disch := omega) only [go_sem, seval, reduceCtorEq, ↓reduceIte]), rfl, rfl⟩
          · exact ⟨k + 1, ⟨by omega, nx (by simp [arcEq, h3])⟩, by omega, Weak.mk (by simp (disch := omega) only [netH, arcO, zeroArc, List.map_nil, List.cons_append, List.nil_append, go_sem, seval, reduceCtorEq, ↓reduceIte])⟩
        · exact ⟨k + 1, ⟨by omega, nx (by simp [arcEq, h2])⟩, by omega, Weak.mk (by simp (disch := omega) only [netH, arcO, zeroArc, List.map_nil, List.cons_append, List.nil_append, go_sem, seval, reduceCtorEq, ↓reduceIte])⟩
      · exact ⟨k + 1, ⟨by omega, nx (by simp [arcEq, h1])⟩, by omega, Weak.mk (by simp (disch := omega) only [netH, arcO, zeroArc, List.map_nil, List.cons_append, List.nil_append, go_sem, seval, reduceCtorEq, ↓reduceIte])⟩
    · have hkn : k = n.arcs.length := by omega
      subst hkn
      rw [findA_no hno]
      exact ⟨_, _, Weak.mk (by simp (disch := omega) only [zeroArc, List.map_nil, go_sem, seval, reduceCtorEq, ↓reduceIte]), rfl, rfl⟩
/-- arrival, miles and error of a way -/
def goN (n : Net) (pr f t τ : Int) : Int × Int × Int :=
  if (placeB n f && placeB n t) = false then (0, 0, 11) else if f = t then (τ, 0, 0) else if (findA n pr f t).2 = true then (arrA (findA n pr f t).1 τ, (findA n pr f t).1.miles, 0) else (0, 0, 12)
def netR (n : Net) : Prop := n.places.length ≤ 1048576 ∧ n.arcs.length ≤ 1048576 ∧ ∀ a ∈ n.arcs, arcR a
theorem findA_mem {n : Net} {pr f t : Int} (h : (findA n pr f t).2 = true) : (findA n pr f t).1 ∈ n.arcs := by
  unfold findA at h ⊢
  cases hf : n.arcs.find? (arcEq pr f t) with
  | none => rw [hf] at h; simp at h
  | some a => exact List.mem_of_find?_eq_some hf
theorem go09_c (n : Net) (pr f t τ : Int) (hn : netR n) (hτ : 0 ≤ τ ∧ τ ≤ 1073741824) : ACalls Tryz.prog 269 [.p (eNet n), .p (.int .i64 pr), .p (.int .i64 f), .p (.int .i64 t), .p (.int .i64 τ)] [] fun x H' => x = .tup [.p (.int .i64 (goN n pr f t τ).1), .p (.int .i64 (goN n pr f t τ).2.1), .p (.int .i64 (goN n pr f t τ).2.2)] ∧ H' = [] := by
  refine acalls_weak [] (fn := Tryz.f269) Tryz.func269 rfl isF269 ?_
  simp (disch := omega) only [Tryz.f269, go_sem, seval, reduceCtorEq, ↓reduceIte]
  refine (place09_c n f hn.1).use ?_
  simp (disch := omega) only [go_sem, seval, reduceCtorEq, ↓reduceIte]
  refine aguard_f (fun h1 => ?_) (fun h1 => ?_) <;> (try simp only [decide_eq_true_eq, decide_eq_false_iff_not] at h1) <;> simp (disch := omega) only [Sh.out h1, go_sem, seval, reduceCtorEq, ↓reduceIte]
  · have e : goN n pr f t τ = (0, 0, 11) := by simp only [Bool.not_eq_true'] at h1; simp [goN, h1]
    rw [e]
    exact ⟨_, _, Weak.mk (by simp (disch := omega) only [go_sem, seval, reduceCtorEq, ↓reduceIte]), rfl, rfl⟩
  · simp only [Bool.not_eq_false'] at h1
    refine (place09_c n t hn.1).use ?_
    simp (disch := omega) only [go_sem, seval, reduceCtorEq, ↓reduceIte]
    refine acond_b (fun h2 => ?_) (fun h2 => ?_) <;> (try simp only [decide_eq_true_eq, decide_eq_false_iff_not] at h2) <;> simp (disch := omega) only [Sh.out h2, go_sem, seval, reduceCtorEq, ↓reduceIte]
    · have e : goN n pr f t τ = (0, 0, 11) := by simp only [Bool.not_eq_true'] at h2; simp [goN, h2]
      rw [e]
      exact ⟨_, _, Weak.mk (by simp (disch := omega) only [go_sem, seval, reduceCtorEq, ↓reduceIte]), rfl, rfl⟩
    · simp only [Bool.not_eq_false'] at h2
      refine acond_b (fun h3 => ?_) (fun h3 => ?_) <;> (try simp only [decide_eq_true_eq, decide_eq_false_iff_not] at h3) <;> simp (disch := omega) only [Sh.out h3, go_sem, seval, reduceCtorEq, ↓reduceIte]
      · have e : goN n pr f t τ = (τ, 0, 0) := by simp [goN, h1, h2, h3]
        rw [e]
        exact ⟨_, _, Weak.mk (by simp (disch := omega) only [go_sem, seval, reduceCtorEq, ↓reduceIte]), rfl, rfl⟩
      · have cf := find09_c n pr f t hn.2.1
        have hm := @findA_mem n pr f t
        have e0 : goN n pr f t τ = if (findA n pr f t).2 = true then (arrA (findA n pr f t).1 τ, (findA n pr f t).1.miles, 0) else (0, 0, 12) := by simp [goN, h1, h2, h3]
        rw [e0]
        generalize findA n pr f t = A at cf hm ⊢
        obtain ⟨a, b⟩ := A
        simp only at cf hm ⊢
        refine useT' cf ?_
        simp (disch := omega) only [go_sem, seval, reduceCtorEq, ↓reduceIte]
        refine acond_b (fun h4 => ?_) (fun h4 => ?_) <;> (try simp only [decide_eq_true_eq, decide_eq_false_iff_not] at h4) <;> simp (disch := omega) only [Sh.out h4, go_sem, seval, reduceCtorEq, ↓reduceIte]
        · have hb : b = false := by simpa using h4
          subst hb
          exact ⟨_, _, Weak.mk (by simp (disch := omega) only [go_sem, seval, reduceCtorEq, ↓reduceIte]), rfl, rfl⟩
        · have hb : b = true := by simpa using h4
          subst hb
          refine awp_drawnA mixed (by kernel_rfl) (by kernel_rfl) ?_
          simp (disch := omega) only [go_sem, seval, reduceCtorEq, ↓reduceIte]
          refine exq_call (arrive09_c a τ (hn.2.2 a (hm rfl)) hτ) ?_
          simp (disch := omega) only [go_sem, seval, reduceCtorEq, ↓reduceIte]
          exact ⟨_, _, Weak.mk (by simp (disch := omega) only [go_sem, seval, reduceCtorEq, ↓reduceIte]), rfl, rfl⟩
end Go.Proofs.YtcllkjiebfmjpaaGreatDoor.K
set_option linter.unusedVariables false
set_option linter.unusedSimpArgs false
namespace Go.Proofs.YtcllkjiebfmjpaaGreatDoor.K
open Go Go.AM Go.Proofs
set_option maxRecDepth 8000
set_option maxHeartbeats 8000000
theorem dec_one {n : Nat} (h : n < 10) : dec n = [UInt8.ofNat (48 + n)] := by rw [dec, dif_pos h]
theorem dec_two {n : Nat} (h : 10 ≤ n) (h2 : n < 100) : dec n = [UInt8.ofNat (48 + n / 10), UInt8.ofNat (48 + n % 10)] := by
  rw [dec, dif_neg (by omega), dec_one (by omega)]; rfl
theorem aslS_str {s : List UInt8} {k k' : IntKind} {a b : Int} (h : 0 ≤ a ∧ a ≤ b ∧ b ≤ (s.length : Int)) : aslS (some .string) s (.p (.int k a)) (.p (.int k' b)) = some (.p (.str ((s.take b.toNat).drop a.toNat))) := by
  simp only [aslS, if_pos h]
def digT : List UInt8 := (List.range 36).map fun i => UInt8.ofNat (if i < 10 then 48 + i else 87 + i)
def smalT : List UInt8 := (List.range 100).flatMap fun i => [UInt8.ofNat (48 + i / 10), UInt8.ofNat (48 + i % 10)]
theorem digT_at : ∀ n, n < 10 → (digT.take (n + 1)).drop n = [UInt8.ofNat (48 + n)] := by decide
theorem smalT_at : ∀ n, n < 100 → (smalT.take (2 * n + 2)).drop (2 * n) = [UInt8.ofNat (48 + n / 10), UInt8.ofNat (48 + n % 10)] := by decide +kernel
theorem small_c (n : Nat) (hn : n < 100) : ACalls Tryz.prog 261 [.p (.int .i64 (n : Int))] [] fun x H' => x = .p (.str (dec n)) ∧ H' = [] := by
  refine acalls_pure (fn := Tryz.f261) Tryz.func261 rfl isF261 ?_
  simp (disch := omega) only [Tryz.f261, go_sem, seval, reduceCtorEq, ↓reduceIte]
  refine acond_b (fun h => ?_) (fun h => ?_) <;> (try simp only [decide_eq_true_eq, decide_eq_false_iff_not] at h) <;> simp (disch := omega) only [Sh.out h, go_sem, seval, reduceCtorEq, ↓reduceIte]
  · rw [dec_one (by omega), aslS_str (by simp; omega)]
    have e1 : ((n : Int) + 1).toNat = n + 1 := by omega
    have e2 : ((n : Int)).toNat = n := by omega
    rw [e1, e2]
    refine (congrArg (fun z => pst (some (V.p (PV.str z))) _) (digT_at n (by omega))).mpr ?_
    simp (disch := omega) only [go_sem, seval, reduceCtorEq, ↓reduceIte]
  · rw [dec_two (by omega) hn, aslS_str (by simp; omega)]
    have e1 : ((n : Int) * 2 + 2).toNat = 2 * n + 2 := by omega
    have e2 : ((n : Int) * 2).toNat = 2 * n := by omega
    rw [e1, e2]
    refine (congrArg (fun z => pst (some (V.p (PV.str z))) _) (smalT_at n (by omega))).mpr ?_
    simp (disch := omega) only [go_sem, seval, reduceCtorEq, ↓reduceIte]
theorem fmtInt_c (n : Nat) (hn : n < 100) : ACalls Tryz.prog 244 [.p (.int .i64 (n : Int)), .p (.int .i64 10)] [] fun x H' => x = .p (.str (dec n)) ∧ H' = [] := by
  refine acalls_pure (fn := Tryz.f244) Tryz.func244 rfl isF244 ?_
  have h0 : (0 : Int) ≤ (n : Int) := by omega
  have h1 : (n : Int) < 100 := by omega
  simp (disch := omega) only [Tryz.f244, h0, h1, go_sem, seval, reduceCtorEq, ↓reduceIte]
  refine (small_c n hn).use ?_
  simp (disch := omega) only [go_sem, seval, reduceCtorEq, ↓reduceIte]
theorem itoaI_c (n : Nat) (hn : n < 100) : ACalls Tryz.prog 217 [.p (.int .i64 (n : Int))] [] fun x H' => x = .p (.str (dec n)) ∧ H' = [] := by
  refine acalls_pure (fn := Tryz.f217) Tryz.func217 rfl isF217 ?_
  simp (disch := omega) only [Tryz.f217, go_sem, seval, reduceCtorEq, ↓reduceIte]
  refine (fmtInt_c n hn).use ?_
  simp (disch := omega) only [go_sem, seval, reduceCtorEq, ↓reduceIte]
theorem itoa_c (n : Nat) (hn : n < 100) : ACalls Tryz.prog 163 [.p (.int .i64 (n : Int))] [] fun x H' => x = .p (.str (dec n)) ∧ H' = [] := by
  refine acalls_pure (fn := Tryz.f163) Tryz.func163 rfl isF163 ?_
  simp (disch := omega) only [Tryz.f163, go_sem, seval, reduceCtorEq, ↓reduceIte]
  refine (itoaI_c n hn).use ?_
  simp (disch := omega) only [go_sem, seval, reduceCtorEq, ↓reduceIte]
theorem within_c (n a b : Int) : ACalls Tryz.prog 286 [.p (.int .i64 n), .p (.int .i64 a), .p (.int .i64 b)] [] fun x H' => x = .p (.bool (decide (a ≤ n) && decide (n ≤ b))) ∧ H' = [] := by
  refine acalls_pure (fn := Tryz.f286) Tryz.func286 rfl isF286 ?_
  simp (disch := omega) only [Tryz.f286, go_sem, seval, reduceCtorEq, ↓reduceIte]
  repeat' (first | (refine aguard_t (fun hq => ?_) (fun hq => ?_) <;> (try simp only [decide_eq_true_eq, decide_eq_false_iff_not, Classical.not_not] at hq) <;> simp (disch := omega) only [Sh.out hq, go_sem, seval, reduceCtorEq, ↓reduceIte]) | (refine aguard_f (fun hq => ?_) (fun hq => ?_) <;> (try simp only [decide_eq_true_eq, decide_eq_false_iff_not, Classical.not_not] at hq) <;> simp (disch := omega) only [Sh.out hq, go_sem, seval, reduceCtorEq, ↓reduceIte]) | (refine acond_b (fun hq => ?_) (fun hq => ?_) <;> (try simp only [decide_eq_true_eq, decide_eq_false_iff_not, Classical.not_not] at hq) <;> simp (disch := omega) only [Sh.out hq, go_sem, seval, reduceCtorEq, ↓reduceIte]))
  all_goals (simp; first | done | omega)
theorem pCheck_c (l : List Pt) (c : Bool) (hl : ptsOk l) : ACalls Tryz.prog 290 [.p (.list c (l.map ePt))] [] fun x H' => x = .p (.list true []) ∧ H' = [] := by
  obtain ⟨⟨hl1, hl2⟩, hpt⟩ := hl
  refine acalls_pure (fn := Tryz.f290) Tryz.func290 rfl isF290 ?_
  have e1 : ¬ (l.length : Int) = 0 := by omega
  have e2 : ¬ (16 : Int) < (l.length : Int) := by omega
  simp (disch := omega) only [Tryz.f290, e1, e2, go_sem, seval, reduceCtorEq, ↓reduceIte]
  refine awp_for [0, 19, 20] (fun k : Nat => [(3, .p (.list true [])), (21, .p (.int .i64 k))]) (fun _ => []) (fun k => k ≤ l.length) (fun k => l.length - k) 0 (by simp) (Weak.mk ?_) ?_
  · simp (disch := omega) only [go_sem, seval, reduceCtorEq, ↓reduceIte]
  · intro k hk
    simp (disch := omega) only [go_sem, seval, reduceCtorEq, ↓reduceIte]
    refine acond_b (fun h => ?_) (fun h => ?_) <;> (try simp only [decide_eq_true_eq, decide_eq_false_iff_not] at h) <;> simp (disch := omega) only [Sh.out h, go_sem, seval, reduceCtorEq, ↓reduceIte]
    · have hk2 : k < l.length := by omega
      obtain ⟨⟨p1, p2, p3, p4⟩, q⟩ := hpt k hk2
      refine (itoa_c k (by omega)).use ?_
      simp (disch := omega) only [go_sem, seval, reduceCtorEq, ↓reduceIte]
      refine (within_c (nth l k).t 0 4096).use ?_
      simp (disch := omega) only [go_sem, seval, reduceCtorEq, ↓reduceIte]
      simp (disch := omega) only [p1, p2, go_sem, seval, reduceCtorEq, ↓reduceIte]
      refine aguard_f (fun h3 => ?_) (fun h3 => ?_) <;> (try simp only [decide_eq_true_eq, decide_eq_false_iff_not] at h3) <;> simp (disch := omega) only [Sh.out h3, go_sem, seval, reduceCtorEq, ↓reduceIte]
      · omega
      · refine acond_b (fun h4 => ?_) (fun h4 => ?_) <;> (try simp only [decide_eq_true_eq, decide_eq_false_iff_not] at h4) <;> simp (disch := omega) only [Sh.out h4, go_sem, seval, reduceCtorEq, ↓reduceIte]
        · omega
        · refine awp_drawnA mixed (by kernel_rfl) (by kernel_rfl) ?_
          simp (disch := omega) only [go_sem, seval, reduceCtorEq, ↓reduceIte]
          refine aguard_t (fun h5 => ?_) (fun h5 => ?_) <;> (try simp only [decide_eq_true_eq, decide_eq_false_iff_not] at h5) <;> simp (disch := omega) only [Sh.out h5, go_sem, seval, reduceCtorEq, ↓reduceIte]
          · obtain ⟨r1, r2⟩ := q (by omega)
            refine aguard_f (fun h6 => ?_) (fun h6 => ?_) <;> (try simp only [decide_eq_true_eq, decide_eq_false_iff_not] at h6) <;> simp (disch := omega) only [Sh.out h6, go_sem, seval, reduceCtorEq, ↓reduceIte]
            · omega
            · refine acond_b (fun h7 => ?_) (fun h7 => ?_) <;> (try simp only [decide_eq_true_eq, decide_eq_false_iff_not] at h7) <;> simp (disch := omega) only [Sh.out h7, go_sem, seval, reduceCtorEq, ↓reduceIte]
              · omega
              · exact ⟨k + 1, by omega, by omega, Weak.mk (by simp (disch := omega) only [go_sem, seval, reduceCtorEq, ↓reduceIte])⟩
          · exact ⟨k + 1, by omega, by omega, Weak.mk (by simp (disch := omega) only [go_sem, seval, reduceCtorEq, ↓reduceIte])⟩
theorem cmpAt_c (p : Pt) (t : Int) (h : 0 ≤ p.t ∧ p.t ≤ 4096) (ht : 0 ≤ t ∧ t ≤ 1073741824) : ACalls Tryz.prog 292 [.p (ePt p), .p (.int .i64 t)] [] fun x H' => x = .p (.int .i64 (p.t - t)) ∧ H' = [] := by
  refine acalls_pure (fn := Tryz.f292) Tryz.func292 rfl isF292 ?_
  simp (disch := omega) only [Tryz.f292, go_sem, seval, reduceCtorEq, ↓reduceIte]
theorem right_c (l : List Pt) (c : Bool) (hl : ptsOk l) : ACalls Tryz.prog 287 [.p (.list c (l.map ePt))] [] fun x H' => x = .p (.bool true) ∧ H' = [] := by
  refine acalls_pure (fn := Tryz.f287) Tryz.func287 rfl isF287 ?_
  simp (disch := omega) only [Tryz.f287, go_sem, seval, reduceCtorEq, ↓reduceIte]
  refine (pCheck_c l c hl).use ?_
  simp (disch := omega) only [go_sem, seval, reduceCtorEq, ↓reduceIte]
/-- where a time stands in a travel function -/
structure PosT (l : List Pt) (t : Int) (i : Nat) : Prop where
  le : i ≤ l.length
  lo : ∀ j, j < i → (nth l j).t < t
  hi : ∀ j, i ≤ j → j < l.length → t ≤ (nth l j).t
theorem bsP_c (l : List Pt) (c : Bool) (t : Int) (i : Nat) (hl : ptsOk l) (ht : 0 ≤ t ∧ t ≤ 1073741824) (hi : PosT l t i) : ACalls Tryz.prog 291 [.p (.list c (l.map ePt)), .p (.int .i64 t), .fn (.func 292) [] []] [] fun x H' => x = .tup [.p (.int .i64 (i : Int)), .p (.bool (decide (i < l.length) && decide ((nth l i).t = t)))] ∧ H' = [] := by
  obtain ⟨⟨hl1, hl2⟩, hpt⟩ := hl
  obtain ⟨hi1, hi2, hi3⟩ := hi
  refine acalls_weak [] (fn := Tryz.f291) Tryz.func291 rfl isF291 ?_
  simp (disch := omega) only [Tryz.f291, go_sem, seval, reduceCtorEq, ↓reduceIte]
  refine awp_for [0, 1, 2, 8] (fun q : Nat × Nat => [(9, .p (.int .i64 q.1)), (10, .p (.int .i64 q.2))]) (fun _ => []) (fun q => q.1 ≤ i ∧ i ≤ q.2 ∧ q.2 ≤ l.length) (fun q => q.2 - q.1) (0, l.length) (by simp; omega) (Weak.mk ?_) ?_
  · simp (disch := omega) only [go_sem, seval, reduceCtorEq, ↓reduceIte]
  · rintro ⟨a, b⟩ ⟨h1, h2, h3⟩
    simp only at h1 h2 h3
    simp (disch := omega) only [go_sem, seval, reduceCtorEq, ↓reduceIte]
    refine acond_b (fun h => ?_) (fun h => ?_) <;> (try simp only [decide_eq_true_eq, decide_eq_false_iff_not] at h) <;> simp (disch := omega) only [Sh.out h, go_sem, seval, reduceCtorEq, ↓reduceIte]
    · have hm : (a + b) / 2 < l.length := by omega
      obtain ⟨⟨p1, p2, p3, p4⟩, q⟩ := hpt _ hm
      have hs : ((a : Int) + (b : Int)).fdiv (2 ^ min 1 64) = (((a + b) / 2 : Nat) : Int) := by
        rw [Int.fdiv_eq_ediv_of_nonneg _ (by decide)]; norm_cast
      have em : ((((a + b) / 2 : Nat)) : Int).toNat = (a + b) / 2 := by omega
      have hnb : ((a + b) / 2 < i) ↔ (nth l ((a + b) / 2)).t - t < 0 := by
        constructor
        · intro hh; have := hi2 _ hh; omega
        · intro hh
          by_cases g : (a + b) / 2 < i
          · exact g
          · have := hi3 _ (by omega) hm; omega
      rw [hs]
      simp (disch := omega) only [go_sem, seval, reduceCtorEq, ↓reduceIte]
      refine (cmpAt_c (nth l ((a + b) / 2)) t ⟨p1, p2⟩ ht).use ?_
      simp (disch := omega) only [go_sem, seval, reduceCtorEq, ↓reduceIte]
      refine acond_b (fun h4 => ?_) (fun h4 => ?_) <;> (try simp only [decide_eq_true_eq, decide_eq_false_iff_not] at h4) <;> simp (disch := omega) only [Sh.out h4, go_sem, seval, reduceCtorEq, ↓reduceIte]
      · exact ⟨((a + b) / 2 + 1, b), ⟨by simp only; have := hnb.2 h4; omega, h2, h3⟩, by simp only; omega, Weak.mk (by simp (disch := omega) only [go_sem, seval, reduceCtorEq, ↓reduceIte])⟩
      · exact ⟨(a, (a + b) / 2), ⟨h1, by simp only; have := fun g => h4 (hnb.1 g); omega, by simp only; omega⟩, by simp only; omega, Weak.mk (by simp (disch := omega) only [go_sem, seval, reduceCtorEq, ↓reduceIte])⟩
    · have : a = i := by omega
      subst this
      refine aguard_t (fun h4 => ?_) (fun h4 => ?_) <;> (try simp only [decide_eq_true_eq, decide_eq_false_iff_not] at h4) <;> simp (disch := omega) only [Sh.out h4, go_sem, seval, reduceCtorEq, ↓reduceIte]
      · have hm : a < l.length := by omega
        obtain ⟨⟨p1, p2, p3, p4⟩, q⟩ := hpt _ hm
        refine (cmpAt_c (nth l a) t ⟨p1, p2⟩ ht).use ?_
        simp (disch := omega) only [go_sem, seval, reduceCtorEq, ↓reduceIte]
        have e5 : ((nth l a).t - t = 0) = ((nth l a).t = t) := propext (by omega)
        exact ⟨_, _, Weak.mk (by simp (disch := omega) only [e5, hm, go_sem, seval, reduceCtorEq, ↓reduceIte]), rfl, rfl⟩
      · have hm : ¬ a < l.length := by omega
        exact ⟨_, _, Weak.mk (by simp (disch := omega) only [hm, go_sem, seval, reduceCtorEq, ↓reduceIte]), rfl, rfl⟩
end Go.Proofs.YtcllkjiebfmjpaaGreatDoor.K
set_option linter.unusedVariables false
set_option linter.unusedSimpArgs false
namespace Go.Proofs.YtcllkjiebfmjpaaGreatDoor.K
open Go Go.AM Go.Proofs
set_option maxRecDepth 8000
set_option maxHeartbeats 8000000
theorem pts_mono {l : List Pt} (hl : ptsOk l) {k : Nat} (hk : k < l.length) : ∀ j, j < k → (nth l j).t < (nth l k).t := by
  obtain ⟨_, hpt⟩ := hl
  induction k with
  | zero => intro j hj; omega
  | succ k ih =>
    intro j hj
    obtain ⟨_, q⟩ := hpt (k + 1) hk
    obtain ⟨r1, _⟩ := q (by omega)
    rw [Nat.add_sub_cancel] at r1
    rcases Nat.lt_succ_iff_lt_or_eq.1 hj with h | h
    · exact Int.lt_trans (ih (by omega) j h) r1
    · subst h; exact r1
theorem posT_ex {l : List Pt} (hl : ptsOk l) (t : Int) : ∃ i, PosT l t i := by
  have : ∀ n, n ≤ l.length → ∃ i, i ≤ n ∧ (∀ j, j < i → (nth l j).t < t) ∧ (i < n → t ≤ (nth l i).t) := by
    intro n
    induction n with
    | zero => intro _; exact ⟨0, by omega, fun j hj => by omega, fun h => by omega⟩
    | succ n ih =>
      intro hn
      obtain ⟨i, h1, h2, h3⟩ := ih (by omega)
      by_cases g : i < n
      · exact ⟨i, by omega, h2, fun _ => h3 g⟩
      · have : i = n := by omega
        subst this
        by_cases g2 : (nth l i).t < t
        · exact ⟨i + 1, by omega, upto_iff.2 ⟨h2, g2⟩, fun h => by omega⟩
        · exact ⟨i, by omega, h2, fun _ => by omega⟩
  obtain ⟨i, h1, h2, h3⟩ := this l.length (Nat.le_refl _)
  refine ⟨i, h1, h2, fun j hj hjl => ?_⟩
  rcases Nat.lt_or_eq_of_le hj with h | h
  · have := pts_mono hl hjl i h; have := h3 (by omega); omega
  · subst h; exact h3 hjl
theorem arrT_eq {l : List Pt} {t : Int} {i : Nat} (hl : ptsOk l) (h : PosT l t i) (hi : i < l.length) (e : (nth l i).t = t) : arrT l t = (nth l i).a := by
  by_cases g : i + 1 < l.length
  · have m := pts_mono hl g i (by omega)
    rw [arrT_at g (fun j hj => ?_) (by simp [segI, e]; omega), segA]
    · rw [e, Int.sub_self, Int.zero_mul, Int.zero_add]
      rw [Int.ediv_eq_zero_of_lt (by omega) (by omega)]; omega
    · have : (nth l (j + 1)).t ≤ t := by
        rcases Nat.lt_or_eq_of_le (show j + 1 ≤ i by omega) with h1 | h1
        · have := h.lo _ h1; omega
        · rw [h1, e]; exact Int.le_refl _
      simp [segI]; omega
  · have hi1 : i = l.length - 1 := by omega
    rw [arrT_no (fun j hj => ?_)]
    · split
      · rw [← hi1]; omega
      · have : i = 0 := by
          by_cases g2 : i = 0
          · exact g2
          · have := h.lo 0 (by omega); omega
        subst this; omega
    · have : (nth l (j + 1)).t ≤ t := by
        rcases Nat.lt_or_eq_of_le (show j + 1 ≤ i by omega) with h1 | h1
        · have := h.lo _ h1; omega
        · rw [h1, e]; exact Int.le_refl _
      simp [segI]; omega
theorem arrT_lo {l : List Pt} {t : Int} (hl : ptsOk l) (h : PosT l t 0) (e : ¬ (nth l 0).t = t) : arrT l t = t + (nth l 0).a - (nth l 0).t := by
  have h0 := h.hi 0 (Nat.le_refl _) hl.1.1
  rw [arrT_no (fun j hj => ?_), if_neg (by omega)]
  have : t < (nth l j).t := by
    by_cases g : j = 0
    · subst g; omega
    · have := pts_mono hl (show j < l.length by omega) 0 (by omega); omega
  simp [segI]; omega
theorem arrT_hi {l : List Pt} {t : Int} (h : PosT l t l.length) (hl : 0 < l.length) : arrT l t = t + (nth l (l.length - 1)).a - (nth l (l.length - 1)).t := by
  rw [arrT_no (fun j hj => ?_), if_pos (h.lo 0 hl)]
  have := h.lo (j + 1) hj
  simp [segI]; omega
theorem arrT_mid {l : List Pt} {t : Int} {i : Nat} (h : PosT l t i) (h0 : 0 < i) (hi : i < l.length) (e : ¬ (nth l i).t = t) : arrT l t = segA (nth l (i - 1)) (nth l i) t := by
  have e1 : i - 1 + 1 = i := by omega
  have h1 := h.lo (i - 1) (by omega)
  have h2 := h.hi i (Nat.le_refl _) hi
  have := arrT_at (l := l) (t := t) (i := i - 1) (by omega) (fun j hj => by have := h.lo (j + 1) (by omega); simp [segI]; omega) (by rw [segI, e1]; simp; omega)
  rw [this, e1]
theorem segA_wrap {p q : Pt} {t : Int} (h1 : p.t ≤ t) (h2 : t < q.t) (hp : 0 ≤ p.t) (hq : q.t ≤ 4096) (ha : p.a ≤ q.a) (hpa : 0 ≤ p.a) (hqa : q.a ≤ 8192) :
    IntKind.i64.wrap (p.a + IntKind.i64.wrap ((IntKind.i64.wrap (IntKind.i64.wrap (IntKind.i64.wrap ((t - p.t) * (q.a - p.a)) + (q.t - p.t)) - 1)).tdiv (q.t - p.t))) = segA p q t := by
  have hm := segA_rng h1 h2 hp hq ha hpa hqa
  unfold segA
  generalize hM : (t - p.t) * (q.a - p.a) = m at hm
  have hd : 0 ≤ (m + (q.t - p.t) - 1) / (q.t - p.t) ∧ (m + (q.t - p.t) - 1) / (q.t - p.t) ≤ m + (q.t - p.t) - 1 := by
    refine ⟨Int.ediv_nonneg (by omega) (by omega), Int.ediv_le_self _ (by omega)⟩
  rw [IntWalk.i64_in m (by omega), IntWalk.i64_in (m + (q.t - p.t)) (by omega), IntWalk.i64_in (m + (q.t - p.t) - 1) (by omega), Int.tdiv_eq_ediv_of_nonneg (by omega), IntWalk.i64_in ((m + (q.t - p.t) - 1) / (q.t - p.t)) (by omega), IntWalk.i64_in _ (by omega)]
  congr 2
  omega
theorem pArrive0_c (l : List Pt) (c : Bool) (t : Int) (hl : ptsOk l) (ht : 0 ≤ t ∧ t ≤ 1073741824) : ACalls Tryz.prog 288 [.p (.list c (l.map ePt)), .p (.int .i64 t)] [] fun x H' => x = .p (.int .i64 (arrT l t)) ∧ H' = [] := by
  obtain ⟨i, hi⟩ := posT_ex hl t
  have hl' := hl
  obtain ⟨⟨hl1, hl2⟩, hpt⟩ := hl'
  refine acalls_pure (fn := Tryz.f288) Tryz.func288 rfl isF288 ?_
  simp (disch := omega) only [Tryz.f288, go_sem, seval, reduceCtorEq, ↓reduceIte]
  refine useT' (bsP_c l c t i hl ht hi) ?_
  simp (disch := omega) only [go_sem, seval, reduceCtorEq, ↓reduceIte]
  obtain ⟨i1, i2, i3⟩ := id hi
  refine acond_b (fun h => ?_) (fun h => ?_) <;> (try simp only [decide_eq_true_eq, decide_eq_false_iff_not] at h) <;> simp (disch := omega) only [Sh.out h, go_sem, seval, reduceCtorEq, ↓reduceIte]
  · obtain ⟨h1, h2⟩ := h
    have := hpt i h1
    rw [arrT_eq hl hi h1 h2]
  · refine acond_b (fun h0 => ?_) (fun h0 => ?_) <;> (try simp only [decide_eq_true_eq, decide_eq_false_iff_not] at h0) <;> simp (disch := omega) only [Sh.out h0, go_sem, seval, reduceCtorEq, ↓reduceIte]
    · have : i = 0 := by omega
      subst this
      obtain ⟨p1, p2⟩ := hpt 0 (by omega)
      rw [arrT_lo hl hi (fun g => h ⟨by omega, g⟩)]
      refine awp_drawnA mixed (by kernel_rfl) (by kernel_rfl) ?_
      simp (disch := omega) only [go_sem, seval, reduceCtorEq, ↓reduceIte]
    · refine acond_b (fun h1 => ?_) (fun h1 => ?_) <;> (try simp only [decide_eq_true_eq, decide_eq_false_iff_not] at h1) <;> simp (disch := omega) only [Sh.out h1, go_sem, seval, reduceCtorEq, ↓reduceIte]
      · have : i = l.length := by omega
        subst this
        obtain ⟨p1, p2⟩ := hpt (l.length - 1) (by omega)
        rw [arrT_hi hi (by omega)]
        have e1 : ((l.length : Int) - 1).toNat = l.length - 1 := by omega
        refine awp_drawnA mixed (by kernel_rfl) (by kernel_rfl) ?_
        simp (disch := omega) only [go_sem, seval, reduceCtorEq, ↓reduceIte]
      · have g1 : i < l.length := by omega
        rw [arrT_mid hi (by omega) g1 (fun g => h ⟨g1, g⟩)]
        have g2 := pts_mono hl g1 (i - 1) (by omega)
        obtain ⟨p1, p2⟩ := hpt i g1
        obtain ⟨p3, p4⟩ := hpt (i - 1) (by omega)
        have e1 : ((i : Int) - 1).toNat = i - 1 := by omega
        have q1 := i2 (i - 1) (by omega)
        have q2 := i3 i (Nat.le_refl _) g1
        have q3 : ¬ (nth l i).t = t := fun g => h ⟨g1, g⟩
        have q4 := p2 (by omega)
        refine awp_drawnT [9, 10, 11] 12 mixed (by kernel_rfl) (by kernel_rfl) (by kernel_rfl) (by simp) ?_
        simp (disch := omega) only [e1, go_sem, seval, reduceCtorEq, ↓reduceIte]
        refine lateT_two 9 10 _ _ _ _ (by kernel_rfl) (by simp (disch := omega) only [go_sem, seval, reduceCtorEq, ↓reduceIte]; exact ⟨rfl, rfl⟩) (by simp (disch := omega) only [go_sem, seval, reduceCtorEq, ↓reduceIte]; exact ⟨rfl, rfl⟩) ?_ ?_
        · refine lateT_one 10 _ _ (by kernel_rfl) (by simp (disch := omega) only [go_sem, seval, reduceCtorEq, ↓reduceIte]; exact ⟨rfl, rfl⟩) (lateT_one 11 _ _ (by kernel_rfl) (by simp (disch := omega) only [go_sem, seval, reduceCtorEq, ↓reduceIte]; exact ⟨rfl, rfl⟩) (lateT_z ?_))
          simp (disch := omega) only [go_sem, seval, reduceCtorEq, ↓reduceIte]
          refine awp_drawnA mixed (by kernel_rfl) (by kernel_rfl) ?_
          simp (disch := omega) only [go_sem, seval, reduceCtorEq, ↓reduceIte]
          exact congrArg (fun z => V.p (PV.int IntKind.i64 z)) (segA_wrap (by omega) (by omega) (by omega) (by omega) (by omega) (by omega) (by omega))
        · refine lateT_one 9 _ _ (by kernel_rfl) (by simp (disch := omega) only [go_sem, seval, reduceCtorEq, ↓reduceIte]; exact ⟨rfl, rfl⟩) (lateT_one 11 _ _ (by kernel_rfl) (by simp (disch := omega) only [go_sem, seval, reduceCtorEq, ↓reduceIte]; exact ⟨rfl, rfl⟩) (lateT_z ?_))
          simp (disch := omega) only [go_sem, seval, reduceCtorEq, ↓reduceIte]
          refine awp_drawnA mixed (by kernel_rfl) (by kernel_rfl) ?_
          simp (disch := omega) only [go_sem, seval, reduceCtorEq, ↓reduceIte]
          exact congrArg (fun z => V.p (PV.int IntKind.i64 z)) (segA_wrap (by omega) (by omega) (by omega) (by omega) (by omega) (by omega) (by omega))
end Go.Proofs.YtcllkjiebfmjpaaGreatDoor.K
set_option linter.unusedVariables false
set_option linter.unusedSimpArgs false
namespace Go.Proofs.YtcllkjiebfmjpaaGreatDoor.K
open Go Go.AM Go.Proofs
set_option maxRecDepth 8000
set_option maxHeartbeats 8000000
theorem pArrive_c (l : List Pt) (c : Bool) (t : Int) (hl : ptsOk l) (ht : 0 ≤ t ∧ t ≤ 1073741824) : ACalls Tryz.prog 278 [.p (.list c (l.map ePt)), .p (.int .i64 t)] [] fun x H' => x = .p (.int .i64 (arrT l t)) ∧ H' = [] := by
  refine acalls_pure (fn := Tryz.f278) Tryz.func278 rfl isF278 ?_
  simp (disch := omega) only [Tryz.f278, go_sem, seval, reduceCtorEq, ↓reduceIte]
  refine (within_c t 0 1073741824).use ?_
  simp (disch := omega) only [go_sem, seval, reduceCtorEq, ↓reduceIte]
  simp (disch := omega) only [ht, go_sem, seval, reduceCtorEq, ↓reduceIte]
  refine (right_c l c hl).use ?_
  simp (disch := omega) only [go_sem, seval, reduceCtorEq, ↓reduceIte]
  refine (pArrive0_c l c t hl ht).use ?_
  simp (disch := omega) only [go_sem, seval, reduceCtorEq, ↓reduceIte]
theorem pPlace_c (n : Net) (p : Int) (hn : n.places.length ≤ 1048576) : ACalls Tryz.prog 266 [.p (eNet n), .p (.int .i64 p)] [] fun x H' => x = .p (.bool (placeB n p)) ∧ H' = [] := by
  refine acalls_pure (fn := Tryz.f266) Tryz.func266 rfl isF266 ?_
  simp (disch := omega) only [Tryz.f266, go_sem, seval, reduceCtorEq, ↓reduceIte]
  refine aguard_t (fun h => ?_) (fun h => ?_) <;> (try simp only [decide_eq_true_eq, decide_eq_false_iff_not] at h) <;> simp (disch := omega) only [Sh.out h, go_sem, seval, reduceCtorEq, ↓reduceIte]
  · simp [placeB, h]
  · simp [placeB, h]
theorem wayOf_c (a : Arc) : ACalls Tryz.prog 277 [.p (eArc a)] [] fun x H' => x = .p (.agg [.int .i64 a.src, .int .i64 a.dst, .int .i64 a.prof]) ∧ H' = [] := by
  refine acalls_pure (fn := Tryz.f277) Tryz.func277 rfl isF277 ?_
  simp (disch := omega) only [Tryz.f277, go_sem, seval, reduceCtorEq, ↓reduceIte]
theorem pArrA_c (a : Arc) (t : Int) (ha : arcR a) (ht : 0 ≤ t ∧ t ≤ 1073741824) : ACalls Tryz.prog 268 [.p (eArc a), .p (.int .i64 t)] [] fun x H' => x = .p (.int .i64 (arrA a t)) ∧ H' = [] := by
  obtain ⟨h1, h2, h3⟩ := ha
  have hr := arrT_rng h1 ht
  have hs := slowS_rng (t := t) (fun p hp => (h3 p hp).2.2)
  refine acalls_pure (fn := Tryz.f268) Tryz.func268 rfl isF268 ?_
  simp (disch := omega) only [Tryz.f268, go_sem, seval, reduceCtorEq, ↓reduceIte]
  refine (pArrive_c a.travel a.travel_c t h1 ht).use ?_
  simp (disch := omega) only [go_sem, seval, reduceCtorEq, ↓reduceIte]
  refine awp_for [1, 13, 14] (fun k : Nat => [(5, .p (.int .i64 (arrT a.travel t + slowS a.slow t k))), (15, .p (.int .i64 k))]) (fun _ => [arcO a]) (fun k => k ≤ a.slow.length) (fun k => a.slow.length - k) 0 (by simp) (Weak.mk ?_) ?_
  · simp (disch := omega) only [arcO, slowS, List.foldl_nil, go_sem, seval, reduceCtorEq, ↓reduceIte]
    simp
  · intro k hk
    have hsk := hs k hk
    simp (disch := omega) only [arcO, go_sem, seval, reduceCtorEq, ↓reduceIte]
    refine acond_b (fun h => ?_) (fun h => ?_) <;> (try simp only [decide_eq_true_eq, decide_eq_false_iff_not] at h) <;> simp (disch := omega) only [Sh.out h, go_sem, seval, reduceCtorEq, ↓reduceIte]
    · have hk2 : k < a.slow.length := by omega
      have hp := h3 _ (nth_in hk2)
      have hsn := slowS_succ (t := t) hk2
      refine acond_b (fun h4 => ?_) (fun h4 => ?_) <;> (try simp only [decide_eq_true_eq, decide_eq_false_iff_not] at h4) <;> simp (disch := omega) only [Sh.out h4, go_sem, seval, reduceCtorEq, ↓reduceIte]
      · rw [if_pos h4] at hsn
        exact ⟨k + 1, by omega, by omega, Weak.mk (by simp (disch := omega) only [arcO, hsn, Int.add_assoc, go_sem, seval, reduceCtorEq, ↓reduceIte])⟩
      · rw [if_neg h4] at hsn
        exact ⟨k + 1, by omega, by omega, Weak.mk (by simp (disch := omega) only [arcO, hsn, go_sem, seval, reduceCtorEq, ↓reduceIte])⟩
    · have hkl : k = a.slow.length := by omega
      subst hkl
      simp only [arrA]
theorem pFind_c (n : Net) (pr f t : Int) (hn : n.arcs.length ≤ 1048576) : ACalls Tryz.prog 267 [.p (eNet n), .p (.int .i64 pr), .p (.int .i64 f), .p (.int .i64 t)] [] fun x H' => x = .tup [.p (eArc (findA n pr f t).1), .p (.bool (findA n pr f t).2)] ∧ H' = [] := by
  refine acalls_weak [] (fn := Tryz.f267) Tryz.func267 rfl isF267 ?_
  simp (disch := omega) only [Tryz.f267, go_sem, seval, reduceCtorEq, ↓reduceIte]
  refine awp_for [8, 10, 18, 19] (fun k : Nat => [(20, .p (.int .i64 k))]) (fun _ => netH n ++ [arcO zeroArc, .cells [.p (.int .i64 f), .p (.int .i64 t), .p (.int .i64 pr)]]) (fun k => k ≤ n.arcs.length ∧ ∀ j, j < k → arcEq pr f t (nth n.arcs j) = false) (fun k => n.arcs.length - k) 0 (by simp) (Weak.mk ?_) ?_
  · simp (disch := omega) only [netH, arcO, zeroArc, List.map_nil, List.cons_append, List.nil_append, go_sem, seval, reduceCtorEq, ↓reduceIte]
  · rintro k ⟨hk, hno⟩
    simp (disch := omega) only [netH, arcO, zeroArc, List.map_nil, List.cons_append, List.nil_append, go_sem, seval, reduceCtorEq, ↓reduceIte]
    refine acond_b (fun h => ?_) (fun h => ?_) <;> (try simp only [decide_eq_true_eq, decide_eq_false_iff_not] at h) <;> simp (disch := omega) only [Sh.out h, go_sem, seval, reduceCtorEq, ↓reduceIte]
    · have hk2 : k < n.arcs.length := by omega
      have nx : arcEq pr f t (nth n.arcs k) = false → ∀ j, j < k + 1 → arcEq pr f t (nth n.arcs j) = false := fun h => upto_iff.2 ⟨hno, h⟩
      refine awp_drawnA mixed (by kernel_rfl) (by kernel_rfl) ?_
      simp (disch := omega) only [go_sem, seval, reduceCtorEq, ↓reduceIte]
      refine exq_call (wayOf_c (nth n.arcs k)) ?_
      simp (disch := omega) only [go_sem, seval, reduceCtorEq, ↓reduceIte]
      refine acond_b (fun h1 => ?_) (fun h1 => ?_) <;> (try simp only [decide_eq_true_eq, decide_eq_false_iff_not] at h1) <;> simp (disch := omega) only [Sh.out h1, go_sem, seval, reduceCtorEq, ↓reduceIte]
      · have e := findA_at hk2 hno (by simp [arcEq, h1])
        obtain ⟨rfl, rfl, rfl⟩ := h1
        rw [e]
        exact ⟨_, _, Weak.mk (by simp (disch := omega) only [go_sem, seval, reduceCtorEq, ↓reduceIte]), rfl, rfl⟩
      · have e2 : arcEq pr f t (nth n.arcs k) = false := by
          cases hq : arcEq pr f t (nth n.arcs k) with
          | false => rfl
          | true => simp only [arcEq, Bool.and_eq_true, decide_eq_true_eq] at hq; exact absurd ⟨hq.1.1, hq.1.2, hq.2⟩ h1
        exact ⟨k + 1, ⟨by omega, nx e2⟩, by omega, Weak.mk (by simp (disch := omega) only [netH, arcO, zeroArc, List.map_nil, List.cons_append, List.nil_append, go_sem, seval, reduceCtorEq, ↓reduceIte])⟩
    · have hkn : k = n.arcs.length := by omega
      subst hkn
      rw [findA_no hno]
      exact ⟨_, _, Weak.mk (by simp (disch := omega) only [zeroArc, List.map_nil, go_sem, seval, reduceCtorEq, ↓reduceIte]), rfl, rfl⟩
theorem pGo_c (n : Net) (pr f t τ : Int) (hn : netR n) (hτ : 0 ≤ τ ∧ τ ≤ 1073741824) : ACalls Tryz.prog 248 [.p (eNet n), .p (.int .i64 pr), .p (.int .i64 f), .p (.int .i64 t), .p (.int .i64 τ)] [] fun x H' => x = .tup [.p (.int .i64 (goN n pr f t τ).1), .p (.int .i64 (goN n pr f t τ).2.1), .p (.int .i64 (goN n pr f t τ).2.2)] ∧ H' = [] := by
  refine acalls_weak [] (fn := Tryz.f248) Tryz.func248 rfl isF248 ?_
  simp (disch := omega) only [Tryz.f248, go_sem, seval, reduceCtorEq, ↓reduceIte]
  refine (pPlace_c n f hn.1).use ?_
  simp (disch := omega) only [go_sem, seval, reduceCtorEq, ↓reduceIte]
  refine aguard_f (fun h1 => ?_) (fun h1 => ?_) <;> (try simp only [decide_eq_true_eq, decide_eq_false_iff_not] at h1) <;> simp (disch := omega) only [Sh.out h1, go_sem, seval, reduceCtorEq, ↓reduceIte]
  · have e : goN n pr f t τ = (0, 0, 11) := by simp only [Bool.not_eq_true'] at h1; simp [goN, h1]
    rw [e]
    exact ⟨_, _, Weak.mk (by simp (disch := omega) only [go_sem, seval, reduceCtorEq, ↓reduceIte]), rfl, rfl⟩
  · simp only [Bool.not_eq_false'] at h1
    refine (pPlace_c n t hn.1).use ?_
    simp (disch := omega) only [go_sem, seval, reduceCtorEq, ↓reduceIte]
    refine acond_b (fun h2 => ?_) (fun h2 => ?_) <;> (try simp only [decide_eq_true_eq, decide_eq_false_iff_not] at h2) <;> simp (disch := omega) only [Sh.out h2, go_sem, seval, reduceCtorEq, ↓reduceIte]
    · have e : goN n pr f t τ = (0, 0, 11) := by simp only [Bool.not_eq_true'] at h2; simp [goN, h2]
      rw [e]
      exact ⟨_, _, Weak.mk (by simp (disch := omega) only [go_sem, seval, reduceCtorEq, ↓reduceIte]), rfl, rfl⟩
    · simp only [Bool.not_eq_false'] at h2
      refine acond_b (fun h3 => ?_) (fun h3 => ?_) <;> (try simp only [decide_eq_true_eq, decide_eq_false_iff_not] at h3) <;> simp (disch := omega) only [Sh.out h3, go_sem, seval, reduceCtorEq, ↓reduceIte]
      · have e : goN n pr f t τ = (τ, 0, 0) := by simp [goN, h1, h2, h3]
        rw [e]
        exact ⟨_, _, Weak.mk (by simp (disch := omega) only [go_sem, seval, reduceCtorEq, ↓reduceIte]), rfl, rfl⟩
      · have cf := pFind_c n pr f t hn.2.1
        have hm := @findA_mem n pr f t
        have e0 : goN n pr f t τ = if (findA n pr f t).2 = true then (arrA (findA n pr f t).1 τ, (findA n pr f t).1.miles, 0) else (0, 0, 12) := by simp [goN, h1, h2, h3]
        rw [e0]
        generalize findA n pr f t = A at cf hm ⊢
        obtain ⟨a, b⟩ := A
        simp only at cf hm ⊢
        refine useT' cf ?_
        simp (disch := omega) only [go_sem, seval, reduceCtorEq, ↓reduceIte]
        refine acond_b (fun h4 => ?_) (fun h4 => ?_) <;> (try simp only [decide_eq_true_eq, decide_eq_false_iff_not] at h4) <;> simp (disch := omega) only [Sh.out h4, go_sem, seval, reduceCtorEq, ↓reduceIte]
        · have hb : b = false := by simpa using h4
          subst hb
          exact ⟨_, _, Weak.mk (by simp (disch := omega) only [go_sem, seval, reduceCtorEq, ↓reduceIte]), rfl, rfl⟩
        · have hb : b = true := by simpa using h4
          subst hb
          refine awp_drawnA mixed (by kernel_rfl) (by kernel_rfl) ?_
          simp (disch := omega) only [go_sem, seval, reduceCtorEq, ↓reduceIte]
          refine exq_call (pArrA_c a τ (hn.2.2 a (hm rfl)) hτ) ?_
          simp (disch := omega) only [go_sem, seval, reduceCtorEq, ↓reduceIte]
          exact ⟨_, _, Weak.mk (by simp (disch := omega) only [go_sem, seval, reduceCtorEq, ↓reduceIte]), rfl, rfl⟩
end Go.Proofs.YtcllkjiebfmjpaaGreatDoor.K
set_option linter.unusedVariables false
set_option linter.unusedSimpArgs false
namespace Go.Proofs.YtcllkjiebfmjpaaGreatDoor.K
open Go Go.AM Go.Proofs
set_option maxRecDepth 8000
set_option maxHeartbeats 8000000
theorem way18_c (x : Inst) (pr f t τ : Int) (hn : netR x.net) (hτ : 0 ≤ τ ∧ τ ≤ 1073741824) : ACalls Tryz.prog 252 [.p (eInst x), .p (.int .i64 pr), .p (.int .i64 f), .p (.int .i64 t), .p (.int .i64 τ)] [] fun y H' => y = .tup [.p (.int .i64 (goN x.net pr f t τ).1), .p (.int .i64 (goN x.net pr f t τ).2.1), .p (.bool (decide ((goN x.net pr f t τ).2.2 = 0)))] ∧ H' = [] := by
  refine acalls_weak [] (fn := Tryz.f252) Tryz.func252 rfl isF252 ?_
  simp (disch := omega) only [Tryz.f252, go_sem, seval, reduceCtorEq, ↓reduceIte]
  refine useT3 (go09_c x.net pr f t τ hn hτ) ?_
  simp (disch := omega) only [go_sem, seval, reduceCtorEq, ↓reduceIte]
  exact ⟨_, _, Weak.mk (by simp (disch := omega) only [go_sem, seval, reduceCtorEq, ↓reduceIte]), rfl, rfl⟩
/-- a vehicle between two visits -/
structure StD where
  place : Int
  time : Int
  driven : Int
  miles : Int
def eStD (s : StD) : PV := .agg [.int .i64 s.place, .int .i64 s.time, .int .i64 s.driven, .int .i64 s.miles]
@[go_sem] theorem eStD_eq (s : StD) : eStD s = .agg [.int .i64 s.place, .int .i64 s.time, .int .i64 s.driven, .int .i64 s.miles] := Eq.trans rfl rfl
def restF (t : Typ) (s : StD) (b : Bool) : StD := if b = true then { s with time := s.time + t.rest, driven := 0 } else s
theorem rest18_c (t : Typ) (s : StD) (b : Bool) (hb : -1099511627776 ≤ s.time ∧ s.time ≤ 1099511627776 ∧ -1099511627776 ≤ t.rest ∧ t.rest ≤ 1099511627776) : ACalls Tryz.prog 233 [.p (eTyp t), .p (eStD s), .p (.bool b)] [] fun y H' => y = .p (eStD (restF t s b)) ∧ H' = [] := by
  refine acalls_pure (fn := Tryz.f233) Tryz.func233 rfl isF233 ?_
  cases b with
  | true => simp (disch := omega) only [Tryz.f233, restF, go_sem, seval, reduceCtorEq, ↓reduceIte]
  | false => simp (disch := omega) only [Tryz.f233, restF, Bool.false_eq_true, go_sem, seval, reduceCtorEq, ↓reduceIte]
def stepF (x : Inst) (t : Typ) (s : StD) (to cl late : Int) : StD × Int :=
  if ¬ (goN x.net t.prof s.place to s.time).2.2 = 0 then (s, 12)
  else if cl < (goN x.net t.prof s.place to s.time).1 then (s, late)
  else if t.drive < s.driven + (goN x.net t.prof s.place to s.time).1 - s.time then (s, 16)
  else (⟨to, (goN x.net t.prof s.place to s.time).1, s.driven + (goN x.net t.prof s.place to s.time).1 - s.time, s.miles + (goN x.net t.prof s.place to s.time).2.1⟩, 0)
def Sml (n : Int) : Prop := -1099511627776 ≤ n ∧ n ≤ 1099511627776
theorem step18_c (x : Inst) (t : Typ) (s : StD) (to cl late : Int) (hn : netR x.net) (hs : 0 ≤ s.time ∧ s.time ≤ 1073741824) (hd : Sml s.driven) (hm : Sml s.miles) (hg : Sml (goN x.net t.prof s.place to s.time).1 ∧ Sml (goN x.net t.prof s.place to s.time).2.1) :
    ACalls Tryz.prog 234 [.p (eInst x), .p (eTyp t), .p (eStD s), .p (.int .i64 to), .p (.int .i64 cl), .p (.int .i64 late)] [] fun y H' => y = .tup [.p (eStD (stepF x t s to cl late).1), .p (.int .i64 (stepF x t s to cl late).2)] ∧ H' = [] := by
  have cw := way18_c x t.prof s.place to s.time hn hs
  unfold stepF
  generalize goN x.net t.prof s.place to s.time = g at cw hg ⊢
  obtain ⟨a, m, e⟩ := g
  unfold Sml at hd hm hg
  simp only at cw hg ⊢
  refine acalls_weak [] (fn := Tryz.f234) Tryz.func234 rfl isF234 ?_
  simp (disch := omega) only [Tryz.f234, go_sem, seval, reduceCtorEq, ↓reduceIte]
  refine useT3 cw ?_
  simp (disch := omega) only [go_sem, seval, reduceCtorEq, ↓reduceIte]
  refine acond_b (fun h1 => ?_) (fun h1 => ?_) <;> (try simp only [decide_eq_true_eq, decide_eq_false_iff_not] at h1) <;> simp (disch := omega) only [Sh.out h1, go_sem, seval, reduceCtorEq, ↓reduceIte]
  · exact ⟨_, _, Weak.mk (by simp (disch := omega) only [go_sem, seval, reduceCtorEq, ↓reduceIte]), rfl, rfl⟩
  · rw [if_neg h1]
    refine acond_b (fun h2 => ?_) (fun h2 => ?_) <;> (try simp only [decide_eq_true_eq, decide_eq_false_iff_not] at h2) <;> simp (disch := omega) only [Sh.out h2, go_sem, seval, reduceCtorEq, ↓reduceIte]
    · exact ⟨_, _, Weak.mk (by simp (disch := omega) only [go_sem, seval, reduceCtorEq, ↓reduceIte]), rfl, rfl⟩
    · rw [if_neg h2]
      refine acond_b (fun h3 => ?_) (fun h3 => ?_) <;> (try simp only [decide_eq_true_eq, decide_eq_false_iff_not] at h3) <;> simp (disch := omega) only [Sh.out h3, go_sem, seval, reduceCtorEq, ↓reduceIte]
      · exact ⟨_, _, Weak.mk (by simp (disch := omega) only [go_sem, seval, reduceCtorEq, ↓reduceIte]), rfl, rfl⟩
      · exact ⟨_, _, Weak.mk (by simp (disch := omega) only [go_sem, seval, reduceCtorEq, ↓reduceIte]), rfl, rfl⟩
end Go.Proofs.YtcllkjiebfmjpaaGreatDoor.K
set_option linter.unusedVariables false
set_option linter.unusedSimpArgs false
namespace Go.Proofs.YtcllkjiebfmjpaaGreatDoor.K
open Go Go.AM Go.Proofs
/-- how far a schedule has been made -/
structure Lab where
  ready : Int
  since : Int
  she : She
  deriving Inhabited
def zShe : She := ⟨false, 0, true, [], 0, 0⟩
def zLab : Lab := ⟨0, 0, zShe⟩
def depF (t : Typ) (L : Lab) (b : Bool) : Int := if b = true then L.ready + t.rest else L.ready
def sncF (L : Lab) (b : Bool) : Int := if b = true then 0 else L.since
def markT (l : List Tim) (k : Nat) (d : Int) (b : Bool) : List Tim := l.set k { nth l k with dep := d, rest := b }
def markF (k : Nat) (d : Int) (b : Bool) (s : She) : She := if k = 0 then { s with rest := b, dep := d } else { s with times := markT s.times (k - 1) d b }
def plcF (t : Typ) (sp : List Stp) (k : Nat) : Int := if k = 0 then t.src else (nth sp (k - 1)).place
def toF (t : Typ) (sp : List Stp) (k : Nat) : Int := if k = sp.length then t.dst else (nth sp k).place
def goL (x : Inst) (t : Typ) (sp : List Stp) (k : Nat) (d : Int) : Int × Int × Int := goN x.net t.prof (plcF t sp k) (toF t sp k) d
/-- the next label, of a departure at d with the driving time s until then -/
def arrF (t : Typ) (sp : List Stp) (k : Nat) (g : Int × Int × Int) (d s : Int) (h : She) : Lab × Int :=
  if ¬ g.2.2 = 0 then (zLab, 12)
  else if k = sp.length then
    if t.cls < g.1 then (zLab, 15) else if t.drive < s + g.1 - d then (zLab, 16)
    else (⟨g.1, s + g.1 - d, { h with fin := g.1, miles := h.miles + g.2.1 }⟩, 0)
  else if (nth sp k).cls < max g.1 (nth sp k).opn then (zLab, 14)
  else if t.drive < s + g.1 - d then (zLab, 16)
  else (⟨max g.1 (nth sp k).opn + (nth sp k).serv, s + g.1 - d, { h with times_c := false, times := h.times ++ [⟨g.1, max g.1 (nth sp k).opn, 0, false⟩], miles := h.miles + g.2.1 }⟩, 0)
def nxtF (x : Inst) (t : Typ) (sp : List Stp) (k : Nat) (L : Lab) (b : Bool) : Lab × Int :=
  arrF t sp k (goL x t sp k (depF t L b)) (depF t L b) (sncF L b) (markF k (depF t L b) b L.she)
def nxtO (x : Inst) (t : Typ) (sp : List Stp) (k : Nat) (L : Lab) (b : Bool) : Option Lab := if (nxtF x t sp k L b).2 = 0 then some (nxtF x t sp k L b).1 else none
def runF (x : Inst) (t : Typ) (sp : List Stp) : Nat → Lab → List Bool → Lab × Int
  | _, L, [] => (L, 0)
  | k, L, b :: bs => if (nxtF x t sp k L b).2 = 0 then runF x t sp (k + 1) (nxtF x t sp k L b).1 bs else (zLab, (nxtF x t sp k L b).2)
def labF (t : Typ) (st : Int) : Lab := ⟨max t.opn st, 0, zShe⟩
theorem runF_opt {x : Inst} {t : Typ} {sp : List Stp} : ∀ (bs : List Bool) (k : Nat) (L : Lab), runO (nxtO x t sp) k L bs = if (runF x t sp k L bs).2 = 0 then some (runF x t sp k L bs).1 else none
  | [], k, L => by simp [runO, runF]
  | b :: bs, k, L => by
    rw [runO, runF, nxtO]
    by_cases h : (nxtF x t sp k L b).2 = 0
    · simp only [h, if_true]
      exact runF_opt bs (k + 1) _
    · simp [h]
/-- what a vehicle needs of its surroundings -/
structure TrpOk (x : Inst) (t : Typ) (sp : List Stp) : Prop where
  net : netR x.net
  mil : ∀ a ∈ x.net.arcs, 0 ≤ a.miles ∧ a.miles ≤ 10000
  opn : 0 ≤ t.opn ∧ t.opn ≤ t.cls ∧ t.cls ≤ 4096
  drv : 1 ≤ t.drive ∧ t.drive ≤ 4096
  rst : 0 ≤ t.rest ∧ t.rest ≤ 4096
  stp : ∀ s ∈ sp, 0 ≤ s.opn ∧ s.opn ≤ s.cls ∧ s.cls ≤ 4096 ∧ 0 ≤ s.serv ∧ s.serv ≤ 4096
  len : sp.length ≤ 20
/-- what labels are like -/
structure LabR (k : Nat) (L : Lab) : Prop where
  rdy : 0 ≤ L.ready ∧ L.ready ≤ 8192
  snc : -(12288 * (k : Int)) ≤ L.since ∧ L.since ≤ 4096
  mil : 0 ≤ L.she.miles ∧ L.she.miles ≤ 10000 * (k : Int)
theorem goN_rng {n : Net} {pr f t τ : Int} (hn : netR n) (hm : ∀ a ∈ n.arcs, 0 ≤ a.miles ∧ a.miles ≤ 10000) (hτ : 0 ≤ τ ∧ τ ≤ 1073741824) : (0 ≤ (goN n pr f t τ).1 ∧ (goN n pr f t τ).1 ≤ 1107369984) ∧ (0 ≤ (goN n pr f t τ).2.1 ∧ (goN n pr f t τ).2.1 ≤ 10000) := by
  unfold goN
  split
  · simp
  · split
    · simp only; omega
    · split
      · rename_i h
        have hA := findA_mem h
        have h1 := arrT_rng (hn.2.2 _ hA).1 hτ
        have h2 := slowS_rng (t := τ) (fun p hp => ((hn.2.2 _ hA).2.2 p hp).2.2) _ (Nat.le_refl _)
        have h3 := (hn.2.2 _ hA).2.1
        have h4 := hm _ hA
        simp only [arrA]
        omega
      · simp
theorem depF_rng {x t sp k L} (h : TrpOk x t sp) (hl : LabR k L) (b : Bool) : 0 ≤ depF t L b ∧ depF t L b ≤ 12288 := by
  have := h.rst
  have := hl.rdy
  unfold depF
  split <;> omega
theorem sncF_rng {k L} (hl : LabR k L) (b : Bool) : -(12288 * (k : Int)) ≤ sncF L b ∧ sncF L b ≤ 4096 := by
  have := hl.snc
  unfold sncF
  split <;> omega
theorem goL_rng {x t sp k L} (h : TrpOk x t sp) (hl : LabR k L) (b : Bool) : (0 ≤ (goL x t sp k (depF t L b)).1 ∧ (goL x t sp k (depF t L b)).1 ≤ 1107369984) ∧ (0 ≤ (goL x t sp k (depF t L b)).2.1 ∧ (goL x t sp k (depF t L b)).2.1 ≤ 10000) := by
  have := depF_rng h hl b
  exact goN_rng h.net h.mil (by omega)
theorem markF_miles {k d b s} : (markF k d b s).miles = s.miles := by unfold markF; split <;> rfl
theorem markF_fin {k d b s} : (markF k d b s).fin = s.fin := by unfold markF; split <;> rfl
theorem markF_len {k d b s} : (markF k d b s).times.length = s.times.length := by unfold markF; split <;> simp [markT]
/-- what a next label is -/
theorem nxtF_ok {x t sp k L b} (h : TrpOk x t sp) (hk : k ≤ sp.length) (hl : LabR k L) (he : (nxtF x t sp k L b).2 = 0) : LabR (k + 1) (nxtF x t sp k L b).1 := by
  have h1 := depF_rng h hl b
  have h2 := sncF_rng hl b
  obtain ⟨h3, h4⟩ := goL_rng h hl b
  have h5 := hl.mil
  have h6 := h.opn
  have h7 := h.drv
  have hm : (markF k (depF t L b) b L.she).miles = L.she.miles := markF_miles
  unfold nxtF at he ⊢
  generalize goL x t sp k (depF t L b) = g at *
  generalize depF t L b = d at *
  generalize sncF L b = s at *
  generalize markF k d b L.she = m at *
  unfold arrF at he ⊢
  split at he
  · simp at he
  · rename_i c1
    rw [if_neg c1]
    split at he
    · rename_i c2
      rw [if_pos c2]
      split at he
      · simp at he
      · rename_i c3
        rw [if_neg c3]
        split at he
        · simp at he
        · rename_i c4
          rw [if_neg c4]
          exact ⟨by simp only; omega, by simp only; omega, by simp only; omega⟩
    · rename_i c2
      rw [if_neg c2]
      have h8 := h.stp _ (nth_in (show k < sp.length by omega))
      split at he
      · simp at he
      · rename_i c3
        rw [if_neg c3]
        split at he
        · simp at he
        · rename_i c4
          rw [if_neg c4]
          exact ⟨by simp only; omega, by simp only; omega, by simp only; omega⟩
theorem nxtF_times {x t sp k L b} (hl : L.she.times.length = k) (he : (nxtF x t sp k L b).2 = 0) (hk : k < sp.length) : (nxtF x t sp k L b).1.she.times.length = k + 1 := by
  have hm : (markF k (depF t L b) b L.she).times.length = L.she.times.length := markF_len
  unfold nxtF at he ⊢
  generalize goL x t sp k (depF t L b) = g at *
  generalize depF t L b = d at *
  generalize sncF L b = s at *
  generalize markF k d b L.she = m at *
  have hk2 : ¬ k = sp.length := by omega
  unfold arrF at he ⊢
  simp only [if_neg hk2] at he ⊢
  split at he
  · simp at he
  · rename_i c1
    rw [if_neg c1]
    split at he
    · simp at he
    · rename_i c3
      rw [if_neg c3]
      split at he
      · simp at he
      · rename_i c4
        rw [if_neg c4]
        simp [hm, hl]
/-- a label beats another one -/
def beatsF (m x : Lab) : Bool := decide (m.ready = x.ready) && decide (m.since ≤ x.since)
theorem beats_next {x t sp k} {m y z : Lab} {b : Bool} (hb : beatsF m y = true) (hn : nxtO x t sp k y b = some z) : ∃ u, nxtO x t sp k m b = some u ∧ beatsF u z = true := by
  simp only [beatsF, Bool.and_eq_true, decide_eq_true_eq] at hb
  obtain ⟨hb1, hb2⟩ := hb
  have hd : depF t m b = depF t y b := by simp [depF, hb1]
  have hs : sncF m b ≤ sncF y b := by unfold sncF; split <;> omega
  unfold nxtO at hn ⊢
  unfold nxtF at hn ⊢
  rw [hd]
  generalize goL x t sp k (depF t y b) = g at *
  generalize depF t y b = d at *
  generalize sncF y b = s at *
  generalize sncF m b = s2 at *
  generalize markF k d b y.she = h1 at *
  generalize markF k d b m.she = h2 at *
  unfold arrF at hn ⊢
  by_cases c1 : g.2.2 = 0
  · by_cases c2 : k = sp.length
    · simp only [c1, c2, not_true, if_true, if_false] at hn ⊢
      by_cases c3 : t.cls < g.1
      · simp [c3] at hn
      · by_cases c4 : t.drive < s + g.1 - d
        · simp [c3, c4] at hn
        · have c5 : ¬ t.drive < s2 + g.1 - d := by omega
          simp only [c3, c4, if_false, if_true, Option.some.injEq] at hn
          subst hn
          refine ⟨_, by simp only [c3, c5, if_false, if_true]; rfl, ?_⟩
          simp [beatsF]; omega
    · simp only [c1, c2, not_true, if_true, if_false] at hn ⊢
      by_cases c3 : (nth sp k).cls < max g.1 (nth sp k).opn
      · simp [c3] at hn
      · by_cases c4 : t.drive < s + g.1 - d
        · simp [c3, c4] at hn
        · have c5 : ¬ t.drive < s2 + g.1 - d := by omega
          simp only [c3, c4, if_false, if_true, Option.some.injEq] at hn
          subst hn
          refine ⟨_, by simp only [c3, c5, if_false, if_true]; rfl, ?_⟩
          simp [beatsF]; omega
  · simp [c1] at hn
def finF (L : Lab) : Int := L.she.fin
theorem nxtO_fin {x t sp} {y z : Lab} {b : Bool} (hn : nxtO x t sp sp.length y b = some z) : z.she.fin = z.ready := by
  unfold nxtO nxtF arrF at hn
  by_cases c1 : (goL x t sp sp.length (depF t y b)).2.2 = 0
  · by_cases c3 : t.cls < (goL x t sp sp.length (depF t y b)).1
    · simp [c1, c3] at hn
    · by_cases c4 : t.drive < sncF y b + (goL x t sp sp.length (depF t y b)).1 - depF t y b
      · simp [c1, c3, c4] at hn
      · simp only [c1, c3, c4, not_true, if_true, if_false, Option.some.injEq] at hn
        subst hn; rfl
  · simp [c1] at hn
/-- THE FIRST LEAST END, with and without labels that are beaten -/
theorem labels_fm {x t sp} (ch : Nat → List Bool) (L : Lab) : fmL finF none (iterL beatsF (nxtO x t sp) ch (sp.length + 1) 0 [L]) = fmL finF none (reachL (nxtO x t sp) ch (sp.length + 1) 0 L) := by
  have h := iter_fm finF beatsF (nxtO x t sp) ch (n := sp.length + 1) (Inv := fun k y => k = sp.length + 1 → y.she.fin = y.ready)
    (fun k y b z _ hn hk => by
      have : k = sp.length := by omega
      subst this
      exact nxtO_fin hn) (fun k m y b z _ _ hb hn => beats_next hb hn)
    (fun m y h1 h2 hb => by
      simp only [beatsF, Bool.and_eq_true, decide_eq_true_eq] at hb
      rw [finF, finF, h1 rfl, h2 rfl]; omega) (sp.length + 1) 0 [L] (by omega) (fun y _ hk => by omega)
  rw [h]; simp
end Go.Proofs.YtcllkjiebfmjpaaGreatDoor.K
set_option linter.unusedVariables false
set_option linter.unusedSimpArgs false
namespace Go.Proofs.YtcllkjiebfmjpaaGreatDoor.K
open Go Go.AM Go.Proofs
def chF (r : List Bool) (k : Nat) : List Bool := match r[k]? with | some b => [b] | none => [false, true]
theorem ext_chF (r : List Bool) (n : Nat) (hn : r.length ≤ n) : ∀ (j k : Nat), k + j = r.length → extL (chF r) (n - k) k = (fromB (List.replicate (n - r.length) false)).map (r.drop k ++ ·)
  | 0, k, h => by
    have hk : k = r.length := by omega
    subst hk
    rw [ext_free (n := n) _ _ _ (fun q hq => by simp [chF, List.getElem?_eq_none hq])]
    simp
  | j + 1, k, h => by
    have e : n - k = (n - (k + 1)) + 1 := by omega
    have hlt : k < r.length := by omega
    rw [e, extL, ext_chF r n hn j (k + 1) (by omega)]
    have : chF r k = [r[k]] := by simp [chF, hlt]
    rw [this, List.flatMap_cons, List.flatMap_nil, List.append_nil, List.map_map, List.drop_eq_getElem_cons hlt]
    rfl
theorem ext_rests (r : List Bool) (n : Nat) (hn : r.length ≤ n) : extL (chF r) n 0 = (fromB (List.replicate (n - r.length) false)).map (r ++ ·) := by
  have := ext_chF r n hn r.length 0 (by omega)
  simpa using this
/-- all lists of rests -/
def restsR (r : List Bool) (n : Nat) : List (List Bool) := (fromB (List.replicate (n - r.length) false)).map (r ++ ·)
def padR (r : List Bool) (n : Nat) : List Bool := r ++ List.replicate (n - r.length) false
/-- the schedule that ends first, and the error -/
def bestF (x : Inst) (t : Typ) (sp : List Stp) (st : Int) (r : List Bool) : She × Int :=
  match fmL finF none ((restsR r (sp.length + 1)).filterMap (runO (nxtO x t sp) 0 (labF t st))) with
  | some L => (L.she, 0)
  | none => (zShe, (runF x t sp 0 (labF t st) (padR r (sp.length + 1))).2)
theorem bestF_labels {x t sp} {st : Int} {r : List Bool} (hr : r.length ≤ sp.length + 1) : bestF x t sp st r = match fmL finF none (iterL beatsF (nxtO x t sp) (chF r) (sp.length + 1) 0 [labF t st]) with
  | some L => (L.she, 0)
  | none => (zShe, (runF x t sp 0 (labF t st) (padR r (sp.length + 1))).2) := by
  rw [labels_fm, reachL, ext_rests r _ hr]; rfl
theorem runF_len {x t sp} : ∀ (bs : List Bool) (k : Nat) (L : Lab), L.she.times.length = k → k + bs.length = sp.length + 1 → 0 < bs.length → (runF x t sp k L bs).2 = 0 → (runF x t sp k L bs).1.she.times.length = sp.length
  | [], k, L, h1, h2, h3, h => by simp at h3
  | b :: bs, k, L, h1, h2, _, h => by
    rw [runF] at h ⊢
    by_cases h4 : (nxtF x t sp k L b).2 = 0
    · simp only [h4, if_true] at h ⊢
      cases bs with
      | nil =>
        simp at h2
        subst h2
        rw [runF]
        unfold nxtF at h4 ⊢
        unfold arrF at h4 ⊢
        split at h4
        · simp at h4
        · rename_i c1
          rw [if_neg c1]
          simp only [if_true] at h4 ⊢
          split at h4
          · simp at h4
          · rename_i c2
            rw [if_neg c2]
            split at h4
            · simp at h4
            · rename_i c3
              rw [if_neg c3]
              simp [markF_len, h1]
      | cons b2 bs =>
        simp at h2
        exact runF_len (b2 :: bs) (k + 1) _ (nxtF_times h1 h4 (by omega)) (by simp; omega) (by simp) h
    · simp [h4] at h
/-- what a schedule is in its surroundings: its times, one for each visit -/
theorem bestF_len {x t sp} {st : Int} {r : List Bool} (hr : r.length ≤ sp.length + 1) (h : (bestF x t sp st r).2 = 0) : (bestF x t sp st r).1.times.length = sp.length := by
  unfold bestF at h ⊢
  cases hf : fmL finF none ((restsR r (sp.length + 1)).filterMap (runO (nxtO x t sp) 0 (labF t st))) with
  | none =>
    rw [hf] at h
    simp only at h ⊢
    exfalso
    have hm : padR r (sp.length + 1) ∈ restsR r (sp.length + 1) := by
      unfold restsR padR
      rw [fromB_next]
      simp
    have h2 : runO (nxtO x t sp) 0 (labF t st) (padR r (sp.length + 1)) = some (runF x t sp 0 (labF t st) (padR r (sp.length + 1))).1 := by rw [runF_opt, if_pos h]
    have h3 : (runF x t sp 0 (labF t st) (padR r (sp.length + 1))).1 ∈ (restsR r (sp.length + 1)).filterMap (runO (nxtO x t sp) 0 (labF t st)) := List.mem_filterMap.2 ⟨_, hm, h2⟩
    generalize (restsR r (sp.length + 1)).filterMap (runO (nxtO x t sp) 0 (labF t st)) = l at hf h3
    cases l with
    | nil => simp at h3
    | cons a l =>
      rw [fmL] at hf
      obtain ⟨z, e, _⟩ := fmL_some finF l a
      rw [e] at hf
      cases hf
  | some L =>
    simp only
    have hm := fmL_mem _ _ hf
    obtain ⟨bs, hbs, hrun⟩ := List.mem_filterMap.1 hm
    rw [runF_opt] at hrun
    split at hrun
    · rename_i h5
      simp at hrun
      subst hrun
      obtain ⟨q, hq, rfl⟩ := List.mem_map.1 hbs
      have hql := fromB_len _ _ hq
      simp at hql
      exact runF_len _ 0 _ rfl (by simp [hql]; omega) (by simp [hql]; omega) h5
    · cases hrun
where
  fmL_mem : ∀ (l : List Lab) (L : Lab), fmL finF none l = some L → L ∈ l
  | [], L, h => by simp [fmL] at h
  | a :: l, L, h => by
    rw [fmL] at h
    exact fmL_mem2 l a L h
  fmL_mem2 : ∀ (l : List Lab) (a L : Lab), fmL finF (some a) l = some L → L ∈ a :: l
  | [], a, L, h => by simp [fmL] at h; subst h; simp
  | y :: l, a, L, h => by
    rw [fmL] at h
    split at h
    · have := fmL_mem2 l y L h; simp only [List.mem_cons] at this ⊢; rcases this with h | h <;> simp [h]
    · have := fmL_mem2 l a L h; simp only [List.mem_cons] at this ⊢; rcases this with h | h <;> simp [h]
  fromB_len : ∀ (l q : List Bool), q ∈ fromB l → q.length = l.length
  | [], q, h => by simp [fromB] at h; subst h; rfl
  | b :: bs, q, h => by
    rw [fromB] at h
    split at h
    · obtain ⟨q', hq, rfl⟩ := List.mem_map.1 h
      simp [fromB_len bs q' hq]
    · rcases List.mem_append.1 h with h | h
      · obtain ⟨q', hq, rfl⟩ := List.mem_map.1 h
        simp [fromB_len bs q' hq]
      · obtain ⟨q', hq, rfl⟩ := List.mem_map.1 h
        simp [fromB_len (List.replicate bs.length false) q' hq]
  termination_by l => l.length
  decreasing_by all_goals simp
end Go.Proofs.YtcllkjiebfmjpaaGreatDoor.K
set_option linter.unusedVariables false
set_option linter.unusedSimpArgs false
namespace Go.Proofs.YtcllkjiebfmjpaaGreatDoor.K
open Go Go.AM Go.Proofs
def stopV (x : Inst) (v : Vis) : Stp := if v.drp = true then (nth x.orders v.order.toNat).drp else (nth x.orders v.order.toNat).pick
def stopsF (x : Inst) (l : List Vis) : List Stp := l.map (stopV x)
/-- has a type the skills? -/
def ableB (t : Typ) (s : Int) : Bool := decide (0 ≤ t.skills) && decide (0 ≤ s) && (List.range 63).all fun i => !s.toNat.testBit i || t.skills.toNat.testBit i
def fitsB (a c : List Int) : Bool := decide (a.length = c.length) && (List.range a.length).all fun i => decide (nth a i ≤ nth c i)
/-- is a load of a route within the capacity? -/
def loadB (x : Inst) (c : List Int) (l : List Vis) : Bool := (List.range (l.length + 1)).all fun n => fitsB (aftF x l n) c
def typR (x : Inst) (r : Rte) : Typ := nth x.types r.typ.toNat
/-- is the visit the first of its order? -/
def firstB (l : List Vis) (i : Nat) : Bool := !((l.take i).any fun v => decide (v.order = (nth l i).order))
def foreign (k t : Int) : Bool := decide (k ≠ -1) && decide (k ≠ t)
/-- how many orders of the first n visits are moved, and how many have been with another type -/
def chgF (x : Inst) (l : List Vis) (t : Int) : Nat → Int × Int
  | 0 => (0, 0)
  | n + 1 => if firstB l n = true then ((chgF x l t n).1 + (if foreign (nth x.orders (nth l n).order.toNat).now t = true then 1 else 0), (chgF x l t n).2 + (if foreign (nth x.orders (nth l n).order.toNat).last t = true then 1 else 0)) else chgF x l t n
def scoF (x : Inst) (r : Rte) (s : She) : Sco :=
  ⟨(typR x r).fixed + (typR x r).perMile * s.miles + (typR x r).perTick * (s.fin - (typR x r).opn), (chgF x r.visits r.typ r.visits.length).1, (chgF x r.visits r.typ r.visits.length).2, (s.fin - (typR x r).opn).tdiv 64 * (s.fin - (typR x r).opn).tdiv 64⟩
def zSco : Sco := ⟨0, 0, 0, 0⟩
/-- the error of a route's rules but for its schedule -/
def ruleE (x : Inst) (r : Rte) : Int :=
  if ¬ (0 ≤ r.typ ∧ r.typ < (x.types.length : Int)) then 2
  else if ¬ seqChk x r.visits = 0 then seqChk x r.visits
  else if (r.visits.any fun v => !ableB (typR x r) (nth x.orders v.order.toNat).skills) = true then 18
  else if loadB x (typR x r).cap r.visits = false then 17
  else if ¬ (0 ≤ r.start ∧ r.start ≤ 4096 ∧ r.rests.length ≤ r.visits.length + 1) then 2
  else 0
def bestR (x : Inst) (r : Rte) : She × Int := bestF x (typR x r) (stopsF x r.visits) r.start r.rests
def evalE (x : Inst) (r : Rte) : Int := if ruleE x r = 0 then (bestR x r).2 else ruleE x r
def evalS (x : Inst) (r : Rte) : She := if evalE x r = 0 then (bestR x r).1 else zShe
def evalP (x : Inst) (r : Rte) : Sco := if evalE x r = 0 then scoF x r (bestR x r).1 else zSco
end Go.Proofs.YtcllkjiebfmjpaaGreatDoor.K
set_option linter.unusedVariables false
set_option linter.unusedSimpArgs false
namespace Go.Proofs.YtcllkjiebfmjpaaGreatDoor.K
open Go Go.AM Go.Proofs
set_option maxRecDepth 8000
set_option maxHeartbeats 8000000
def zStp : Stp := ⟨0, 0, 0, 0⟩
def inB (x : Inst) (v : Vis) : Bool := decide (0 ≤ v.order) && decide (v.order < (x.orders.length : Int))
def visB (x : Inst) (v : Vis) : Bool := inB x v && decide (0 ≤ (stopV x v).place)
def stopG (x : Inst) (v : Vis) : Stp := if inB x v = true then stopV x v else zStp
theorem stop18_c (x : Inst) (v : Vis) (ho : x.orders.length ≤ 1048576) : ACalls Tryz.prog 201 [.p (eInst x), .p (eVis v)] [] fun y H' => y = .tup [.p (eStp (stopG x v)), .p (.bool (visB x v))] ∧ H' = [] := by
  refine acalls_weak [] (fn := Tryz.f201) Tryz.func201 rfl isF201 ?_
  simp (disch := omega) only [Tryz.f201, go_sem, seval, reduceCtorEq, ↓reduceIte]
  refine aguard_f (fun h1 => ?_) (fun h1 => ?_) <;> (try simp only [decide_eq_true_eq, decide_eq_false_iff_not] at h1) <;> simp (disch := omega) only [Sh.out h1, go_sem, seval, reduceCtorEq, ↓reduceIte]
  · have e : inB x v = false := by
      have : ¬ 0 ≤ v.order := by omega
      simp [inB, this]
    simp only [stopG, visB, e, Bool.false_and, Bool.false_eq_true, if_false, zStp]
    exact ⟨_, _, Weak.mk (by simp (disch := omega) only [go_sem, seval, reduceCtorEq, ↓reduceIte]), rfl, rfl⟩
  · refine acond_b (fun h2 => ?_) (fun h2 => ?_) <;> (try simp only [decide_eq_true_eq, decide_eq_false_iff_not] at h2) <;> simp (disch := omega) only [Sh.out h2, go_sem, seval, reduceCtorEq, ↓reduceIte]
    · have e : inB x v = false := by
        have : ¬ v.order < (x.orders.length : Int) := by omega
        simp [inB, this]
      simp only [stopG, visB, e, Bool.false_and, Bool.false_eq_true, if_false, zStp]
      exact ⟨_, _, Weak.mk (by simp (disch := omega) only [go_sem, seval, reduceCtorEq, ↓reduceIte]), rfl, rfl⟩
    · have e : inB x v = true := by simp [inB]; omega
      have hi : v.order.toNat < x.orders.length := by omega
      refine acond_b (fun hd => ?_) (fun hd => ?_) <;> (try simp only [decide_eq_true_eq, decide_eq_false_iff_not] at hd) <;> simp (disch := omega) only [Sh.out hd, go_sem, seval, reduceCtorEq, ↓reduceIte]
      · have hG : stopG x v = (nth x.orders v.order.toNat).drp := by simp [stopG, e, stopV, hd]
        have hV : visB x v = decide (0 ≤ (nth x.orders v.order.toNat).drp.place) := by simp [visB, e, stopV, hd]
        rw [hG, hV]
        refine awp_tree (.cons 0 (.cons 1 (.cons 2 (.cons 3 (.cons 4 (.cons 5 .nil .nil) .nil) (.cons 4 (.cons 3 (.cons 5 .nil .nil) .nil) .nil)) (.cons 4 (.cons 2 (.cons 3 (.cons 5 .nil .nil) .nil) .nil) .nil)) (.cons 4 (.cons 1 (.cons 2 (.cons 3 (.cons 5 .nil .nil) .nil) .nil) .nil) .nil)) (.cons 1 (.cons 0 (.cons 2 (.cons 3 (.cons 4 (.cons 5 .nil .nil) .nil) (.cons 4 (.cons 3 (.cons 5 .nil .nil) .nil) .nil)) (.cons 4 (.cons 2 (.cons 3 (.cons 5 .nil .nil) .nil) .nil) .nil)) (.cons 2 (.cons 0 (.cons 3 (.cons 4 (.cons 5 .nil .nil) .nil) (.cons 4 (.cons 3 (.cons 5 .nil .nil) .nil) .nil)) (.cons 3 (.cons 0 (.cons 4 (.cons 5 .nil .nil) .nil) .nil) .nil)) .nil)) .nil)) mixed (by kernel_rfl) ?_
        simp (disch := omega) only [go_sem, seval, reduceCtorEq, ↓reduceIte]
        repeat' first
          | refine akids_two ?_ ?_
          | exact ⟨_, _, Weak.mk (by simp (disch := omega) only [go_sem, seval, reduceCtorEq, ↓reduceIte]), rfl, rfl⟩
          | simp (disch := omega) only [go_sem, seval, reduceCtorEq, ↓reduceIte]
      · have hG : stopG x v = (nth x.orders v.order.toNat).pick := by simp [stopG, e, stopV, hd]
        have hV : visB x v = decide (0 ≤ (nth x.orders v.order.toNat).pick.place) := by simp [visB, e, stopV, hd]
        rw [hG, hV]
        refine awp_tree (.cons 0 (.cons 1 (.cons 2 (.cons 3 (.cons 4 (.cons 5 .nil .nil) .nil) (.cons 4 (.cons 3 (.cons 5 .nil .nil) .nil) .nil)) (.cons 4 (.cons 2 (.cons 3 (.cons 5 .nil .nil) .nil) .nil) .nil)) (.cons 4 (.cons 1 (.cons 2 (.cons 3 (.cons 5 .nil .nil) .nil) .nil) .nil) .nil)) (.cons 1 (.cons 0 (.cons 2 (.cons 3 (.cons 4 (.cons 5 .nil .nil) .nil) (.cons 4 (.cons 3 (.cons 5 .nil .nil) .nil) .nil)) (.cons 4 (.cons 2 (.cons 3 (.cons 5 .nil .nil) .nil) .nil) .nil)) (.cons 2 (.cons 0 (.cons 3 (.cons 4 (.cons 5 .nil .nil) .nil) (.cons 4 (.cons 3 (.cons 5 .nil .nil) .nil) .nil)) (.cons 3 (.cons 0 (.cons 4 (.cons 5 .nil .nil) .nil) .nil) .nil)) .nil)) .nil)) mixed (by kernel_rfl) ?_
        simp (disch := omega) only [go_sem, seval, reduceCtorEq, ↓reduceIte]
        repeat' first
          | refine akids_two ?_ ?_
          | exact ⟨_, _, Weak.mk (by simp (disch := omega) only [go_sem, seval, reduceCtorEq, ↓reduceIte]), rfl, rfl⟩
          | simp (disch := omega) only [go_sem, seval, reduceCtorEq, ↓reduceIte]
/-- is a route possible here? -/
def possB (x : Inst) (r : Rte) : Bool := (decide (0 ≤ r.typ) && decide (r.typ < (x.types.length : Int)) && decide (0 ≤ r.start) && decide (r.start ≤ 4096) && decide (r.visits.length ≤ 20)) && r.visits.all (visB x)
theorem poss18_c (x : Inst) (r : Rte) (ho : x.orders.length ≤ 1048576) (ht : x.types.length ≤ 1048576) (hl : r.visits.length ≤ 1048576) : ACalls Tryz.prog 142 [.p (eInst x), .p (eRte r)] [] fun y H' => y = .p (.bool (possB x r)) ∧ H' = [] := by
  refine acalls_pure (fn := Tryz.f142) Tryz.func142 rfl isF142 ?_
  simp (disch := omega) only [Tryz.f142, go_sem, seval, reduceCtorEq, ↓reduceIte]
  refine aguard_f (fun h1 => ?_) (fun h1 => ?_) <;> (try simp only [decide_eq_true_eq, decide_eq_false_iff_not] at h1) <;> simp (disch := omega) only [Sh.out h1, go_sem, seval, reduceCtorEq, ↓reduceIte]
  · simp [possB]; omega
  · refine aguard_f (fun h2 => ?_) (fun h2 => ?_) <;> (try simp only [decide_eq_true_eq, decide_eq_false_iff_not] at h2) <;> simp (disch := omega) only [Sh.out h2, go_sem, seval, reduceCtorEq, ↓reduceIte]
    · simp [possB]; omega
    · refine aguard_f (fun h3 => ?_) (fun h3 => ?_) <;> (try simp only [decide_eq_true_eq, decide_eq_false_iff_not] at h3) <;> simp (disch := omega) only [Sh.out h3, go_sem, seval, reduceCtorEq, ↓reduceIte]
      · simp [possB]; omega
      · refine aguard_f (fun h4 => ?_) (fun h4 => ?_) <;> (try simp only [decide_eq_true_eq, decide_eq_false_iff_not] at h4) <;> simp (disch := omega) only [Sh.out h4, go_sem, seval, reduceCtorEq, ↓reduceIte]
        · simp [possB]; omega
        · refine acond_b (fun h5 => ?_) (fun h5 => ?_) <;> (try simp only [decide_eq_true_eq, decide_eq_false_iff_not] at h5) <;> simp (disch := omega) only [Sh.out h5, go_sem, seval, reduceCtorEq, ↓reduceIte]
          · simp [possB]; omega
          · refine awp_for [2, 3] (fun k : Nat => [(5, .p (.int .i64 k))]) (fun _ => [instO x, rteO r]) (fun k => k ≤ r.visits.length ∧ ∀ j, j < k → visB x (nth r.visits j) = true) (fun k => r.visits.length - k) 0 (by simp) (Weak.mk ?_) ?_
            · simp (disch := omega) only [instO, rteO, go_sem, seval, reduceCtorEq, ↓reduceIte]
            · rintro k ⟨hk, hno⟩
              simp (disch := omega) only [instO, rteO, go_sem, seval, reduceCtorEq, ↓reduceIte]
              refine acond_b (fun h => ?_) (fun h => ?_) <;> (try simp only [decide_eq_true_eq, decide_eq_false_iff_not] at h) <;> simp (disch := omega) only [Sh.out h, go_sem, seval, reduceCtorEq, ↓reduceIte]
              · have hk2 : k < r.visits.length := by omega
                refine awp_drawnM [10, 11] 12 mixed (by kernel_rfl) (by kernel_rfl) (by kernel_rfl) (by simp) ?_
                simp (disch := omega) only [go_sem, seval, reduceCtorEq, ↓reduceIte]
                refine exq_callT (stop18_c x (nth r.visits k) ho) ?_
                simp (disch := omega) only [go_sem, seval, reduceCtorEq, ↓reduceIte]
                refine lateR_cons _ _ (by simp (disch := omega) only [go_sem, seval, reduceCtorEq, ↓reduceIte]; exact ⟨rfl, rfl⟩) ?_
                simp (disch := omega) only [go_sem, seval, reduceCtorEq, ↓reduceIte]
                refine lateR_cons _ _ (by simp (disch := omega) only [go_sem, seval, reduceCtorEq, ↓reduceIte]; exact ⟨rfl, rfl⟩) ?_
                simp (disch := omega) only [go_sem, seval, reduceCtorEq, ↓reduceIte]
                refine acond_b (fun h6 => ?_) (fun h6 => ?_) <;> (try simp only [decide_eq_true_eq, decide_eq_false_iff_not] at h6) <;> simp (disch := omega) only [Sh.out h6, go_sem, seval, reduceCtorEq, ↓reduceIte]
                · have : r.visits.all (visB x) = false := by
                    rw [List.all_eq_false]; exact ⟨nth r.visits k, nth_mem hk2, by simpa using h6⟩
                  simp [possB, this]
                · exact ⟨k + 1, ⟨by omega, upto_iff.2 ⟨hno, by simpa using h6⟩⟩, by omega, Weak.mk (by simp (disch := omega) only [instO, rteO, go_sem, seval, reduceCtorEq, ↓reduceIte])⟩
              · have hkl : k = r.visits.length := by omega
                subst hkl
                have : r.visits.all (visB x) = true := by
                  rw [List.all_eq_true]
                  intro v hv
                  obtain ⟨j, hj, rfl⟩ := List.mem_iff_getElem.1 hv
                  rw [← nth_get hj]; exact hno j hj
                simp [possB, this]; omega
end Go.Proofs.YtcllkjiebfmjpaaGreatDoor.K
set_option linter.unusedVariables false
set_option linter.unusedSimpArgs false
namespace Go.Proofs.YtcllkjiebfmjpaaGreatDoor.K
open Go Go.AM Go.Proofs
set_option maxRecDepth 8000
set_option maxHeartbeats 8000000
@[go_sem high] theorem amax_mx {k k' : IntKind} {a b : Int} : amax false [.p (.int k a), .p (.int k' b)] = some (.int k (max a b)) := by
  simp only [amax]
  by_cases h : a < b
  · simp [h]; omega
  · simp [h]; omega
theorem markT_snoc {l : List Tim} {m : Tim} {d : Int} {b : Bool} : markT (l ++ [m]) l.length d b = l ++ [{ m with dep := d, rest := b }] := by
  have : nth (l ++ [m]) l.length = m := by rw [nth_get (by simp)]; simp
  rw [markT, this]
  simp
/-- the step of the reference is that of labels -/
theorem stepF_arr {x : Inst} {t : Typ} {sp : List Stp} {k : Nat} {d s m : Int} {h : She} (hk : k < sp.length) (ho : (nth sp k).opn ≤ (nth sp k).cls) (hm : h.miles = m) :
    (stepF x t ⟨plcF t sp k, d, s, m⟩ (nth sp k).place (nth sp k).cls 14).2 = (arrF t sp k (goL x t sp k d) d s h).2 ∧
    ((arrF t sp k (goL x t sp k d) d s h).2 = 0 → (stepF x t ⟨plcF t sp k, d, s, m⟩ (nth sp k).place (nth sp k).cls 14).1 = ⟨(nth sp k).place, (goL x t sp k d).1, s + (goL x t sp k d).1 - d, m + (goL x t sp k d).2.1⟩ ∧
      (arrF t sp k (goL x t sp k d) d s h).1 = ⟨max (goL x t sp k d).1 (nth sp k).opn + (nth sp k).serv, s + (goL x t sp k d).1 - d, { h with times_c := false, times := h.times ++ [⟨(goL x t sp k d).1, max (goL x t sp k d).1 (nth sp k).opn, 0, false⟩], miles := m + (goL x t sp k d).2.1 }⟩) := by
  have hne : ¬ k = sp.length := by omega
  have e : goN x.net t.prof (plcF t sp k) (nth sp k).place d = goL x t sp k d := by simp [goL, toF, hne]
  unfold stepF arrF
  simp only [e, if_neg hne]
  subst hm
  generalize goL x t sp k d = g
  by_cases c1 : g.2.2 = 0
  · by_cases c2 : (nth sp k).cls < g.1
    · have c3 : (nth sp k).cls < max g.1 (nth sp k).opn := by omega
      simp [c1, c2, c3]
    · have c3 : ¬ (nth sp k).cls < max g.1 (nth sp k).opn := by omega
      by_cases c4 : t.drive < s + g.1 - d
      · simp [c1, c2, c3, c4]
      · simp [c1, c2, c3, c4]
  · simp [c1]
theorem stepF_end {x : Inst} {t : Typ} {sp : List Stp} {d s m : Int} {h : She} (hm : h.miles = m) :
    (stepF x t ⟨plcF t sp sp.length, d, s, m⟩ t.dst t.cls 15).2 = (arrF t sp sp.length (goL x t sp sp.length d) d s h).2 ∧
    ((arrF t sp sp.length (goL x t sp sp.length d) d s h).2 = 0 → (stepF x t ⟨plcF t sp sp.length, d, s, m⟩ t.dst t.cls 15).1 = ⟨t.dst, (goL x t sp sp.length d).1, s + (goL x t sp sp.length d).1 - d, m + (goL x t sp sp.length d).2.1⟩ ∧
      (arrF t sp sp.length (goL x t sp sp.length d) d s h).1 = ⟨(goL x t sp sp.length d).1, s + (goL x t sp sp.length d).1 - d, { h with fin := (goL x t sp sp.length d).1, miles := m + (goL x t sp sp.length d).2.1 }⟩) := by
  have e : goN x.net t.prof (plcF t sp sp.length) t.dst d = goL x t sp sp.length d := by simp [goL, toF]
  unfold stepF arrF
  simp only [e, if_true]
  subst hm
  generalize goL x t sp sp.length d = g
  by_cases c1 : g.2.2 = 0
  · by_cases c2 : t.cls < g.1
    · simp [c1, c2]
    · by_cases c4 : t.drive < s + g.1 - d
      · simp [c1, c2, c4]
      · simp [c1, c2, c4]
  · simp [c1]
def staO (s : StD) : AM.Obj := .cells [.p (.int .i64 s.place), .p (.int .i64 s.time), .p (.int .i64 s.driven), .p (.int .i64 s.miles)]
/-- the state at a departure -/
def depS (t : Typ) (sp : List Stp) (k : Nat) (L : Lab) (b : Bool) : StD := ⟨plcF t sp k, depF t L b, sncF L b, L.she.miles⟩
theorem useTx {g : FuncId} {args : List V} {a c : PV} {H : List AM.Obj} {K : V → List AM.Obj → Prop} (h : ACalls Tryz.prog g args [] fun x H' => ∃ b : PV, x = .tup [.p a, .p b, .p c] ∧ H' = []) (k : ∀ b : PV, K (.tup [.p a, .p b, .p c]) H) (ha : refBs 0 args = true := by rfl) : ACalls Tryz.prog g args H K :=
  (h.behind ha H).mono fun x H' hq => by
    obtain ⟨y, H1, ⟨b, rfl, rfl⟩, rfl, rfl⟩ := hq
    simpa [shV, shVs] using k b
theorem stopsF_len {x : Inst} {l : List Vis} : (stopsF x l).length = l.length := by simp [stopsF]
theorem stopsF_nth {x : Inst} {l : List Vis} {k : Nat} (h : k < l.length) : nth (stopsF x l) k = stopV x (nth l k) := by
  rw [nth_get (by simpa [stopsF] using h), nth_get h]; simp [stopsF]
theorem run18_c (x : Inst) (r : Rte) (rests : List Bool) (c : Bool) (hok : TrpOk x (typR x r) (stopsF x r.visits)) (ho : x.orders.length ≤ 1048576) (ht : x.types.length ≤ 1048576) (hne : 0 < r.visits.length) (hp : possB x r = true) (hl : rests.length = r.visits.length + 1) :
    ACalls Tryz.prog 202 [.p (eInst x), .p (eRte r), .p (.list c (rests.map eB))] [] fun y H' => ∃ d : PV, y = .tup [.p (eShe (runF x (typR x r) (stopsF x r.visits) 0 (labF (typR x r) r.start) rests).1.she), .p d, .p (.int .i64 (runF x (typR x r) (stopsF x r.visits) 0 (labF (typR x r) r.start) rests).2)] ∧ H' = [] := by
  have hp2 := hp
  simp only [possB, Bool.and_eq_true, decide_eq_true_eq] at hp2
  obtain ⟨⟨⟨⟨⟨p1, p2⟩, p3⟩, p4⟩, p5⟩, p6⟩ := hp2
  have hvis : ∀ k, k < r.visits.length → visB x (nth r.visits k) = true := fun k hk => List.all_eq_true.1 p6 _ (nth_mem hk)
  have hstop : ∀ k, k < r.visits.length → stopG x (nth r.visits k) = nth (stopsF x r.visits) k := fun k hk => by
    have := hvis k hk
    simp only [visB, Bool.and_eq_true] at this
    rw [stopG, if_pos this.1, stopsF_nth hk]
  have hti : r.typ.toNat < x.types.length := by omega
  have hopn := hok.opn
  have hrst := hok.rst
  have htd : typR x r = nth x.types r.typ.toNat := rfl
  generalize hT : typR x r = t at *
  have hsl : (stopsF x r.visits).length = r.visits.length := stopsF_len
  generalize hS : stopsF x r.visits = sp at *
  refine acalls_weak [26] (fn := Tryz.f202) Tryz.func202 rfl isF202 ?_
  simp (disch := omega) only [Tryz.f202, go_sem, seval, reduceCtorEq, ↓reduceIte]
  refine (poss18_c x r ho ht (by omega)).use ?_
  simp (disch := omega) only [go_sem, seval, reduceCtorEq, ↓reduceIte]
  rw [hp]
  simp (disch := omega) only [go_sem, seval, reduceCtorEq, ↓reduceIte]
  refine acond_b (fun h0 => ?_) (fun h0 => ?_) <;> (try simp only [decide_eq_true_eq, decide_eq_false_iff_not] at h0) <;> simp (disch := omega) only [Sh.out h0, ← htd, go_sem, seval, reduceCtorEq, ↓reduceIte]
  · omega
  · refine awp_drawnM [13] 14 mixed (by kernel_rfl) (by kernel_rfl) (by kernel_rfl) (by simp) ?_
    simp (disch := omega) only [go_sem, seval, reduceCtorEq, ↓reduceIte]
    refine exq_call (rest18_c t ⟨t.src, max t.opn r.start, 0, 0⟩ (nth rests 0) (by simp only; omega)) ?_
    simp (disch := omega) only [go_sem, seval, reduceCtorEq, ↓reduceIte]
    refine lateR_cons _ _ (by simp (disch := omega) only [go_sem, seval, reduceCtorEq, ↓reduceIte]; exact ⟨rfl, rfl⟩) ?_
    simp (disch := omega) only [go_sem, seval, reduceCtorEq, ↓reduceIte]
    refine awp_drawnM [6] 7 mixed (by kernel_rfl) (by kernel_rfl) (by kernel_rfl) (by simp) ?_
    simp (disch := omega) only [go_sem, seval, reduceCtorEq, ↓reduceIte]
    refine lateR_cons _ _ (by simp (disch := omega) only [go_sem, seval, reduceCtorEq, ↓reduceIte]; exact ⟨rfl, rfl⟩) ?_
    simp (disch := omega) only [go_sem, seval, reduceCtorEq, ↓reduceIte]
    have hL0 : LabR 0 (labF t r.start) := ⟨by simp only [labF]; omega, by simp [labF], by simp [labF, zShe]⟩
    have hS0 : restF t ⟨t.src, max t.opn r.start, 0, 0⟩ (nth rests 0) = depS t sp 0 (labF t r.start) (nth rests 0) := by
      simp only [restF, depS, plcF, depF, sncF, labF, zShe, if_true]
      split <;> rfl
    simp (disch := omega) only [hS0, go_sem, seval, reduceCtorEq, ↓reduceIte]
    refine awp_forC [26] [2, 3, 4, 6, 9, 10, 11] (fun q : Nat × Lab × List Int => [(12, .sl 7 0 q.2.2.length q.2.2.length), (13, .p (.int .i64 q.1))])
      (fun q => [instO x, rteO r, .cells [.p (.bool false), .p (.int .i64 0), .p (.list true []), .p (.int .i64 0), .p (.int .i64 0)], typO t, staO (depS t sp q.1 q.2.1 (nth rests q.1)),
        .cells [.p (.bool (markF q.1 (depF t q.2.1 (nth rests q.1)) (nth rests q.1) q.2.1.she).rest), .p (.int .i64 (markF q.1 (depF t q.2.1 (nth rests q.1)) (nth rests q.1) q.2.1.she).dep), .sl 6 0 (markF q.1 (depF t q.2.1 (nth rests q.1)) (nth rests q.1) q.2.1.she).times.length (markF q.1 (depF t q.2.1 (nth rests q.1)) (nth rests q.1) q.2.1.she).times.length, .p (.int .i64 0), .p (.int .i64 0)],
        .elems 4 ((markF q.1 (depF t q.2.1 (nth rests q.1)) (nth rests q.1) q.2.1.she).times.map eTim), .elems 1 (q.2.2.map eI)])
      (fun q => q.1 ≤ r.visits.length ∧ runF x t sp 0 (labF t r.start) rests = runF x t sp q.1 q.2.1 (rests.drop q.1) ∧ LabR q.1 q.2.1 ∧ q.2.1.she.times.length = q.1 ∧ q.2.1.she.fin = 0 ∧ (0 < q.1 → q.2.1.she.times_c = false) ∧ q.2.2.length = q.1) (fun q => r.visits.length - q.1) (0, labF t r.start, [])
      ⟨by simp, by simp, hL0, by simp [labF, zShe], by simp [labF, zShe], by simp, by simp⟩ ((Weak.nilC (o := 5) (j := 2) 4 rfl rfl (by simp)).trans (Weak.ofNil 12 1 rfl (by simp) (Weak.mk ?_))) ?_
    · simp (disch := omega) only [instO, rteO, typO, staO, depS, plcF, markF, labF, zShe, List.map_nil, List.length_nil, List.set_cons_succ, List.set_cons_zero, List.cons_append, List.nil_append, go_sem, seval, reduceCtorEq, ↓reduceIte]
    · rintro ⟨k, L, ds⟩ ⟨hk, hrun, hL, hlen, hfin, hclip, hds⟩
      simp only at hk hrun hL hlen hfin hclip hds
      have hmlen : (markF k (depF t L (nth rests k)) (nth rests k) L.she).times.length = k := by rw [markF_len]; exact hlen
      have hd := depF_rng hok hL (nth rests k)
      have hs := sncF_rng hL (nth rests k)
      have hg := goL_rng hok hL (nth rests k)
      have hmi := hL.mil
      generalize hm : markF k (depF t L (nth rests k)) (nth rests k) L.she = m at *
      have hmm : m.miles = L.she.miles := by rw [← hm, markF_miles]
      have hmf : m.fin = 0 := by rw [← hm, markF_fin, hfin]
      have hdrop : rests.drop k = nth rests k :: rests.drop (k + 1) := by rw [List.drop_eq_getElem_cons (by omega), nth_get (by omega)]
      have hnx : nxtF x t sp k L (nth rests k) = arrF t sp k (goL x t sp k (depF t L (nth rests k))) (depF t L (nth rests k)) (sncF L (nth rests k)) m := by rw [nxtF, hm]
      rw [hdrop, runF] at hrun
      simp (disch := omega) only [instO, rteO, typO, staO, go_sem, seval, reduceCtorEq, ↓reduceIte]
      refine acond_b (fun h => ?_) (fun h => ?_) <;> (try simp only [decide_eq_true_eq, decide_eq_false_iff_not] at h) <;> simp (disch := omega) only [Sh.out h, go_sem, seval, reduceCtorEq, ↓reduceIte]
      · have hk2 : k < r.visits.length := by omega
        have hsp := hok.stp _ (nth_in (show k < sp.length by omega))
        refine awp_drawnM [10, 11] 12 mixed (by kernel_rfl) (by kernel_rfl) (by kernel_rfl) (by simp) ?_
        simp (disch := omega) only [go_sem, seval, reduceCtorEq, ↓reduceIte]
        refine exq_callT (stop18_c x (nth r.visits k) ho) ?_
        simp (disch := omega) only [go_sem, seval, reduceCtorEq, ↓reduceIte]
        refine lateR_cons _ _ (by simp (disch := omega) only [go_sem, seval, reduceCtorEq, ↓reduceIte]; exact ⟨rfl, rfl⟩) ?_
        simp (disch := omega) only [go_sem, seval, reduceCtorEq, ↓reduceIte]
        refine lateR_cons _ _ (by simp (disch := omega) only [go_sem, seval, reduceCtorEq, ↓reduceIte]; exact ⟨rfl, rfl⟩) ?_
        simp (disch := omega) only [hstop k hk2, go_sem, seval, reduceCtorEq, ↓reduceIte]
        obtain ⟨f1, f2⟩ := stepF_arr (x := x) (t := t) (d := depF t L (nth rests k)) (s := sncF L (nth rests k)) (h := m) (show k < sp.length by omega) hsp.2.1 hmm
        have he2 : goN x.net t.prof (plcF t sp k) (nth sp k).place (depF t L (nth rests k)) = goL x t sp k (depF t L (nth rests k)) := by
          have hne : ¬ k = sp.length := by omega
          simp [goL, toF, hne]
        refine useT' (step18_c x t (depS t sp k L (nth rests k)) (nth sp k).place (nth sp k).cls 14 hok.net ?_ ?_ ?_ ?_) ?_
        · simp only [depS]; omega
        · simp only [depS, Sml]; omega
        · simp only [depS, Sml]; omega
        · simp only [depS, Sml]; rw [he2]; omega
        have f1' : (stepF x t (depS t sp k L (nth rests k)) (nth sp k).place (nth sp k).cls 14).2 = (nxtF x t sp k L (nth rests k)).2 := by rw [hnx, ← f1]; rfl
        simp (disch := omega) only [go_sem, seval, reduceCtorEq, ↓reduceIte]
        rw [f1']
        refine acond_b (fun h3 => ?_) (fun h3 => ?_) <;> (try simp only [decide_eq_true_eq, decide_eq_false_iff_not] at h3) <;> simp (disch := omega) only [Sh.out h3, go_sem, seval, reduceCtorEq, ↓reduceIte]
        · rw [if_neg h3] at hrun
          rw [hrun]
          simp only [zLab, zShe]
          exact ⟨_, _, Weak.mk (by simp (disch := omega) only [List.map_nil, go_sem, seval, reduceCtorEq, ↓reduceIte]), .list true [], rfl, rfl⟩
        · have h3' : (nxtF x t sp k L (nth rests k)).2 = 0 := Classical.not_not.1 h3
          rw [if_pos h3'] at hrun
          have hL' := nxtF_ok hok (by omega) hL h3'
          rw [hnx] at h3'
          obtain ⟨f3, f4⟩ := f2 h3'
          have f3' : (stepF x t (depS t sp k L (nth rests k)) (nth sp k).place (nth sp k).cls 14).1 = ⟨(nth sp k).place, (goL x t sp k (depF t L (nth rests k))).1, sncF L (nth rests k) + (goL x t sp k (depF t L (nth rests k))).1 - depF t L (nth rests k), L.she.miles + (goL x t sp k (depF t L (nth rests k))).2.1⟩ := f3
          have hL2 : (nxtF x t sp k L (nth rests k)).1 = ⟨max (goL x t sp k (depF t L (nth rests k))).1 (nth sp k).opn + (nth sp k).serv, sncF L (nth rests k) + (goL x t sp k (depF t L (nth rests k))).1 - depF t L (nth rests k), { m with times_c := false, times := m.times ++ [⟨(goL x t sp k (depF t L (nth rests k))).1, max (goL x t sp k (depF t L (nth rests k))).1 (nth sp k).opn, 0, false⟩], miles := L.she.miles + (goL x t sp k (depF t L (nth rests k))).2.1 }⟩ := by rw [hnx]; exact f4
          simp (disch := omega) only [f3', go_sem, seval, reduceCtorEq, ↓reduceIte]
          refine awp_drawnM [13] 14 mixed (by kernel_rfl) (by kernel_rfl) (by kernel_rfl) (by simp) ?_
          simp (disch := omega) only [go_sem, seval, reduceCtorEq, ↓reduceIte]
          refine lateR_cons _ _ (by simp (disch := omega) only [go_sem, seval, reduceCtorEq, ↓reduceIte]; exact ⟨rfl, rfl⟩) ?_
          simp (disch := omega) only [go_sem, seval, reduceCtorEq, ↓reduceIte]
          generalize (nxtF x t sp k L (nth rests k)).1 = L2 at *
          have hS1 : restF t ⟨(nth sp k).place, max (goL x t sp k (depF t L (nth rests k))).1 (nth sp k).opn + (nth sp k).serv, sncF L (nth rests k) + (goL x t sp k (depF t L (nth rests k))).1 - depF t L (nth rests k), L.she.miles + (goL x t sp k (depF t L (nth rests k))).2.1⟩ (nth rests (k + 1)) = depS t sp (k + 1) L2 (nth rests (k + 1)) := by
            rw [hL2]
            simp only [restF, depS, plcF, depF, sncF, Nat.add_sub_cancel, if_neg (show ¬ k + 1 = 0 by omega)]
            split <;> rfl
          have hM : markF (k + 1) (depF t L2 (nth rests (k + 1))) (nth rests (k + 1)) L2.she = { m with times_c := false, times := m.times ++ [⟨(goL x t sp k (depF t L (nth rests k))).1, max (goL x t sp k (depF t L (nth rests k))).1 (nth sp k).opn, depF t L2 (nth rests (k + 1)), nth rests (k + 1)⟩], miles := L.she.miles + (goL x t sp k (depF t L (nth rests k))).2.1 } := by
            have he : L2.she = { m with times_c := false, times := m.times ++ [⟨(goL x t sp k (depF t L (nth rests k))).1, max (goL x t sp k (depF t L (nth rests k))).1 (nth sp k).opn, 0, false⟩], miles := L.she.miles + (goL x t sp k (depF t L (nth rests k))).2.1 } := by rw [hL2]
            rw [he, markF, if_neg (by omega), Nat.add_sub_cancel]
            simp only [← hmlen, markT_snoc]
          have hd2 := depF_rng hok hL' (nth rests (k + 1))
          refine awp_drawnS 8 mixed (by kernel_rfl) (by kernel_rfl) ?_
          simp (disch := omega) only [go_sem, seval, reduceCtorEq, ↓reduceIte]
          refine exq_call (rest18_c t ⟨(nth sp k).place, max (goL x t sp k (depF t L (nth rests k))).1 (nth sp k).opn + (nth sp k).serv, sncF L (nth rests k) + (goL x t sp k (depF t L (nth rests k))).1 - depF t L (nth rests k), L.she.miles + (goL x t sp k (depF t L (nth rests k))).2.1⟩ (nth rests (k + 1)) (by simp only; omega)) ?_
          simp (disch := omega) only [go_sem, seval, reduceCtorEq, ↓reduceIte]
          simp (disch := omega) only [hS1, go_sem, seval, reduceCtorEq, ↓reduceIte]
          refine ⟨(k + 1, L2, ds ++ [L2.since]), ⟨by simp only; omega, hrun, hL', by rw [hL2]; simp [hmlen], by rw [hL2]; exact hmf, by rw [hL2]; simp, by simp [hds]⟩, by simp only; omega, Weak.mk ?_⟩
          simp (disch := omega) only [hM, instO, rteO, typO, staO, hmlen, List.length_append, List.length_cons, List.length_nil, List.map_append, List.map_cons, List.map_nil, go_sem, seval, reduceCtorEq, ↓reduceIte]
          exact ⟨rfl, by rw [show L2.since = sncF L (nth rests k) + (goL x t sp k (depF t L (nth rests k))).1 - depF t L (nth rests k) by rw [hL2]]⟩
      · have hkl : k = sp.length := by omega
        subst hkl
        obtain ⟨f1, f2⟩ := stepF_end (x := x) (t := t) (sp := sp) (d := depF t L (nth rests sp.length)) (s := sncF L (nth rests sp.length)) (h := m) hmm
        have he2 : goN x.net t.prof (plcF t sp sp.length) t.dst (depF t L (nth rests sp.length)) = goL x t sp sp.length (depF t L (nth rests sp.length)) := by simp [goL, toF]
        refine useT' (step18_c x t (depS t sp sp.length L (nth rests sp.length)) t.dst t.cls 15 hok.net ?_ ?_ ?_ ?_) ?_
        · simp only [depS]; omega
        · simp only [depS, Sml]; omega
        · simp only [depS, Sml]; omega
        · simp only [depS, Sml]; rw [he2]; omega
        have f1' : (stepF x t (depS t sp sp.length L (nth rests sp.length)) t.dst t.cls 15).2 = (nxtF x t sp sp.length L (nth rests sp.length)).2 := by rw [hnx, ← f1]; rfl
        simp (disch := omega) only [go_sem, seval, reduceCtorEq, ↓reduceIte]
        rw [f1']
        have hdl : rests.drop (sp.length + 1) = [] := List.drop_eq_nil_of_le (by omega)
        rw [hdl, runF] at hrun
        refine acond_b (fun h3 => ?_) (fun h3 => ?_) <;> (try simp only [decide_eq_true_eq, decide_eq_false_iff_not] at h3) <;> simp (disch := omega) only [Sh.out h3, go_sem, seval, reduceCtorEq, ↓reduceIte]
        · rw [if_neg h3] at hrun
          rw [hrun]
          simp only [zLab, zShe]
          exact ⟨_, _, Weak.mk (by simp (disch := omega) only [List.map_nil, go_sem, seval, reduceCtorEq, ↓reduceIte]), .list true [], rfl, rfl⟩
        · have h3' : (nxtF x t sp sp.length L (nth rests sp.length)).2 = 0 := Classical.not_not.1 h3
          rw [if_pos h3'] at hrun
          rw [hnx] at h3'
          obtain ⟨f3, f4⟩ := f2 h3'
          have f3' : (stepF x t (depS t sp sp.length L (nth rests sp.length)) t.dst t.cls 15).1 = ⟨t.dst, (goL x t sp sp.length (depF t L (nth rests sp.length))).1, sncF L (nth rests sp.length) + (goL x t sp sp.length (depF t L (nth rests sp.length))).1 - depF t L (nth rests sp.length), L.she.miles + (goL x t sp sp.length (depF t L (nth rests sp.length))).2.1⟩ := f3
          rw [hrun, hnx, f4]
          simp (disch := omega) only [f3', go_sem, seval, reduceCtorEq, ↓reduceIte]
          refine awp_weak (Weak.fz (o := 6) (by rfl)) ?_
          refine awp_weak (Weak.fz (o := 7) (by rfl)) ?_
          refine awp_sound [] _ _ _ _ ?_
          simp (disch := omega) only [List.map_cons, List.map_nil, List.set_cons_succ, List.set_cons_zero, go_sem, seval, reduceCtorEq, ↓reduceIte]
          have hmc : m.times_c = false := by
            rw [← hm, ← hclip (by omega)]
            unfold markF
            split <;> rfl
          exact ⟨_, _, Weak.mk (by simp (disch := omega) only [hmc, go_sem, seval, reduceCtorEq, ↓reduceIte]), .list false (ds.map eI ++ [.int .i64 (sncF L (nth rests sp.length) + (goL x t sp sp.length (depF t L (nth rests sp.length))).1 - depF t L (nth rests sp.length))]), rfl, rfl⟩
theorem Run18_c (x : Inst) (r : Rte) (rests : List Bool) (c : Bool) (hok : TrpOk x (typR x r) (stopsF x r.visits)) (ho : x.orders.length ≤ 1048576) (ht : x.types.length ≤ 1048576) (hne : 0 < r.visits.length) (hp : possB x r = true) (hl : rests.length = r.visits.length + 1) :
    ACalls Tryz.prog 143 [.p (eInst x), .p (eRte r), .p (.list c (rests.map eB))] [] fun y H' => y = .tup [.p (eShe (runF x (typR x r) (stopsF x r.visits) 0 (labF (typR x r) r.start) rests).1.she), .p (.int .i64 (runF x (typR x r) (stopsF x r.visits) 0 (labF (typR x r) r.start) rests).2)] ∧ H' = [] := by
  have cr := run18_c x r rests c hok ho ht hne hp hl
  generalize (runF x (typR x r) (stopsF x r.visits) 0 (labF (typR x r) r.start) rests) = q at cr ⊢
  obtain ⟨L, e⟩ := q
  refine acalls_weak [] (fn := Tryz.f143) Tryz.func143 rfl isF143 ?_
  simp (disch := omega) only [Tryz.f143, go_sem, seval, reduceCtorEq, ↓reduceIte]
  refine useTx cr fun d => ?_
  simp (disch := omega) only [go_sem, seval, reduceCtorEq, ↓reduceIte]
  exact ⟨_, _, Weak.mk (by simp (disch := omega) only [go_sem, seval, reduceCtorEq, ↓reduceIte]), rfl, rfl⟩
end Go.Proofs.YtcllkjiebfmjpaaGreatDoor.K
set_option linter.unusedVariables false
set_option linter.unusedSimpArgs false
namespace Go.Proofs.YtcllkjiebfmjpaaGreatDoor.K
open Go Go.AM Go.Proofs
set_option maxRecDepth 8000
set_option maxHeartbeats 8000000
def nextR (l : List Bool) (n : Nat) : Option (List Bool) := (nextB (l.drop n)).map (l.take n ++ ·)
def optL : Option (List Bool) → PV
  | some l => .list false (l.map eB)
  | none => .list true []
theorem nextB_trues : ∀ m : Nat, nextB (List.replicate m true) = none
  | 0 => rfl
  | m + 1 => by rw [List.replicate_succ, nextB, nextB_trues m]; rfl
theorem nextB_app : ∀ (a b r : List Bool), nextB b = some r → nextB (a ++ b) = some (a ++ r)
  | [], b, r, h => h
  | x :: a, b, r, h => by rw [List.cons_append, nextB, nextB_app a b r h]; rfl
theorem nextB_at (a : List Bool) (m : Nat) : nextB (a ++ false :: List.replicate m true) = some (a ++ true :: List.replicate m false) := by
  refine nextB_app _ _ _ ?_
  rw [nextB, nextB_trues]
  simp
theorem setB_map {o : List Bool} {i : Nat} {b : Bool} : (o.map eB).set i (.bool b) = (o.set i b).map eB := by rw [List.map_set]; rfl
theorem next18_c (l : List Bool) (c : Bool) (n : Nat) (hn : n ≤ l.length) (h0 : 0 < l.length) (hl : l.length ≤ 1048576) : ACalls Tryz.prog 144 [.p (.list c (l.map eB)), .p (.int .i64 (n : Nat))] [] fun y H' => y = .tup [.p (optL (nextR l n)), .p (.bool (nextR l n).isSome)] ∧ H' = [] := by
  refine acalls_weak [8] (fn := Tryz.f144) Tryz.func144 rfl isF144 ?_
  simp (disch := omega) only [Tryz.f144, go_sem, seval, reduceCtorEq, ↓reduceIte]
  rw [if_pos ⟨by omega, by omega⟩]
  simp (disch := omega) only [go_sem, seval, reduceCtorEq, ↓reduceIte]
  refine awp_forC [8] [1] (fun q : Nat × List Bool => [(6, .sl 0 0 q.2.length q.2.length), (7, .p (.int .i64 ((q.1 : Int) - 1)))]) (fun q => [.elems 1 (q.2.map eB)]) (fun q => n ≤ q.1 ∧ q.1 ≤ l.length ∧ q.2 = l.take q.1 ++ List.replicate (l.length - q.1) false ∧ l.drop q.1 = List.replicate (l.length - q.1) true) (fun q => q.1) (l.length, l) (by simp; omega) (Weak.mk ?_) ?_
  · simp (disch := omega) only [go_sem, seval, reduceCtorEq, ↓reduceIte]
  · rintro ⟨j, o⟩ ⟨hj1, hj2, ho, hjt⟩
    simp only at hj1 hj2 ho hjt
    have hol : o.length = l.length := by rw [ho]; simp; omega
    simp (disch := omega) only [go_sem, seval, reduceCtorEq, ↓reduceIte]
    refine acond_b (fun h => ?_) (fun h => ?_) <;> (try simp only [decide_eq_true_eq, decide_eq_false_iff_not] at h) <;> simp (disch := omega) only [Sh.out h, go_sem, seval, reduceCtorEq, ↓reduceIte]
    · obtain ⟨i, rfl⟩ : ∃ i, j = i + 1 := ⟨j - 1, by omega⟩
      have hij : (((i + 1 : Nat) : Int) - 1) = (i : Int) := by omega
      have hat : nth o i = nth l i := by
        rw [nth_get (by omega), nth_get (by omega)]
        simp only [ho]
        rw [List.getElem_append_left (by simp; omega)]; simp
      have hdr : l.drop i = nth l i :: List.replicate (l.length - (i + 1)) true := by
        rw [List.drop_eq_getElem_cons (by omega), hjt, nth_get (by omega)]
      have hio : i < o.length := by omega
      simp (disch := first | omega | (simp only [List.length_cons, List.length_nil, List.length_append, List.length_map, List.length_take, List.length_drop] <;> omega)) only [Int.add_sub_cancel, elt_map, hat, hio, go_sem, seval, reduceCtorEq, ↓reduceIte]
      refine acond_b (fun h2 => ?_) (fun h2 => ?_) <;> (try simp only [decide_eq_true_eq, decide_eq_false_iff_not] at h2) <;> simp (disch := omega) only [Sh.out h2, go_sem, seval, reduceCtorEq, ↓reduceIte]
      · have hf : nth l i = false := by simpa using h2
        have hres : nextR l n = some (o.set i true) := by
          rw [hf] at hdr
          have e : l.drop n = (l.drop n).take (i - n) ++ false :: List.replicate (l.length - (i + 1)) true := by
            rw [← hdr, show l.drop i = (l.drop n).drop (i - n) by rw [List.drop_drop]; congr 1; omega, List.take_append_drop]
          rw [nextR, e, nextB_at, ho]
          simp only [Option.map_some, Option.some.injEq]
          have e2 : l.take (i + 1) = l.take n ++ (l.drop n).take (i - n) ++ [nth l i] := by
            rw [List.take_succ_eq_append_getElem (by omega), nth_get (by omega)]
            congr 1
            have : l.take i = l.take (n + (i - n)) := by congr 1; omega
            rw [this, List.take_add]
          rw [e2, hf]
          have el : (l.take n ++ (l.drop n).take (i - n)).length = i := by simp; omega
          rw [List.append_assoc (l.take n ++ (l.drop n).take (i - n)), List.set_append_right _ _ (by omega), el]
          simp
        rw [hres]
        simp (disch := first | omega | (simp only [List.length_cons, List.length_nil, List.length_append, List.length_map, List.length_take, List.length_drop] <;> omega)) only [hio, setB_map, go_sem, seval, reduceCtorEq, ↓reduceIte]
        refine awp_weak (Weak.fz (o := 0) (by rfl)) ?_
        refine awp_sound [] _ _ _ _ ?_
        simp (disch := omega) only [List.map_cons, List.map_nil, List.set_cons_succ, List.set_cons_zero, go_sem, seval, reduceCtorEq, ↓reduceIte]
        simp only [List.length_set, List.length_map, if_true]
        exact ⟨_, _, Weak.mk (by simp (disch := omega) only [optL, Option.isSome_some, go_sem, seval, reduceCtorEq, ↓reduceIte]), rfl, rfl⟩
      · have hf : nth l i = true := by simpa using h2
        simp (disch := first | omega | (simp only [List.length_cons, List.length_nil, List.length_append, List.length_map, List.length_take, List.length_drop] <;> omega)) only [hio, setB_map, go_sem, seval, reduceCtorEq, ↓reduceIte]
        refine ⟨(i, o.set i false), ⟨by simp only; omega, by simp only; omega, ?_, ?_⟩, by simp only; omega, Weak.mk (by simp (disch := first | omega | (simp only [List.length_cons, List.length_nil, List.length_append, List.length_map, List.length_take, List.length_drop] <;> omega)) only [List.length_set, Int.add_sub_cancel, go_sem, seval, reduceCtorEq, ↓reduceIte])⟩
        · simp only
          rw [ho, show l.length - i = (l.length - (i + 1)) + 1 by omega, List.replicate_succ, List.take_succ_eq_append_getElem (by omega), List.append_assoc, List.set_append_right _ _ (by simp; omega), show i - (l.take i).length = 0 by simp; omega]
          simp
        · simp only
          rw [hdr, hf, show l.length - i = (l.length - (i + 1)) + 1 by omega, List.replicate_succ]
    · have hjn : j = n := by omega
      have hres : nextR l n = none := by rw [nextR, ← hjn, hjt, nextB_trues]; rfl
      rw [hres]
      exact ⟨_, _, Weak.mk (by simp (disch := omega) only [optL, Option.isSome_none, go_sem, seval, reduceCtorEq, ↓reduceIte]), rfl, rfl⟩
theorem nextR_app {r q : List Bool} : nextR (r ++ q) r.length = (nextB q).map (r ++ ·) := by simp [nextR]
theorem optL_some {l : List Bool} : optL (some l) = .list false (l.map eB) := rfl
theorem optL_none : optL none = .list true [] := rfl
def sheB (b : Option Lab) : She := match b with | some L => L.she | none => zShe
def remR (r : List Bool) (cur : Option (List Bool)) : List (List Bool) := match cur with | some q => (fromB q).map (r ++ ·) | none => []
theorem remR_next {r s : List Bool} : remR r (some s) = (r ++ s) :: remR r (nextB s) := by
  unfold remR
  simp only
  rw [fromB_next s, List.map_cons]
  cases nextB s <;> rfl
theorem runF_err {x : Inst} {t : Typ} {sp : List Stp} : ∀ (bs : List Bool) (k : Nat) (L : Lab), ¬ (runF x t sp k L bs).2 = 0 → (runF x t sp k L bs).1 = zLab
  | [], k, L, h => by simp [runF] at h
  | b :: bs, k, L, h => by
    rw [runF] at h ⊢
    split
    · rename_i c; rw [if_pos c] at h; exact runF_err bs _ _ h
    · rfl
theorem best18_c (x : Inst) (r : Rte) (hok : TrpOk x (typR x r) (stopsF x r.visits)) (ho : x.orders.length ≤ 1048576) (ht : x.types.length ≤ 1048576) (hne : 0 < r.visits.length) (hp : possB x r = true) (hl : r.rests.length ≤ r.visits.length + 1) :
    ACalls Tryz.prog 98 [.p (eInst x), .p (eRte r)] [] fun y H' => y = .tup [.p (eShe (bestR x r).1), .p (.int .i64 (bestR x r).2)] ∧ H' = [] := by
  have hsl : (stopsF x r.visits).length = r.visits.length := stopsF_len
  have hp2 := hp
  simp only [possB, Bool.and_eq_true, decide_eq_true_eq] at hp2
  have hv20 := hp2.1.2
  have hrun := fun rests (c : Bool) (h : rests.length = r.visits.length + 1) => Run18_c x r rests c hok ho ht hne hp h
  have hopt := fun bs => runF_opt (x := x) (t := typR x r) (sp := stopsF x r.visits) bs 0 (labF (typR x r) r.start)
  unfold bestR bestF
  generalize hS : stopsF x r.visits = sp at *
  generalize typR x r = t at *
  generalize labF t r.start = L0 at *
  refine acalls_weak [5, 6] (fn := Tryz.f98) Tryz.func98 rfl isF98 ?_
  simp (disch := omega) only [Tryz.f98, go_sem, seval, reduceCtorEq, ↓reduceIte]
  refine (poss18_c x r ho ht (by omega)).use ?_
  simp (disch := omega) only [go_sem, seval, reduceCtorEq, ↓reduceIte]
  rw [hp]
  simp (disch := omega) only [go_sem, seval, reduceCtorEq, ↓reduceIte]
  refine acond_b (fun h0 => ?_) (fun h0 => ?_) <;> (try simp only [decide_eq_true_eq, decide_eq_false_iff_not] at h0) <;> simp (disch := omega) only [Sh.out h0, go_sem, seval, reduceCtorEq, ↓reduceIte]
  · omega
  · refine awp_seq (awp_opS 3 rfl rfl ?_)
    simp (disch := omega) only [go_sem, seval, reduceCtorEq, ↓reduceIte]
    refine ⟨_, _, ops_copy (e := 4) rfl Tryz.underlying53 (by kernel_rfl) rfl rfl rfl ?_ ?_ ?_, ?_⟩
    · simp
    · simp; omega
    · intro q hq
      obtain ⟨b, _, rfl⟩ := List.mem_map.1 hq
      rfl
    · have hpl : (padR r.rests (sp.length + 1)).length = r.visits.length + 1 := by simp [padR]; omega
      have hpad : r.rests.map eB ++ (PV.bool false :: List.replicate r.visits.length (PV.bool false)).drop (r.rests.map eB).length = (padR r.rests (sp.length + 1)).map eB := by
        rw [padR, List.map_append, ← List.replicate_succ, List.drop_replicate, List.map_replicate, hsl, List.length_map]; rfl
      simp only [List.set_cons_succ, List.set_cons_zero]
      rw [hpad]
      have h0r := hopt (padR r.rests (sp.length + 1))
      have cn : ∀ s : List Bool, (r.rests ++ s).length = r.visits.length + 1 → ACalls Tryz.prog 144 [.p (.list false ((r.rests ++ s).map eB)), .p (.int .i64 (r.rests.length : Nat))] [] fun y H' => y = .tup [.p (optL ((nextB s).map (r.rests ++ ·))), .p (.bool ((nextB s).map (r.rests ++ ·)).isSome)] ∧ H' = [] := fun s hs => by
        have := next18_c (r.rests ++ s) false r.rests.length (by simp) (by omega) (by omega)
        rwa [nextR_app] at this
      have e1 : (runF x t sp 0 L0 (padR r.rests (sp.length + 1))).1.she = sheB (runO (nxtO x t sp) 0 L0 (padR r.rests (sp.length + 1))) := by
        rw [h0r]
        split
        · rfl
        · rename_i c; rw [runF_err _ _ _ c]; rfl
      have e2 : decide ((runF x t sp 0 L0 (padR r.rests (sp.length + 1))).2 = 0) = (runO (nxtO x t sp) 0 L0 (padR r.rests (sp.length + 1))).isSome := by
        rw [h0r]
        split
        · rename_i c; simp [c]
        · rename_i c; simp [c]
      have hrp := hrun (padR r.rests (sp.length + 1)) false hpl
      have hall : restsR r.rests (sp.length + 1) = remR r.rests (some (List.replicate (sp.length + 1 - r.rests.length) false)) := rfl
      refine awp_weak (Weak.fz (o := 3) (by rfl)) ?_
      refine awp_sound [] _ _ _ _ ?_
      simp (disch := omega) only [List.map_cons, List.map_nil, List.set_cons_succ, List.set_cons_zero, go_sem, seval, reduceCtorEq, ↓reduceIte]
      rw [if_pos hpl]
      refine useT' hrp ?_
      simp (disch := omega) only [go_sem, seval, reduceCtorEq, ↓reduceIte]
      refine useT' (cn (List.replicate (sp.length + 1 - r.rests.length) false) hpl) ?_
      simp (disch := omega) only [e1, e2, go_sem, seval, reduceCtorEq, ↓reduceIte]
      have hfm : fmL finF none ((restsR r.rests (sp.length + 1)).filterMap (runO (nxtO x t sp) 0 L0)) = fmL finF (runO (nxtO x t sp) 0 L0 (padR r.rests (sp.length + 1))) ((remR r.rests (nextB (List.replicate (sp.length + 1 - r.rests.length) false))).filterMap (runO (nxtO x t sp) 0 L0)) := by
        rw [hall, remR_next, List.filterMap_cons]
        rw [show r.rests ++ List.replicate (sp.length + 1 - r.rests.length) false = padR r.rests (sp.length + 1) from rfl]
        cases runO (nxtO x t sp) 0 L0 (padR r.rests (sp.length + 1)) with
        | none => rfl
        | some L => rfl
      clear hall
      generalize fmL finF none ((restsR r.rests (sp.length + 1)).filterMap (runO (nxtO x t sp) 0 L0)) = res at hfm ⊢
      generalize (runF x t sp 0 L0 (padR r.rests (sp.length + 1))).2 = err0
      refine awp_for [2, 3, 4, 8, 9] (fun q : Option (List Bool) × Option Lab => [(7, .p (optL (q.1.map (r.rests ++ ·)))), (10, .p (.bool q.2.isSome)), (11, .p (.bool (q.1.map (r.rests ++ ·)).isSome))])
        (fun q => [instO x, rteO r, .cells [.p (.bool false), .p (.int .i64 0), .p (.list true []), .p (.int .i64 0), .p (.int .i64 0)], .dead, .cells [.p (.bool (sheB q.2).rest), .p (.int .i64 (sheB q.2).dep), .p (.list (sheB q.2).times_c ((sheB q.2).times.map eTim)), .p (.int .i64 (sheB q.2).fin), .p (.int .i64 (sheB q.2).miles)]])
        (fun q => res = fmL finF q.2 ((remR r.rests q.1).filterMap (runO (nxtO x t sp) 0 L0)) ∧ ∀ s, q.1 = some s → s.length = sp.length + 1 - r.rests.length) (fun q => (remR r.rests q.1).length)
        (nextB (List.replicate (sp.length + 1 - r.rests.length) false), runO (nxtO x t sp) 0 L0 (padR r.rests (sp.length + 1))) ⟨hfm, fun s hs => by have := fromB_next.nlen _ _ hs; simpa using this⟩ (Weak.mk ?_) ?_
      · simp (disch := omega) only [instO, rteO, go_sem, seval, reduceCtorEq, ↓reduceIte]
      · rintro ⟨cur, b⟩ ⟨hR, hcl⟩
        simp only at hR hcl
        cases cur with
        | none =>
          simp only [remR, List.filterMap_nil] at hR
          simp (disch := omega) only [Option.map_none, Option.isSome_none, optL_none, instO, rteO, go_sem, seval, reduceCtorEq, ↓reduceIte]
          cases b with
          | none =>
            rw [fmL] at hR
            subst hR
            simp (disch := omega) only [Option.isSome_none, Bool.not_false, go_sem, seval, reduceCtorEq, ↓reduceIte]
            exact ⟨_, _, Weak.mk (by simp (disch := omega) only [zShe, List.map_nil, go_sem, seval, reduceCtorEq, ↓reduceIte]), rfl, rfl⟩
          | some m =>
            rw [fmL] at hR
            subst hR
            simp (disch := omega) only [Option.isSome_some, Bool.not_true, sheB, go_sem, seval, reduceCtorEq, ↓reduceIte]
            exact ⟨_, _, Weak.mk (by simp (disch := omega) only [go_sem, seval, reduceCtorEq, ↓reduceIte]), rfl, rfl⟩
        | some s =>
          have hsl2 := hcl s rfl
          rw [remR_next, List.filterMap_cons, hopt] at hR
          have hmu : (remR r.rests (nextB s)).length < (remR r.rests (some s)).length := by rw [remR_next]; simp
          have hnl : ∀ s', nextB s = some s' → s'.length = sp.length + 1 - r.rests.length := fun s' hs' => by rw [fromB_next.nlen _ _ hs', hsl2]
          have hlen : (r.rests ++ s).length = r.visits.length + 1 := by simp; omega
          have hr1 := hrun (r.rests ++ s) false hlen
          have cn1 := cn s hlen
          rw [List.map_append] at hr1 cn1
          simp (disch := omega) only [Option.map_some, Option.isSome_some, optL_some, instO, rteO, go_sem, seval, reduceCtorEq, ↓reduceIte]
          generalize runF x t sp 0 L0 (r.rests ++ s) = g at hR hr1
          obtain ⟨Lg, eg⟩ := g
          simp only at hR hr1
          refine useT' hr1 ?_
          simp (disch := omega) only [go_sem, seval, reduceCtorEq, ↓reduceIte]
          refine aguard_t (fun h1 => ?_) (fun h1 => ?_) <;> (try simp only [decide_eq_true_eq, decide_eq_false_iff_not] at h1) <;> simp (disch := omega) only [Sh.out h1, go_sem, seval, reduceCtorEq, ↓reduceIte]
          · subst h1
            cases b with
            | none =>
              simp (disch := omega) only [Option.isSome_none, Bool.not_false, go_sem, seval, reduceCtorEq, ↓reduceIte]
              refine useT' cn1 ?_
              simp (disch := omega) only [go_sem, seval, reduceCtorEq, ↓reduceIte]
              exact ⟨(nextB s, some Lg), ⟨hR, hnl⟩, hmu, Weak.mk (by simp (disch := omega) only [instO, rteO, sheB, Option.isSome_some, go_sem, seval, reduceCtorEq, ↓reduceIte])⟩
            | some m =>
              simp (disch := omega) only [Option.isSome_some, Bool.not_true, sheB, go_sem, seval, reduceCtorEq, ↓reduceIte]
              refine acond_b (fun h2 => ?_) (fun h2 => ?_) <;> (try simp only [decide_eq_true_eq, decide_eq_false_iff_not] at h2) <;> simp (disch := omega) only [Sh.out h2, go_sem, seval, reduceCtorEq, ↓reduceIte]
              · refine useT' cn1 ?_
                simp (disch := omega) only [go_sem, seval, reduceCtorEq, ↓reduceIte]
                exact ⟨(nextB s, some Lg), ⟨by rw [hR]; simp only [if_true, fmL, finF, h2], hnl⟩, hmu, Weak.mk (by simp (disch := omega) only [instO, rteO, sheB, Option.isSome_some, go_sem, seval, reduceCtorEq, ↓reduceIte])⟩
              · refine useT' cn1 ?_
                simp (disch := omega) only [go_sem, seval, reduceCtorEq, ↓reduceIte]
                exact ⟨(nextB s, some m), ⟨by rw [hR]; simp only [if_true, fmL, finF, h2, if_false], hnl⟩, hmu, Weak.mk (by simp (disch := omega) only [instO, rteO, sheB, Option.isSome_some, go_sem, seval, reduceCtorEq, ↓reduceIte])⟩
          · rw [if_neg h1] at hR
            refine useT' cn1 ?_
            simp (disch := omega) only [go_sem, seval, reduceCtorEq, ↓reduceIte]
            exact ⟨(nextB s, b), ⟨hR, hnl⟩, hmu, Weak.mk (by simp (disch := omega) only [instO, rteO, go_sem, seval, reduceCtorEq, ↓reduceIte])⟩
end Go.Proofs.YtcllkjiebfmjpaaGreatDoor.K
set_option linter.unusedVariables false
set_option linter.unusedSimpArgs false
namespace Go.Proofs.YtcllkjiebfmjpaaGreatDoor.K
open Go Go.AM Go.Proofs
set_option maxRecDepth 8000
set_option maxHeartbeats 8000000
/-- a row of numbers in a row -/
def eR (p : Bool × List Int) : PV := .list p.1 (p.2.map eI)
@[go_sem] theorem eR_eq (p : Bool × List Int) : eR p = .list p.1 (p.2.map eI) := Eq.trans rfl rfl
@[go_sem] theorem okE_eR (l : List (Bool × List Int)) : okE 1 (l.map eR) = true := okE_map fun _ => rfl
@[go_sem] theorem allS_eR (l : List (Bool × List Int)) : allS 1 (l.map eR) = true := allS_map (f := eR) (S := 1) (fun _ => rfl) l
theorem even06_c (L : List (Bool × List Int)) (c : Bool) (d : Nat) (hd : d ≤ 3) (hL : L.length ≤ 1048576) (h : ∀ p ∈ L, p.2.length = d) : ACalls Tryz.prog 203 [.p (.list c (L.map eR)), .p (.int .i64 (d : Nat))] [] fun x H' => x = .p (.bool true) ∧ H' = [] := by
  refine acalls_pure (fn := Tryz.f203) Tryz.func203 rfl isF203 ?_
  have e1 : ¬ (d : Int) < 0 := by omega
  have e2 : ¬ (3 : Int) < d := by omega
  simp (disch := omega) only [Tryz.f203, e1, e2, go_sem, seval, reduceCtorEq, ↓reduceIte]
  refine awp_for [0, 1] (fun k : Nat => [(5, .p (.int .i64 k))]) (fun _ => []) (fun k => k ≤ L.length) (fun k => L.length - k) 0 (by simp) (Weak.mk ?_) ?_
  · simp (disch := omega) only [go_sem, seval, reduceCtorEq, ↓reduceIte]
  · intro k hk
    simp (disch := omega) only [go_sem, seval, reduceCtorEq, ↓reduceIte]
    refine acond_b (fun h1 => ?_) (fun h1 => ?_) <;> (try simp only [decide_eq_true_eq, decide_eq_false_iff_not] at h1) <;> simp (disch := omega) only [Sh.out h1, go_sem, seval, reduceCtorEq, ↓reduceIte]
    · have hk2 : k < L.length := by omega
      have hp := h _ (nth_mem hk2)
      simp (disch := omega) only [hp, go_sem, seval, reduceCtorEq, ↓reduceIte]
      exact ⟨k + 1, by omega, by omega, Weak.mk (by simp (disch := omega) only [go_sem, seval, reduceCtorEq, ↓reduceIte])⟩
def colS (L : List (Bool × List Int)) (k j : Nat) : Int := ((L.take k).map fun p => nth p.2 j).sum
theorem colS_succ {L : List (Bool × List Int)} {k j : Nat} (h : k < L.length) : colS L (k + 1) j = colS L k j + nth (nth L k).2 j := by
  rw [colS, colS, List.take_succ_eq_append_getElem h, List.map_append, List.sum_append, nth_get h]; simp
theorem colS_rng {L : List (Bool × List Int)} {d j : Nat} (h : ∀ p ∈ L, p.2.length = d ∧ ∀ n ∈ p.2, 0 ≤ n ∧ n ≤ 1000) (hj : j < d) : ∀ k, k ≤ L.length → 0 ≤ colS L k j ∧ colS L k j ≤ 1000 * (k : Int)
  | 0, _ => by simp [colS]
  | k + 1, hk => by
    have ih := colS_rng h hj k (by omega)
    obtain ⟨h1, h2⟩ := h _ (nth_mem (show k < L.length by omega))
    have := h2 _ (nth_mem (show j < (nth L k).2.length by omega))
    rw [colS_succ (by omega)]
    omega
def sumL (L : List (Bool × List Int)) (d : Nat) : List Int := (List.range d).map fun j => colS L L.length j
theorem sum06_c (L : List (Bool × List Int)) (c : Bool) (d : Nat) (hd : 1 ≤ d ∧ d ≤ 3) (hL : L.length ≤ 1048576) (h : ∀ p ∈ L, p.2.length = d ∧ ∀ n ∈ p.2, 0 ≤ n ∧ n ≤ 1000) :
    ACalls Tryz.prog 146 [.p (.list c (L.map eR)), .p (.int .i64 (d : Nat))] [] fun x H' => x = .tup [.p (.list false ((sumL L d).map eI)), .p (.int .i64 0)] ∧ H' = [] := by
  refine acalls_weak [13] (fn := Tryz.f146) Tryz.func146 rfl isF146 ?_
  simp (disch := omega) only [Tryz.f146, go_sem, seval, reduceCtorEq, ↓reduceIte]
  refine (even06_c L c d hd.2 hL fun p hp => (h p hp).1).use ?_
  simp (disch := omega) only [go_sem, seval, reduceCtorEq, ↓reduceIte]
  refine awp_forC [13] [0, 1] (fun q : Nat × List Int => [(6, .sl 0 0 q.2.length q.2.length), (7, .p (.int .i64 q.1))]) (fun q => [.elems 1 (q.2.map eI)]) (fun q => q.1 ≤ d ∧ q.2 = (List.range q.1).map fun j => colS L L.length j) (fun q => d - q.1) (0, []) (by simp) (Weak.ofNil 6 1 rfl (by simp) (Weak.mk ?_)) ?_
  · simp (disch := omega) only [List.map_nil, List.length_nil, go_sem, seval, reduceCtorEq, ↓reduceIte]
  · rintro ⟨j, o⟩ ⟨hj, ho⟩
    simp only at hj ho
    have hol : o.length = j := by rw [ho]; simp
    simp (disch := omega) only [go_sem, seval, reduceCtorEq, ↓reduceIte]
    refine acond_b (fun h1 => ?_) (fun h1 => ?_) <;> (try simp only [decide_eq_true_eq, decide_eq_false_iff_not] at h1) <;> simp (disch := omega) only [Sh.out h1, go_sem, seval, reduceCtorEq, ↓reduceIte]
    · have hj2 : j < d := by omega
      refine awp_for [0, 1, 6, 7] (fun k : Nat => [(8, .p (.int .i64 (colS L k j))), (9, .p (.int .i64 k))]) (fun _ => [.elems 1 (o.map eI)]) (fun k => k ≤ L.length) (fun k => L.length - k) 0 (by simp) (Weak.mk ?_) ?_
      · simp (disch := omega) only [colS, List.take_zero, List.map_nil, List.sum_nil, go_sem, seval, reduceCtorEq, ↓reduceIte]
      · intro k hk
        simp (disch := omega) only [go_sem, seval, reduceCtorEq, ↓reduceIte]
        refine acond_b (fun h2 => ?_) (fun h2 => ?_) <;> (try simp only [decide_eq_true_eq, decide_eq_false_iff_not] at h2) <;> simp (disch := omega) only [Sh.out h2, go_sem, seval, reduceCtorEq, ↓reduceIte]
        · have hk2 : k < L.length := by omega
          obtain ⟨g1, g2⟩ := h _ (nth_mem hk2)
          have g3 := g2 _ (nth_mem (show j < (nth L k).2.length by omega))
          have g4 := colS_rng h hj2 k hk
          have g5 := colS_succ (j := j) hk2
          have g6 : j < (nth L k).2.length := by omega
          simp (disch := omega) only [go_sem, seval, reduceCtorEq, ↓reduceIte]
          exact ⟨k + 1, by omega, by omega, Weak.mk (by simp (disch := omega) only [g5, go_sem, seval, reduceCtorEq, ↓reduceIte])⟩
        · have hkl : k = L.length := by omega
          subst hkl
          refine ⟨(j + 1, o ++ [colS L L.length j]), ⟨by simp only; omega, by simp only; rw [ho, List.range_succ, List.map_append]; rfl⟩, by simp only; omega, Weak.mk (by simp (disch := omega) only [List.length_append, List.length_cons, List.length_nil, List.map_append, List.map_cons, List.map_nil, go_sem, seval, reduceCtorEq, ↓reduceIte])⟩
    · have hjd : j = d := by omega
      subst hjd
      refine awp_weak (Weak.fz (o := 0) (by rfl)) ?_
      refine awp_sound [] _ _ _ _ ?_
      simp (disch := omega) only [List.map_cons, List.map_nil, List.set_cons_succ, List.set_cons_zero, go_sem, seval, reduceCtorEq, ↓reduceIte]
      rw [sumL, ← ho]
      exact ⟨_, _, Weak.mk (by simp (disch := omega) only [go_sem, seval, reduceCtorEq, ↓reduceIte]), rfl, rfl⟩
theorem fits06_c (a b : List Int) (c d : Bool) (ha : a.length ≤ 1048576) (hb : b.length ≤ 1048576) : ACalls Tryz.prog 141 [.p (.list c (a.map eI)), .p (.list d (b.map eI))] [] fun x H' => x = .p (.bool (fitsB a b)) ∧ H' = [] := by
  refine acalls_pure (fn := Tryz.f141) Tryz.func141 rfl isF141 ?_
  simp (disch := omega) only [Tryz.f141, go_sem, seval, reduceCtorEq, ↓reduceIte]
  refine acond_b (fun h1 => ?_) (fun h1 => ?_) <;> (try simp only [decide_eq_true_eq, decide_eq_false_iff_not] at h1) <;> simp (disch := omega) only [Sh.out h1, go_sem, seval, reduceCtorEq, ↓reduceIte]
  · have : ¬ a.length = b.length := by omega
    simp [fitsB, this]
  · have h1' : a.length = b.length := by omega
    refine awp_for [0, 1] (fun k : Nat => [(5, .p (.int .i64 k))]) (fun _ => []) (fun k => k ≤ a.length ∧ ∀ j, j < k → nth a j ≤ nth b j) (fun k => a.length - k) 0 (by simp) (Weak.mk ?_) ?_
    · simp (disch := omega) only [go_sem, seval, reduceCtorEq, ↓reduceIte]
    · rintro k ⟨hk, hno⟩
      simp (disch := omega) only [go_sem, seval, reduceCtorEq, ↓reduceIte]
      refine acond_b (fun h2 => ?_) (fun h2 => ?_) <;> (try simp only [decide_eq_true_eq, decide_eq_false_iff_not] at h2) <;> simp (disch := omega) only [Sh.out h2, go_sem, seval, reduceCtorEq, ↓reduceIte]
      · have hk2 : k < a.length := by omega
        refine awp_drawnA mixed (by kernel_rfl) (by kernel_rfl) ?_
        simp (disch := omega) only [go_sem, seval, reduceCtorEq, ↓reduceIte]
        refine acond_b (fun h3 => ?_) (fun h3 => ?_) <;> (try simp only [decide_eq_true_eq, decide_eq_false_iff_not] at h3) <;> simp (disch := omega) only [Sh.out h3, go_sem, seval, reduceCtorEq, ↓reduceIte]
        · have : fitsB a b = false := by
            cases hf : fitsB a b with
            | false => rfl
            | true => simp [fitsB, List.all_eq_true] at hf; have := hf.2 k hk2; omega
          rw [this]
        · exact ⟨k + 1, ⟨by omega, upto_iff.2 ⟨hno, by omega⟩⟩, by omega, Weak.mk (by simp (disch := omega) only [go_sem, seval, reduceCtorEq, ↓reduceIte])⟩
      · have hkl : k = a.length := by omega
        subst hkl
        have : fitsB a b = true := by
          simp only [fitsB, Bool.and_eq_true, decide_eq_true_eq, List.all_eq_true, List.mem_range]
          exact ⟨h1', fun i hi => hno i hi⟩
        rw [this]
theorem dims17_c (x : Inst) (ht : x.types.length ≤ 1048576) : ACalls Tryz.prog 147 [.p (eInst x)] [] fun y H' => y = .p (.int .i64 (dimsOf x.types)) ∧ H' = [] := by
  refine acalls_pure (fn := Tryz.f147) Tryz.func147 rfl isF147 ?_
  simp (disch := omega) only [Tryz.f147, go_sem, seval, reduceCtorEq, ↓reduceIte]
  refine acond_b (fun h1 => ?_) (fun h1 => ?_) <;> (try simp only [decide_eq_true_eq, decide_eq_false_iff_not] at h1) <;> simp (disch := omega) only [Sh.out h1, go_sem, seval, reduceCtorEq, ↓reduceIte]
  · have : x.types.length = 0 := by omega
    simp [dimsOf, this]
  · have h2 : ¬ x.types.length = 0 := by omega
    simp only [dimsOf, h2, if_false]
end Go.Proofs.YtcllkjiebfmjpaaGreatDoor.K
set_option linter.unusedVariables false
set_option linter.unusedSimpArgs false
namespace Go.Proofs.YtcllkjiebfmjpaaGreatDoor.K
open Go Go.AM Go.Proofs
set_option maxRecDepth 8000
set_option maxHeartbeats 8000000
/-- what of a right instance the loads need -/
structure LdOk (x : Inst) : Prop where
  ord : x.orders.length ≤ 10
  typ : x.types.length ≤ 1048576
  dim : 1 ≤ dimsOf x.types ∧ dimsOf x.types ≤ 3
  load : ∀ o ∈ x.orders, (o.load.length : Int) = dimsOf x.types ∧ ∀ n ∈ o.load, 0 ≤ n ∧ n ≤ 1000
theorem ldOk_of {x : Inst} (h : InstOk x) : LdOk x := by
  have ht := h.types.1
  simp only [rng, decide_eq_true_eq] at ht
  have ho := h.orders
  have h0 : 0 < x.types.length := by omega
  have hcap := h.types.2 0 h0
  unfold typOk at hcap
  obtain ⟨⟨⟨⟨⟨⟨⟨⟨_, _⟩, _⟩, _⟩, hcap⟩, _⟩, _⟩, _⟩, _⟩ := hcap
  simp only [capOk, Bool.and_eq_true, decide_eq_true_eq, rng] at hcap
  refine ⟨ho.1, by omega, by omega, fun o hm => ?_⟩
  obtain ⟨i, hi, rfl⟩ := List.mem_iff_getElem.1 hm
  have := (ho.2 i hi).load
  rw [nth_get hi] at this
  simp only [loadOk, Bool.and_eq_true, decide_eq_true_eq, List.all_eq_true, rng] at this
  exact ⟨this.1, this.2⟩
def brdL (x : Inst) (l : List Vis) (n k : Nat) : List (Bool × List Int) := ((List.range k).filter fun i => onB x l n i && hasO l i).map fun i => ((nth x.orders i).load_c, (nth x.orders i).load)
theorem brdL_succ {x : Inst} {l : List Vis} {n k : Nat} : brdL x l n (k + 1) = brdL x l n k ++ if (onB x l n k && hasO l k) = true then [((nth x.orders k).load_c, (nth x.orders k).load)] else [] := by
  unfold brdL
  rw [List.range_succ, List.filter_append, List.map_append]
  congr 1
  simp only [List.filter_cons, List.filter_nil]
  split <;> rfl
theorem brdL_len {x : Inst} {l : List Vis} {n : Nat} : ∀ k, (brdL x l n k).length ≤ k := fun k => by
  unfold brdL
  have := List.length_filter_le (fun i => onB x l n i && hasO l i) (List.range k)
  simp only [List.length_map, List.length_range] at this ⊢
  exact this
theorem brdL_ok {x : Inst} {l : List Vis} {n k : Nat} (h : LdOk x) (hk : k ≤ x.orders.length) : ∀ p ∈ brdL x l n k, p.2.length = (dimsOf x.types).toNat ∧ ∀ m ∈ p.2, 0 ≤ m ∧ m ≤ 1000 := fun p hp => by
  obtain ⟨i, hi, rfl⟩ := List.mem_map.1 hp
  have hi2 := List.mem_range.1 (List.mem_filter.1 hi).1
  have := h.load _ (nth_mem (show i < x.orders.length by omega))
  exact ⟨by simp only; omega, this.2⟩
theorem brdL_sum {x : Inst} {l : List Vis} {n : Nat} : sumL (brdL x l n x.orders.length) (dimsOf x.types).toNat = aftF x l n := by
  unfold sumL aftF
  refine List.map_congr_left fun j _ => ?_
  rw [colS, List.take_length, brdL, List.map_map, sumB, ← sum_filter]
  rfl
/-- on board, and there, behind the first k visits, of which n count -/
def onK (x : Inst) (l : List Vis) (n i k : Nat) : Bool := (l.take (min k n)).foldl (fun on v => if v.order = (i : Int) then !v.drp else on) (decide ((nth x.orders i).pick.place < 0))
def hasK (l : List Vis) (i k : Nat) : Bool := (l.take k).any fun v => decide (v.order = (i : Int))
theorem onK_succ {x : Inst} {l : List Vis} {n i k : Nat} (h : k < l.length) : onK x l n i (k + 1) = if (nth l k).order = (i : Int) then (if k < n then !(nth l k).drp else onK x l n i k) else onK x l n i k := by
  unfold onK
  by_cases hn : k < n
  · rw [show min (k + 1) n = min k n + 1 by omega, show min k n = k by omega, List.take_succ_eq_append_getElem h, List.foldl_append, nth_get h]
    simp [hn]
  · rw [show min (k + 1) n = min k n by omega]
    simp [hn]
theorem hasK_succ {l : List Vis} {i k : Nat} (h : k < l.length) : hasK l i (k + 1) = if (nth l k).order = (i : Int) then true else hasK l i k := by
  unfold hasK
  rw [List.take_succ_eq_append_getElem h, List.any_append, nth_get h]
  by_cases hc : (l[k]).order = (i : Int) <;> simp [hc]
theorem onK_all {x : Inst} {l : List Vis} {n i : Nat} (h : n ≤ l.length) : onK x l n i l.length = onB x l n i := by
  unfold onK onB
  rw [show min l.length n = n by omega]
theorem hasK_all {l : List Vis} {i : Nat} : hasK l i l.length = hasO l i := by unfold hasK hasO; rw [List.take_length]
theorem after17_c (x : Inst) (l : List Vis) (c : Bool) (n : Nat) (hx : LdOk x) (hl : l.length ≤ 1048576) (hn : n ≤ l.length) :
    ACalls Tryz.prog 100 [.p (eInst x), .p (.list c (l.map eVis)), .p (.int .i64 (n : Nat))] [] fun y H' => y = .tup [.p (.list false ((aftF x l n).map eI)), .p (.int .i64 0)] ∧ H' = [] := by
  have ho := hx.ord
  refine acalls_weak [15] (fn := Tryz.f100) Tryz.func100 rfl isF100 ?_
  simp (disch := omega) only [Tryz.f100, go_sem, seval, reduceCtorEq, ↓reduceIte]
  refine awp_forC [15] [1, 2, 3] (fun q : Nat × List (Bool × List Int) => [(8, .sl 1 0 q.2.length q.2.length), (9, .p (.int .i64 q.1))]) (fun q => [instO x, .elems 1 (q.2.map eR)]) (fun q => q.1 ≤ x.orders.length ∧ q.2 = brdL x l n q.1) (fun q => x.orders.length - q.1) (0, []) (by simp [brdL]) (Weak.ofNil 8 1 rfl (by simp) (Weak.mk ?_)) ?_
  · simp (disch := omega) only [instO, List.map_nil, List.length_nil, List.cons_append, List.nil_append, go_sem, seval, reduceCtorEq, ↓reduceIte]
  · rintro ⟨i, o⟩ ⟨hi, hob⟩
    simp only at hi hob
    have hol : o.length ≤ i := by rw [hob]; exact brdL_len i
    simp (disch := omega) only [instO, go_sem, seval, reduceCtorEq, ↓reduceIte]
    refine acond_b (fun h1 => ?_) (fun h1 => ?_) <;> (try simp only [decide_eq_true_eq, decide_eq_false_iff_not] at h1) <;> simp (disch := omega) only [Sh.out h1, go_sem, seval, reduceCtorEq, ↓reduceIte]
    · have hi2 : i < x.orders.length := by omega
      refine awp_for [1, 2, 3, 8, 9] (fun k : Nat => [(10, .p (.bool (onK x l n i k))), (11, .p (.bool (hasK l i k))), (12, .p (.int .i64 k))]) (fun _ => [instO x, .elems 1 (o.map eR)]) (fun k => k ≤ l.length) (fun k => l.length - k) 0 (by simp) (Weak.mk ?_) ?_
      · simp (disch := omega) only [instO, onK, hasK, Nat.zero_min, List.take_zero, List.foldl_nil, List.any_nil, go_sem, seval, reduceCtorEq, ↓reduceIte]
      · intro k hk
        simp (disch := omega) only [instO, go_sem, seval, reduceCtorEq, ↓reduceIte]
        refine acond_b (fun h2 => ?_) (fun h2 => ?_) <;> (try simp only [decide_eq_true_eq, decide_eq_false_iff_not] at h2) <;> simp (disch := omega) only [Sh.out h2, go_sem, seval, reduceCtorEq, ↓reduceIte]
        · have hk2 : k < l.length := by omega
          have s1 := onK_succ (x := x) (n := n) (i := i) hk2
          have s2 := hasK_succ (i := i) hk2
          refine acond_b (fun h3 => ?_) (fun h3 => ?_) <;> (try simp only [decide_eq_true_eq, decide_eq_false_iff_not] at h3) <;> simp (disch := omega) only [Sh.out h3, go_sem, seval, reduceCtorEq, ↓reduceIte]
          · rw [if_neg h3] at s1 s2
            exact ⟨k + 1, by omega, by omega, Weak.mk (by simp (disch := omega) only [instO, s1, s2, go_sem, seval, reduceCtorEq, ↓reduceIte])⟩
          · have h3' := Classical.not_not.1 h3
            rw [if_pos h3'] at s1 s2
            refine acond_b (fun h4 => ?_) (fun h4 => ?_) <;> (try simp only [decide_eq_true_eq, decide_eq_false_iff_not] at h4) <;> simp (disch := omega) only [Sh.out h4, go_sem, seval, reduceCtorEq, ↓reduceIte]
            · rw [if_pos (by omega)] at s1
              exact ⟨k + 1, by omega, by omega, Weak.mk (by simp (disch := omega) only [instO, s1, s2, go_sem, seval, reduceCtorEq, ↓reduceIte])⟩
            · rw [if_neg (by omega)] at s1
              exact ⟨k + 1, by omega, by omega, Weak.mk (by simp (disch := omega) only [instO, s1, s2, go_sem, seval, reduceCtorEq, ↓reduceIte])⟩
        · have hkl : k = l.length := by omega
          subst hkl
          have s3 := brdL_succ (x := x) (l := l) (n := n) (k := i)
          rw [onK_all hn, hasK_all]
          refine aguard_t (fun h5 => ?_) (fun h5 => ?_) <;> (try simp only [decide_eq_true_eq, decide_eq_false_iff_not] at h5) <;> simp (disch := omega) only [Sh.out h5, go_sem, seval, reduceCtorEq, ↓reduceIte]
          · refine acond_b (fun h6 => ?_) (fun h6 => ?_) <;> (try simp only [decide_eq_true_eq, decide_eq_false_iff_not] at h6) <;> simp (disch := omega) only [Sh.out h6, go_sem, seval, reduceCtorEq, ↓reduceIte]
            · rw [h5, h6, Bool.and_self, if_pos rfl] at s3
              exact ⟨(i + 1, o ++ [((nth x.orders i).load_c, (nth x.orders i).load)]), ⟨by simp only; omega, by simp only; rw [s3, hob]⟩, by simp only; omega, Weak.mk (by simp (disch := omega) only [instO, List.length_append, List.length_cons, List.length_nil, List.map_append, List.map_cons, List.map_nil, go_sem, seval, reduceCtorEq, ↓reduceIte])⟩
            · rw [h5, h6, Bool.and_false, if_neg (by simp), List.append_nil] at s3
              exact ⟨(i + 1, o), ⟨by simp only; omega, by simp only; rw [s3, hob]⟩, by simp only; omega, Weak.mk (by simp (disch := omega) only [instO, go_sem, seval, reduceCtorEq, ↓reduceIte])⟩
          · have h5' : onB x l n i = false := by simpa using h5
            rw [h5', Bool.false_and, if_neg (by simp), List.append_nil] at s3
            exact ⟨(i + 1, o), ⟨by simp only; omega, by simp only; rw [s3, hob]⟩, by simp only; omega, Weak.mk (by simp (disch := omega) only [instO, go_sem, seval, reduceCtorEq, ↓reduceIte])⟩
    · have hik : i = x.orders.length := by omega
      subst hik
      have hD : dimsOf x.types = ((dimsOf x.types).toNat : Int) := by have := hx.dim; omega
      have hok := brdL_ok (l := l) (n := n) hx (Nat.le_refl _)
      rw [← hob] at hok
      have hs := brdL_sum (x := x) (l := l) (n := n)
      rw [← hob] at hs
      refine awp_weak (Weak.fz (o := 1) (by rfl)) ?_
      refine awp_sound [] _ _ _ _ ?_
      simp (disch := omega) only [List.map_cons, List.map_nil, List.set_cons_succ, List.set_cons_zero, go_sem, seval, reduceCtorEq, ↓reduceIte]
      refine (dims17_c x hx.typ).use ?_
      simp (disch := omega) only [go_sem, seval, reduceCtorEq, ↓reduceIte]
      rw [hD]
      refine useT' (sum06_c o false (dimsOf x.types).toNat (by have := hx.dim; omega) (by omega) hok) ?_
      simp (disch := omega) only [go_sem, seval, reduceCtorEq, ↓reduceIte]
      rw [← hs]
      exact ⟨_, _, Weak.mk (by simp (disch := omega) only [go_sem, seval, reduceCtorEq, ↓reduceIte]), rfl, rfl⟩
/-- a row of loads -/
def eIL (l : List Int) : PV := .list false (l.map eI)
@[go_sem] theorem eIL_eq (l : List Int) : eIL l = .list false (l.map eI) := Eq.trans rfl rfl
@[go_sem] theorem okE_eIL (l : List (List Int)) : okE 1 (l.map eIL) = true := okE_map fun _ => rfl
@[go_sem] theorem allS_eIL (l : List (List Int)) : allS 1 (l.map eIL) = true := allS_map (f := eIL) (S := 1) (fun _ => rfl) l
def lodsF (x : Inst) (l : List Vis) : List (List Int) := (List.range (l.length + 1)).map (aftF x l)
theorem loads17_c (x : Inst) (r : Rte) (hx : InstOk x) (hl : r.visits.length ≤ 1048576) (h0 : seqChk x r.visits = 0) (hchk : ACalls Tryz.prog 95 [.p (eInst x), .p (eRte r)] [] fun y H' => y = .p (.int .i64 (seqChk x r.visits)) ∧ H' = []) :
    ACalls Tryz.prog 49 [.p (eInst x), .p (eRte r)] [] fun y H' => y = .tup [.p (.list false ((lodsF x r.visits).map eIL)), .p (.int .i64 0)] ∧ H' = [] := by
  have hd := ldOk_of hx
  refine acalls_weak [12] (fn := Tryz.f49) Tryz.func49 rfl isF49 ?_
  simp (disch := omega) only [Tryz.f49, go_sem, seval, reduceCtorEq, ↓reduceIte]
  refine (hchk).use ?_
  simp (disch := omega) only [go_sem, seval, reduceCtorEq, ↓reduceIte]
  simp (disch := omega) only [h0, go_sem, seval, reduceCtorEq, ↓reduceIte]
  refine awp_forC [12] [2, 3] (fun q : Nat × List (List Int) => [(7, .sl 2 0 q.2.length q.2.length), (8, .p (.int .i64 q.1))]) (fun q => [instO x, rteO r, .elems 1 (q.2.map eIL)]) (fun q => q.1 ≤ r.visits.length + 1 ∧ q.2 = (List.range q.1).map (aftF x r.visits)) (fun q => r.visits.length + 1 - q.1) (0, []) (by simp) (Weak.ofNil 7 1 rfl (by simp) (Weak.mk ?_)) ?_
  · simp (disch := omega) only [instO, rteO, List.map_nil, List.length_nil, List.cons_append, List.nil_append, go_sem, seval, reduceCtorEq, ↓reduceIte]
  · rintro ⟨k, o⟩ ⟨hk, ho⟩
    simp only at hk ho
    have hol : o.length = k := by rw [ho]; simp
    simp (disch := omega) only [instO, rteO, go_sem, seval, reduceCtorEq, ↓reduceIte]
    refine acond_b (fun h1 => ?_) (fun h1 => ?_) <;> (try simp only [decide_eq_true_eq, decide_eq_false_iff_not] at h1) <;> simp (disch := omega) only [Sh.out h1, go_sem, seval, reduceCtorEq, ↓reduceIte]
    · refine useT' (after17_c x r.visits r.visits_c k hd hl (by omega)) ?_
      simp (disch := omega) only [go_sem, seval, reduceCtorEq, ↓reduceIte]
      exact ⟨(k + 1, o ++ [aftF x r.visits k]), ⟨by simp only; omega, by simp only; rw [ho, List.range_succ, List.map_append]; rfl⟩, by simp only; omega, Weak.mk (by simp (disch := omega) only [instO, rteO, List.length_append, List.length_cons, List.length_nil, List.map_append, List.map_cons, List.map_nil, go_sem, seval, reduceCtorEq, ↓reduceIte])⟩
    · have hkl : k = r.visits.length + 1 := by omega
      subst hkl
      refine awp_weak (Weak.fz (o := 2) (by rfl)) ?_
      refine awp_sound [] _ _ _ _ ?_
      simp (disch := omega) only [List.map_cons, List.map_nil, List.set_cons_succ, List.set_cons_zero, go_sem, seval, reduceCtorEq, ↓reduceIte]
      rw [lodsF, ← ho]
      exact ⟨_, _, Weak.mk (by simp (disch := omega) only [go_sem, seval, reduceCtorEq, ↓reduceIte]), rfl, rfl⟩
theorem fits17_c (x : Inst) (r : Rte) (hx : InstOk x) (hl : r.visits.length ≤ 1048576) (hty : 0 ≤ r.typ ∧ r.typ < (x.types.length : Int)) (h0 : seqChk x r.visits = 0) (hchk : ACalls Tryz.prog 95 [.p (eInst x), .p (eRte r)] [] fun y H' => y = .p (.int .i64 (seqChk x r.visits)) ∧ H' = []) :
    ACalls Tryz.prog 97 [.p (eInst x), .p (eRte r)] [] fun y H' => y = .p (.int .i64 (if loadB x (typR x r).cap r.visits = true then 0 else 17)) ∧ H' = [] := by
  have hd := ldOk_of hx
  have htl := hd.typ
  have hti : r.typ.toNat < x.types.length := by omega
  have hcp : (nth x.types r.typ.toNat).cap.length ≤ 3 := by
    have hcap := hx.types.2 _ hti
    unfold typOk at hcap
    obtain ⟨⟨⟨⟨⟨⟨⟨⟨_, _⟩, _⟩, _⟩, hcap⟩, _⟩, _⟩, _⟩, _⟩ := hcap
    simp only [capOk, Bool.and_eq_true, decide_eq_true_eq, rng] at hcap
    omega
  have hll : (lodsF x r.visits).length = r.visits.length + 1 := by simp [lodsF]
  have hln : ∀ k, k < r.visits.length + 1 → nth (lodsF x r.visits) k = aftF x r.visits k := fun k hk => by
    rw [nth_get (by omega)]; simp [lodsF]
  have hal : ∀ k, (aftF x r.visits k).length ≤ 3 := fun k => by rw [aftF_len]; have := hd.dim; omega
  have cl := loads17_c x r hx hl h0 hchk
  unfold typR
  generalize hL : lodsF x r.visits = L at *
  refine acalls_pure (fn := Tryz.f97) Tryz.func97 rfl isF97 ?_
  have e1 : ¬ r.typ < 0 := by omega
  have e2 : ¬ (x.types.length : Int) ≤ r.typ := by omega
  simp (disch := omega) only [Tryz.f97, e1, e2, go_sem, seval, reduceCtorEq, ↓reduceIte]
  refine useT' cl ?_
  simp (disch := omega) only [go_sem, seval, reduceCtorEq, ↓reduceIte]
  refine awp_for [2, 3, 5] (fun k : Nat => [(7, .p (.int .i64 k))]) (fun _ => [instO x, rteO r]) (fun k => k ≤ r.visits.length + 1 ∧ ∀ j, j < k → fitsB (aftF x r.visits j) (nth x.types r.typ.toNat).cap = true) (fun k => r.visits.length + 1 - k) 0 (by simp) (Weak.mk ?_) ?_
  · simp (disch := omega) only [instO, rteO, go_sem, seval, reduceCtorEq, ↓reduceIte]
  · rintro k ⟨hk, hno⟩
    simp (disch := omega) only [instO, rteO, hll, go_sem, seval, reduceCtorEq, ↓reduceIte]
    refine acond_b (fun h1 => ?_) (fun h1 => ?_) <;> (try simp only [decide_eq_true_eq, decide_eq_false_iff_not] at h1) <;> simp (disch := omega) only [Sh.out h1, go_sem, seval, reduceCtorEq, ↓reduceIte]
    · have hk2 : k < r.visits.length + 1 := by omega
      have hk3 : k < L.length := by omega
      have hk4 := hal k
      refine awp_drawnA mixed (by kernel_rfl) (by kernel_rfl) ?_
      simp (disch := omega) only [hln k hk2, go_sem, seval, reduceCtorEq, ↓reduceIte]
      refine exq_call (fits06_c (aftF x r.visits k) (nth x.types r.typ.toNat).cap false (nth x.types r.typ.toNat).cap_c (by omega) (by omega)) ?_
      simp (disch := omega) only [go_sem, seval, reduceCtorEq, ↓reduceIte]
      refine acond_b (fun h2 => ?_) (fun h2 => ?_) <;> (try simp only [decide_eq_true_eq, decide_eq_false_iff_not] at h2) <;> simp (disch := omega) only [Sh.out h2, go_sem, seval, reduceCtorEq, ↓reduceIte]
      · have h2' : fitsB (aftF x r.visits k) (nth x.types r.typ.toNat).cap = false := by simpa using h2
        have : ¬ loadB x (nth x.types r.typ.toNat).cap r.visits = true := fun h => by
          rw [loadB, List.all_eq_true] at h
          have := h k (List.mem_range.2 hk2)
          rw [h2'] at this; cases this
        rw [if_neg this]
      · exact ⟨k + 1, ⟨by omega, upto_iff.2 ⟨hno, by simpa using h2⟩⟩, by omega, Weak.mk (by simp (disch := omega) only [instO, rteO, go_sem, seval, reduceCtorEq, ↓reduceIte])⟩
    · have : loadB x (nth x.types r.typ.toNat).cap r.visits = true := by
        rw [loadB, List.all_eq_true]
        intro j hj
        exact hno j (by have := List.mem_range.1 hj; omega)
      rw [if_pos this]
end Go.Proofs.YtcllkjiebfmjpaaGreatDoor.K
set_option linter.unusedVariables false
set_option linter.unusedSimpArgs false
namespace Go.Proofs.YtcllkjiebfmjpaaGreatDoor.K
open Go Go.AM Go.Proofs
set_option maxRecDepth 8000
set_option maxHeartbeats 8000000
def bitI (j : Nat) : Int := if j = 63 then -9223372036854775808 else ((pw j : Nat) : Int)
theorem bitI_pw {j : Nat} (h : j < 63) : bitI j = ((pw j : Nat) : Int) := by rw [bitI, if_neg (by omega)]
theorem pw_big {j : Nat} (h : j ≤ 62) : pw j ≤ 4611686018427387904 := by have := pw_le h; rwa [pw_62] at this
theorem bitI_pos {j : Nat} (h : j ≤ 63) : 0 < bitI j ↔ j < 63 := by
  unfold bitI
  split
  · omega
  · have := pw_pos j; omega
theorem wrapN {S q : Nat} (hS : S < 9223372036854775808) (h : q ≤ S) : IntKind.i64.wrap (q : Int) = (q : Int) := by rw [IntKind.wrap_i64]; omega
theorem quo_pw {P : Program} {t : TypeId} {S j : Nat} (hS : S < 9223372036854775808) : abin P .quo t (.p (.int .i64 (S : Int))) (.p (.int .i64 ((pw j : Nat) : Int))) = some (.int .i64 ((S / pw j : Nat) : Int)) := by
  have hp := pw_pos j
  rw [abin_quo (by omega)]
  have e : (S : Int).tdiv ((pw j : Nat) : Int) = ((S / pw j : Nat) : Int) := by
    rw [Int.tdiv_eq_ediv_of_nonneg (by omega)]; exact (Int.natCast_ediv _ _).symm
  have hle := Nat.div_le_self S (pw j)
  rw [e, wrapN hS hle]
theorem rem_two {P : Program} {t : TypeId} {S : Nat} : abin P .rem t (.p (.int .i64 (S : Int))) (.p (.int .i64 2)) = some (.int .i64 ((S % 2 : Nat) : Int)) := by
  rw [abin_rem (by omega), Int.tmod_eq_emod_of_nonneg (by omega)]
  rfl
theorem quoI {S j : Nat} (hS : S < 9223372036854775808) : (IntKind.i64.wrap ((S : Int) / ((pw j : Nat) : Int))).tmod 2 = ((S / pw j % 2 : Nat) : Int) := by
  have hle := Nat.div_le_self S (pw j)
  rw [← Int.natCast_ediv, wrapN hS hle, Int.tmod_eq_emod_of_nonneg (Int.natCast_nonneg _)]
  rfl
theorem mul_pw {P : Program} {t : TypeId} {j : Nat} (h : j < 63) : abin P .mul t (.p (.int .i64 ((pw j : Nat) : Int))) (.p (.int .i64 2)) = some (.int .i64 (bitI (j + 1))) := by
  rw [abin_mul]
  congr 2
  have hs := pw_succ j
  unfold bitI
  split
  · have hj : j = 62 := by omega
    subst hj
    rw [pw_62]; decide
  · have := pw_big (show j + 1 ≤ 62 by omega)
    have e : ((pw j : Nat) : Int) * 2 = ((pw (j + 1) : Nat) : Int) := by omega
    rw [e]
    exact by rw [IntKind.wrap_i64]; omega
theorem able10_c (t : Typ) (s : Int) (h1 : t.skills < 9223372036854775808) (h2 : s < 9223372036854775808) : ACalls Tryz.prog 96 [.p (eTyp t), .p (.int .i64 s)] [] fun x H' => x = .p (.bool (ableB t s)) ∧ H' = [] := by
  refine acalls_pure (fn := Tryz.f96) Tryz.func96 rfl isF96 ?_
  simp (disch := omega) only [Tryz.f96, go_sem, seval, reduceCtorEq, ↓reduceIte]
  refine aguard_f (fun c1 => ?_) (fun c1 => ?_) <;> (try simp only [decide_eq_true_eq, decide_eq_false_iff_not] at c1) <;> simp (disch := omega) only [Sh.out c1, go_sem, seval, reduceCtorEq, ↓reduceIte]
  · have : ableB t s = false := by
      have : ¬ 0 ≤ t.skills := by omega
      simp [ableB, this]
    rw [this]
  · refine acond_b (fun c2 => ?_) (fun c2 => ?_) <;> (try simp only [decide_eq_true_eq, decide_eq_false_iff_not] at c2) <;> simp (disch := omega) only [Sh.out c2, go_sem, seval, reduceCtorEq, ↓reduceIte]
    · have : ableB t s = false := by
        have : ¬ 0 ≤ s := by omega
        simp [ableB, this]
      rw [this]
    · obtain ⟨M, hM⟩ : ∃ M : Nat, t.skills = (M : Int) := ⟨t.skills.toNat, by omega⟩
      obtain ⟨S, rfl⟩ : ∃ S : Nat, s = (S : Int) := ⟨s.toNat, by omega⟩
      have hMl : M < 9223372036854775808 := by omega
      have hSl : S < 9223372036854775808 := by omega
      have hab : ∀ b : Bool, ((List.range 63).all fun i => !S.testBit i || M.testBit i) = b → ableB t (S : Int) = b := fun b hb => by
        have g1 : 0 ≤ t.skills := by omega
        have g2 : (0 : Int) ≤ (S : Int) := by omega
        simp only [ableB, g1, g2, decide_true, Bool.true_and, hM, Int.toNat_natCast]
        exact hb
      refine awp_for [1, 2] (fun j : Nat => [(5, .p (.int .i64 (bitI j)))]) (fun _ => [typO t]) (fun j => j ≤ 63 ∧ ∀ i, i < j → (!S.testBit i || M.testBit i) = true) (fun j => 63 - j) 0 (by simp) (Weak.mk ?_) ?_
      · simp (disch := omega) only [typO, hM, show bitI 0 = 1 from rfl, go_sem, seval, reduceCtorEq, ↓reduceIte]
      · rintro j ⟨hj, hno⟩
        simp (disch := omega) only [typO, hM, go_sem, seval, reduceCtorEq, ↓reduceIte]
        refine acond_b (fun c3 => ?_) (fun c3 => ?_) <;> (try simp only [decide_eq_true_eq, decide_eq_false_iff_not] at c3) <;> simp (disch := omega) only [Sh.out c3, go_sem, seval, reduceCtorEq, ↓reduceIte]
        · have hj2 : j < 63 := (bitI_pos hj).1 c3
          simp (disch := omega) only [bitI_pw hj2, quo_pw hSl, quo_pw hMl, quoI hSl, quoI hMl, rem_two, mul_pw hj2, bit_eq1, bit_eq0, go_sem, seval, reduceCtorEq, ↓reduceIte]
          refine aguard_t (fun c4 => ?_) (fun c4 => ?_) <;> (try simp only [decide_eq_true_eq, decide_eq_false_iff_not] at c4) <;> simp (disch := omega) only [Sh.out c4, bitI_pw hj2, quo_pw hSl, quo_pw hMl, quoI hSl, quoI hMl, rem_two, mul_pw hj2, bit_eq1, bit_eq0, go_sem, seval, reduceCtorEq, ↓reduceIte]
          · refine acond_b (fun c5 => ?_) (fun c5 => ?_) <;> (try simp only [decide_eq_true_eq, decide_eq_false_iff_not] at c5) <;> simp (disch := omega) only [Sh.out c5, bitI_pw hj2, mul_pw hj2, go_sem, seval, reduceCtorEq, ↓reduceIte]
            · rw [hab false (by rw [List.all_eq_false]; exact ⟨j, List.mem_range.2 hj2, by simp [c4, c5]⟩)]
            · exact ⟨j + 1, ⟨by omega, upto_iff.2 ⟨hno, by simp [c4] at c5 ⊢; exact c5⟩⟩, by omega, Weak.mk (by simp (disch := omega) only [typO, hM, go_sem, seval, reduceCtorEq, ↓reduceIte])⟩
          · exact ⟨j + 1, ⟨by omega, upto_iff.2 ⟨hno, by simp at c4; simp [c4]⟩⟩, by omega, Weak.mk (by simp (disch := omega) only [typO, hM, go_sem, seval, reduceCtorEq, ↓reduceIte])⟩
        · have hj63 : j = 63 := by
            rcases Nat.lt_or_ge j 63 with h | h
            · exact absurd ((bitI_pos hj).2 h) c3
            · omega
          subst hj63
          rw [hab true (by rw [List.all_eq_true]; intro i hi; exact hno i (List.mem_range.1 hi))]
end Go.Proofs.YtcllkjiebfmjpaaGreatDoor.K
set_option linter.unusedVariables false
set_option linter.unusedSimpArgs false
namespace Go.Proofs.YtcllkjiebfmjpaaGreatDoor.K
open Go Go.AM Go.Proofs
set_option maxRecDepth 8000
set_option maxHeartbeats 8000000
def begF (s : Stp) (a : Int) : Int × Int := if max a s.opn > s.cls then (0, 14) else (max a s.opn, 0)
theorem begin_c (s : Stp) (a : Int) : ACalls Tryz.prog 250 [.p (eStp s), .p (.int .i64 a)] [] fun x H' => x = .tup [.p (.int .i64 (begF s a).1), .p (.int .i64 (begF s a).2)] ∧ H' = [] := by
  refine acalls_weak [] (fn := Tryz.f250) Tryz.func250 rfl isF250 ?_
  simp (disch := omega) only [Tryz.f250, go_sem, seval, reduceCtorEq, ↓reduceIte]
  refine acond_b (fun h => ?_) (fun h => ?_) <;> (try simp only [decide_eq_true_eq, decide_eq_false_iff_not] at h) <;> simp (disch := omega) only [Sh.out h, go_sem, seval, reduceCtorEq, ↓reduceIte]
  · have e : begF s a = (0, 14) := by rw [begF, if_pos (by omega)]
    rw [e]
    exact ⟨_, _, Weak.mk (by simp (disch := omega) only [go_sem, seval, reduceCtorEq, ↓reduceIte]), rfl, rfl⟩
  · have e : begF s a = (max a s.opn, 0) := by rw [begF, if_neg (by omega)]
    rw [e]
    exact ⟨_, _, Weak.mk (by simp (disch := omega) only [go_sem, seval, reduceCtorEq, ↓reduceIte]), rfl, rfl⟩
theorem pThere_c (l : List Ord) (c : Bool) (p : Int) (hl : l.length ≤ 1048576) : ACalls Tryz.prog 101 [.p (.list c (l.map eOrd)), .p (.int .i64 p)] [] fun x H' => x = .p (.bool (decide (0 ≤ p) && decide (p < (l.length : Int)))) ∧ H' = [] := by
  refine acalls_pure (fn := Tryz.f101) Tryz.func101 rfl isF101 ?_
  simp (disch := omega) only [Tryz.f101, go_sem, seval, reduceCtorEq, ↓reduceIte]
  refine aguard_t (fun h => ?_) (fun h => ?_) <;> (try simp only [decide_eq_true_eq, decide_eq_false_iff_not] at h) <;> simp (disch := omega) only [Sh.out h, go_sem, seval, reduceCtorEq, ↓reduceIte]
  all_goals simp [h]
theorem pStop_c (x : Inst) (v : Vis) (ho : x.orders.length ≤ 1048576) (hv : inB x v = true) (hp : 0 ≤ (stopV x v).place) : ACalls Tryz.prog 51 [.p (.list x.orders_c (x.orders.map eOrd)), .p (eVis v)] [] fun y H' => y = .tup [.p (eStp (stopV x v)), .p (.int .i64 0)] ∧ H' = [] := by
  refine acalls_weak [] (fn := Tryz.f51) Tryz.func51 rfl isF51 ?_
  simp (disch := omega) only [Tryz.f51, go_sem, seval, reduceCtorEq, ↓reduceIte]
  have hv' := hv
  rw [inB] at hv'
  have ct := pThere_c x.orders x.orders_c v.order ho
  rw [hv'] at ct
  refine ct.use ?_
  simp only [Bool.and_eq_true, decide_eq_true_eq] at hv'
  obtain ⟨h1, h2⟩ := hv'
  have hi : v.order.toNat < x.orders.length := by omega
  simp (disch := omega) only [go_sem, seval, reduceCtorEq, ↓reduceIte]
  refine acond_b (fun hd => ?_) (fun hd => ?_) <;> (try simp only [decide_eq_true_eq, decide_eq_false_iff_not] at hd) <;> simp (disch := omega) only [Sh.out hd, go_sem, seval, reduceCtorEq, ↓reduceIte]
  · have e : stopV x v = (nth x.orders v.order.toNat).drp := by simp [stopV, hd]
    rw [e] at hp ⊢
    have e3 : ¬ (nth x.orders v.order.toNat).drp.place < 0 := by omega
    simp (disch := omega) only [e3, go_sem, seval, reduceCtorEq, ↓reduceIte]
    exact ⟨_, _, Weak.mk (by simp (disch := omega) only [go_sem, seval, reduceCtorEq, ↓reduceIte]), rfl, rfl⟩
  · have e : stopV x v = (nth x.orders v.order.toNat).pick := by simp [stopV, hd]
    rw [e] at hp ⊢
    have e3 : ¬ (nth x.orders v.order.toNat).pick.place < 0 := by omega
    simp (disch := omega) only [e3, go_sem, seval, reduceCtorEq, ↓reduceIte]
    exact ⟨_, _, Weak.mk (by simp (disch := omega) only [go_sem, seval, reduceCtorEq, ↓reduceIte]), rfl, rfl⟩
theorem pDims_c (l : List Typ) (c : Bool) (ht : l.length ≤ 1048576) : ACalls Tryz.prog 133 [.p (.list c (l.map eTyp))] [] fun y H' => y = .p (.int .i64 (dimsOf l)) ∧ H' = [] := by
  refine acalls_pure (fn := Tryz.f133) Tryz.func133 rfl isF133 ?_
  simp (disch := omega) only [Tryz.f133, go_sem, seval, reduceCtorEq, ↓reduceIte]
  refine acond_b (fun h1 => ?_) (fun h1 => ?_) <;> (try simp only [decide_eq_true_eq, decide_eq_false_iff_not] at h1) <;> simp (disch := omega) only [Sh.out h1, go_sem, seval, reduceCtorEq, ↓reduceIte]
  · have : l.length = 0 := by omega
    simp [dimsOf, this]
  · have h2 : ¬ l.length = 0 := by omega
    simp only [dimsOf, h2, if_false]
theorem pFits_c (a b : List Int) (c d : Bool) (ha : a.length ≤ 1048576) (hb : b.length ≤ 1048576) : ACalls Tryz.prog 187 [.p (.list c (a.map eI)), .p (.list d (b.map eI))] [] fun x H' => x = .p (.bool (fitsB a b)) ∧ H' = [] := by
  refine acalls_pure (fn := Tryz.f187) Tryz.func187 rfl isF187 ?_
  simp (disch := omega) only [Tryz.f187, go_sem, seval, reduceCtorEq, ↓reduceIte]
  refine acond_b (fun h1 => ?_) (fun h1 => ?_) <;> (try simp only [decide_eq_true_eq, decide_eq_false_iff_not] at h1) <;> simp (disch := omega) only [Sh.out h1, go_sem, seval, reduceCtorEq, ↓reduceIte]
  · have : ¬ a.length = b.length := by omega
    simp [fitsB, this]
  · have h1' : a.length = b.length := by omega
    refine awp_for [1, 12, 13] (fun k : Nat => [(14, .p (.int .i64 k))]) (fun _ => []) (fun k => k ≤ a.length ∧ ∀ j, j < k → nth a j ≤ nth b j) (fun k => a.length - k) 0 (by simp) (Weak.mk ?_) ?_
    · simp (disch := omega) only [go_sem, seval, reduceCtorEq, ↓reduceIte]
    · rintro k ⟨hk, hno⟩
      simp (disch := omega) only [go_sem, seval, reduceCtorEq, ↓reduceIte]
      refine acond_b (fun h2 => ?_) (fun h2 => ?_) <;> (try simp only [decide_eq_true_eq, decide_eq_false_iff_not] at h2) <;> simp (disch := omega) only [Sh.out h2, go_sem, seval, reduceCtorEq, ↓reduceIte]
      · have hk2 : k < a.length := by omega
        refine acond_b (fun h3 => ?_) (fun h3 => ?_) <;> (try simp only [decide_eq_true_eq, decide_eq_false_iff_not] at h3) <;> simp (disch := omega) only [Sh.out h3, go_sem, seval, reduceCtorEq, ↓reduceIte]
        · have : fitsB a b = false := by
            cases hf : fitsB a b with
            | false => rfl
            | true => simp [fitsB, List.all_eq_true] at hf; have := hf.2 k hk2; omega
          rw [this]
        · exact ⟨k + 1, ⟨by omega, upto_iff.2 ⟨hno, by omega⟩⟩, by omega, Weak.mk (by simp (disch := omega) only [go_sem, seval, reduceCtorEq, ↓reduceIte])⟩
      · have hkl : k = a.length := by omega
        subst hkl
        have : fitsB a b = true := by
          simp only [fitsB, Bool.and_eq_true, decide_eq_true_eq, List.all_eq_true, List.mem_range]
          exact ⟨h1', fun i hi => hno i hi⟩
        rw [this]
end Go.Proofs.YtcllkjiebfmjpaaGreatDoor.K
set_option linter.unusedVariables false
set_option linter.unusedSimpArgs false
namespace Go.Proofs.YtcllkjiebfmjpaaGreatDoor.K
open Go Go.AM Go.Proofs
set_option maxRecDepth 8000
set_option maxHeartbeats 8000000
theorem andNot_zero {S M : Nat} (hS : S < 9223372036854775808) : (IntKind.i64.wrap ((BitVec.ofInt 64 (S : Int) &&& ~~~BitVec.ofInt 64 (M : Int)).toNat : Int) = 0) ↔ ((List.range 63).all fun i => !S.testBit i || M.testBit i) = true := by
  rw [BitVec.ofInt_natCast, BitVec.ofInt_natCast]
  have hz : (BitVec.ofNat 64 S &&& ~~~BitVec.ofNat 64 M).toNat ≤ S := by
    rw [BitVec.toNat_and]
    exact Nat.le_trans Nat.and_le_left (by simp [Nat.mod_le])
  have hw : IntKind.i64.wrap ((BitVec.ofNat 64 S &&& ~~~BitVec.ofNat 64 M).toNat : Int) = ((BitVec.ofNat 64 S &&& ~~~BitVec.ofNat 64 M).toNat : Int) := by rw [IntKind.wrap_i64]; omega
  rw [hw]
  constructor
  · intro h
    have h0 : BitVec.ofNat 64 S &&& ~~~BitVec.ofNat 64 M = 0#64 := BitVec.eq_of_toNat_eq (by rw [BitVec.toNat_ofNat]; omega)
    rw [List.all_eq_true]
    intro i hi
    have hi := List.mem_range.1 hi
    have := congrArg (fun b => b.getLsbD i) h0
    simp only [BitVec.getLsbD_and, BitVec.getLsbD_not, BitVec.getLsbD_ofNat, show i < 64 by omega, decide_true, Bool.true_and, BitVec.getLsbD_zero] at this
    cases h1 : S.testBit i <;> cases h2 : M.testBit i <;> simp [h1, h2] at this ⊢
  · intro h
    have h0 : BitVec.ofNat 64 S &&& ~~~BitVec.ofNat 64 M = 0#64 := by
      apply BitVec.eq_of_getLsbD_eq
      intro i hi
      simp only [BitVec.getLsbD_and, BitVec.getLsbD_not, BitVec.getLsbD_ofNat, hi, decide_true, Bool.true_and, BitVec.getLsbD_zero]
      by_cases g : i < 63
      · have := List.all_eq_true.1 h i (List.mem_range.2 g)
        cases h1 : S.testBit i <;> cases h2 : M.testBit i <;> simp [h1, h2] at this ⊢
      · have hi63 : i = 63 := by omega
        subst hi63
        rw [Nat.testBit_lt_two_pow (by simpa using hS)]; rfl
    rw [h0]; rfl
theorem pAble_c (t : Typ) (s : Int) (h1 : t.skills < 9223372036854775808) (h2 : s < 9223372036854775808) : ACalls Tryz.prog 184 [.p (eTyp t), .p (.int .i64 s)] [] fun x H' => x = .p (.bool (ableB t s)) ∧ H' = [] := by
  refine acalls_pure (fn := Tryz.f184) Tryz.func184 rfl isF184 ?_
  simp (disch := omega) only [Tryz.f184, go_sem, seval, reduceCtorEq, ↓reduceIte]
  refine aguard_t (fun c1 => ?_) (fun c1 => ?_) <;> (try simp only [decide_eq_true_eq, decide_eq_false_iff_not] at c1) <;> simp (disch := omega) only [Sh.out c1, go_sem, seval, reduceCtorEq, ↓reduceIte]
  · refine aguard_t (fun c2 => ?_) (fun c2 => ?_) <;> (try simp only [decide_eq_true_eq, decide_eq_false_iff_not] at c2) <;> simp (disch := omega) only [Sh.out c2, go_sem, seval, reduceCtorEq, ↓reduceIte]
    · obtain ⟨M, hM⟩ : ∃ M : Nat, t.skills = (M : Int) := ⟨t.skills.toNat, by omega⟩
      obtain ⟨S, rfl⟩ : ∃ S : Nat, s = (S : Int) := ⟨s.toNat, by omega⟩
      have hb := andNot_zero (S := S) (M := M) (by omega)
      have e : ableB t (S : Int) = (List.range 63).all fun i => !S.testBit i || M.testBit i := by
        have g1 : (0 : Int) ≤ (M : Int) := by omega
        have g2 : (0 : Int) ≤ (S : Int) := c2
        simp only [ableB, hM, g1, g2, decide_true, Bool.true_and, Int.toNat_natCast]
      have hd : decide (IntKind.i64.wrap ((BitVec.ofInt 64 (S : Int) &&& ~~~BitVec.ofInt 64 (M : Int)).toNat : Int) = 0) = ((List.range 63).all fun i => !S.testBit i || M.testBit i) := by
        rw [Bool.eq_iff_iff]
        simp only [decide_eq_true_eq]
        exact hb
      rw [e, hM]
      exact congrArg (fun b => V.p (PV.bool b)) hd
    · have : ¬ 0 ≤ s := by omega
      simp [ableB, this]
  · have : ¬ 0 ≤ t.skills := by omega
    simp [ableB, this]
theorem plus_c (a b : Int) (h : -1073741824 ≤ a ∧ a ≤ 1073741824 ∧ -1073741824 ≤ b ∧ b ≤ 1073741824) : ACalls Tryz.prog 196 [.p (.int .i64 a), .p (.int .i64 b)] [] fun x H' => x = .p (.int .i64 (a + b)) ∧ H' = [] := by
  refine acalls_pure (fn := Tryz.f196) Tryz.func196 rfl isF196 ?_
  simp (disch := omega) only [Tryz.f196, go_sem, seval, reduceCtorEq, ↓reduceIte]
theorem minus_c (a b : Int) (h : -1073741824 ≤ a ∧ a ≤ 1073741824 ∧ -1073741824 ≤ b ∧ b ≤ 1073741824) : ACalls Tryz.prog 197 [.p (.int .i64 a), .p (.int .i64 b)] [] fun x H' => x = .p (.int .i64 (a - b)) ∧ H' = [] := by
  refine acalls_pure (fn := Tryz.f197) Tryz.func197 rfl isF197 ?_
  simp (disch := omega) only [Tryz.f197, go_sem, seval, reduceCtorEq, ↓reduceIte]
/-- a row in the making: the first k cells hold f -/
def mkR (f : Nat → Int) (n k : Nat) : List Int := (List.range n).map fun j => if j < k then f j else 0
theorem mkR_len {f : Nat → Int} {n k : Nat} : (mkR f n k).length = n := by simp [mkR]
theorem mkR_zero {f : Nat → Int} {n : Nat} : mkR f n 0 = List.replicate n 0 := by
  apply List.ext_getElem (by simp [mkR]); intro i h1 h2; simp [mkR]
theorem mkR_full {f : Nat → Int} {n : Nat} : mkR f n n = (List.range n).map f := by
  apply List.ext_getElem (by simp [mkR]); intro i h1 h2
  simp [mkR] at h1 ⊢; omega
theorem mkR_set {f : Nat → Int} {n k : Nat} (h : k < n) : (mkR f n k).set k (f k) = mkR f n (k + 1) := by
  apply List.ext_getElem (by simp [mkR]); intro i h1 h2
  rw [List.getElem_set]
  simp [mkR] at h1 ⊢
  split
  · rename_i e; subst e; simp
  · rename_i e
    have : (i < k) ↔ (i < k + 1) := by omega
    simp only [this]
theorem combine_c (a b : List Int) (c d : Bool) (g : FuncId) (f : Int → Int → Int) (hl : a.length = b.length) (ha : a.length ≤ 1048576)
    (hf : ∀ j, j < a.length → ACalls Tryz.prog g [.p (.int .i64 (nth a j)), .p (.int .i64 (nth b j))] [] fun x H' => x = .p (.int .i64 (f (nth a j) (nth b j))) ∧ H' = []) :
    ACalls Tryz.prog 195 [.p (.list c (a.map eI)), .p (.list d (b.map eI)), .fn (.func g) [] []] [] fun x H' => x = .tup [.p (.list false (((List.range a.length).map fun j => f (nth a j) (nth b j)).map eI)), .p (.int .i64 0)] ∧ H' = [] := by
  refine acalls_weak [9] (fn := Tryz.f195) Tryz.func195 rfl isF195 ?_
  simp (disch := omega) only [Tryz.f195, go_sem, seval, reduceCtorEq, ↓reduceIte]
  refine acond_b (fun h0 => ?_) (fun h0 => ?_) <;> (try simp only [decide_eq_true_eq, decide_eq_false_iff_not] at h0) <;> simp (disch := omega) only [Sh.out h0, go_sem, seval, reduceCtorEq, ↓reduceIte]
  · omega
  · have hz := mkR_zero (f := fun j => f (nth a j) (nth b j)) (n := a.length)
    have hml := fun k => mkR_len (f := fun j => f (nth a j) (nth b j)) (n := a.length) (k := k)
    refine awp_forC [9] [0, 1, 2, 8, 19] (fun k : Nat => [(20, .p (.int .i64 k))]) (fun k => [.elems 1 ((mkR (fun j => f (nth a j) (nth b j)) a.length k).map eI)]) (fun k => k ≤ a.length) (fun k => a.length - k) 0 (by simp) (Weak.mk ?_) ?_
    · simp (disch := omega) only [hz, go_sem, seval, reduceCtorEq, ↓reduceIte]
      rw [List.map_replicate]; rfl
    · intro k hk
      simp (disch := omega) only [go_sem, seval, reduceCtorEq, ↓reduceIte]
      refine acond_b (fun h1 => ?_) (fun h1 => ?_) <;> (try simp only [decide_eq_true_eq, decide_eq_false_iff_not] at h1) <;> simp (disch := omega) only [Sh.out h1, go_sem, seval, reduceCtorEq, ↓reduceIte]
      · have hk2 : k < a.length := by omega
        have hs := mkR_set (f := fun j => f (nth a j) (nth b j)) (n := a.length) hk2
        have hk3 := hml k
        refine awp_drawnS 12 mixed (by kernel_rfl) (by kernel_rfl) ?_
        simp (disch := omega) only [go_sem, seval, reduceCtorEq, ↓reduceIte]
        refine exq_call (hf k hk2) ?_
        simp (disch := omega) only [go_sem, seval, reduceCtorEq, ↓reduceIte]
        simp (disch := first | omega | (simp only [List.length_cons, List.length_nil, List.length_append, List.length_map, List.length_take, List.length_drop] <;> omega)) only [go_sem, seval, reduceCtorEq, ↓reduceIte]
        refine ⟨k + 1, by omega, by omega, Weak.mk ?_⟩
        simp (disch := omega) only [← hs, go_sem, seval, reduceCtorEq, ↓reduceIte]
        rw [List.map_set]; rfl
      · have hkl : k = a.length := by omega
        subst hkl
        rw [← mkR_full]
        have hk3 := hml a.length
        refine awp_weak (Weak.fz (o := 0) (by rfl)) ?_
        refine awp_sound [] _ _ _ _ ?_
        simp (disch := omega) only [List.map_cons, List.map_nil, List.set_cons_succ, List.set_cons_zero, go_sem, seval, reduceCtorEq, ↓reduceIte]
        rw [if_pos hk3]
        exact ⟨_, _, Weak.mk (by simp (disch := omega) only [go_sem, seval, reduceCtorEq, ↓reduceIte]), rfl, rfl⟩
theorem pAdd_c (a b : List Int) (c d : Bool) (hl : a.length = b.length) (ha : a.length ≤ 1048576) (h : ∀ j, j < a.length → -1073741824 ≤ nth a j ∧ nth a j ≤ 1073741824 ∧ -1073741824 ≤ nth b j ∧ nth b j ≤ 1073741824) : ACalls Tryz.prog 134 [.p (.list c (a.map eI)), .p (.list d (b.map eI))] [] fun x H' => x = .tup [.p (.list false ((addF a b).map eI)), .p (.int .i64 0)] ∧ H' = [] := by
  refine acalls_weak [] (fn := Tryz.f134) Tryz.func134 rfl isF134 ?_
  simp (disch := omega) only [Tryz.f134, go_sem, seval, reduceCtorEq, ↓reduceIte]
  refine useT' (combine_c a b c d 196 (fun m n => m + n) hl ha fun j hj => plus_c _ _ (h j hj)) ?_
  simp (disch := omega) only [addF, go_sem, seval, reduceCtorEq, ↓reduceIte]
  exact ⟨_, _, Weak.mk (by simp (disch := omega) only [go_sem, seval, reduceCtorEq, ↓reduceIte]), rfl, rfl⟩
theorem pSub_c (a b : List Int) (c d : Bool) (hl : a.length = b.length) (ha : a.length ≤ 1048576) (h : ∀ j, j < a.length → -1073741824 ≤ nth a j ∧ nth a j ≤ 1073741824 ∧ -1073741824 ≤ nth b j ∧ nth b j ≤ 1073741824) : ACalls Tryz.prog 135 [.p (.list c (a.map eI)), .p (.list d (b.map eI))] [] fun x H' => x = .tup [.p (.list false ((subF a b).map eI)), .p (.int .i64 0)] ∧ H' = [] := by
  refine acalls_weak [] (fn := Tryz.f135) Tryz.func135 rfl isF135 ?_
  simp (disch := omega) only [Tryz.f135, go_sem, seval, reduceCtorEq, ↓reduceIte]
  refine useT' (combine_c a b c d 197 (fun m n => m - n) hl ha fun j hj => minus_c _ _ (h j hj)) ?_
  simp (disch := omega) only [subF, go_sem, seval, reduceCtorEq, ↓reduceIte]
  exact ⟨_, _, Weak.mk (by simp (disch := omega) only [go_sem, seval, reduceCtorEq, ↓reduceIte]), rfl, rfl⟩
end Go.Proofs.YtcllkjiebfmjpaaGreatDoor.K
set_option linter.unusedVariables false
set_option linter.unusedSimpArgs false
namespace Go.Proofs.YtcllkjiebfmjpaaGreatDoor.K
open Go Go.AM Go.Proofs
set_option maxRecDepth 8000
set_option maxHeartbeats 8000000
theorem pRAble_c (x : Inst) (r : Rte) (ht : 0 ≤ r.typ ∧ r.typ < (x.types.length : Int)) (hv : ∀ v ∈ r.visits, inB x v = true) (hl : r.visits.length ≤ 1048576) (hxl : x.types.length ≤ 1048576) (hol : x.orders.length ≤ 1048576)
    (hs : (typR x r).skills < 9223372036854775808) (ho : ∀ o ∈ x.orders, o.skills < 9223372036854775808) :
    ACalls Tryz.prog 124 [.p (eInst x), .p (eRte r)] [] fun y H' => y = .p (.int .i64 (if (r.visits.any fun v => !ableB (typR x r) (nth x.orders v.order.toNat).skills) = true then 18 else 0)) ∧ H' = [] := by
  refine acalls_pure (fn := Tryz.f124) Tryz.func124 rfl isF124 ?_
  simp (disch := omega) only [Tryz.f124, go_sem, seval, reduceCtorEq, ↓reduceIte]
  refine awp_for [2, 3, 8, 9] (fun k : Nat => [(10, .p (.int .i64 k))]) (fun _ => [instO x, .cells [.p (.int .i64 r.typ), .p (.int .i64 r.start), .p (.list r.rests_c (r.rests.map eB)), .p (.list r.visits_c (r.visits.map eVis))]]) (fun k => k ≤ r.visits.length ∧ ∀ j, j < k → ableB (typR x r) (nth x.orders (nth r.visits j).order.toNat).skills = true) (fun k => r.visits.length - k) 0 (by simp) (Weak.mk ?_) ?_
  · simp (disch := omega) only [instO, go_sem, seval, reduceCtorEq, ↓reduceIte]
  · rintro k ⟨hk, hno⟩
    simp (disch := omega) only [instO, go_sem, seval, reduceCtorEq, ↓reduceIte]
    refine acond_b (fun h1 => ?_) (fun h1 => ?_) <;> (try simp only [decide_eq_true_eq, decide_eq_false_iff_not] at h1) <;> simp (disch := omega) only [Sh.out h1, go_sem, seval, reduceCtorEq, ↓reduceIte]
    · have hk2 : k < r.visits.length := by omega
      have hin := hv _ (nth_in hk2)
      simp only [inB, Bool.and_eq_true, decide_eq_true_eq] at hin
      obtain ⟨i1, i2⟩ := hin
      have hi : (nth r.visits k).order.toNat < x.orders.length := by omega
      have ho' := ho _ (nth_in hi)
      refine awp_drawnA mixed (by kernel_rfl) (by kernel_rfl) ?_
      simp (disch := omega) only [go_sem, seval, reduceCtorEq, ↓reduceIte]
      refine exq_call (pAble_c (typR x r) (nth x.orders (nth r.visits k).order.toNat).skills (by omega) (by omega)) ?_
      simp (disch := omega) only [go_sem, seval, reduceCtorEq, ↓reduceIte]
      refine acond_b (fun h2 => ?_) (fun h2 => ?_) <;> (try simp only [decide_eq_true_eq, decide_eq_false_iff_not] at h2) <;> simp (disch := omega) only [Sh.out h2, go_sem, seval, reduceCtorEq, ↓reduceIte]
      · have : (r.visits.any fun v => !ableB (typR x r) (nth x.orders v.order.toNat).skills) = true := by
          rw [List.any_eq_true]; exact ⟨_, nth_in hk2, h2⟩
        rw [if_pos this]
      · exact ⟨k + 1, ⟨by omega, upto_iff.2 ⟨hno, by simpa using h2⟩⟩, by omega, Weak.mk (by simp (disch := omega) only [instO, go_sem, seval, reduceCtorEq, ↓reduceIte])⟩
    · have : ¬ (r.visits.any fun v => !ableB (typR x r) (nth x.orders v.order.toNat).skills) = true := by
        rw [List.any_eq_true]
        rintro ⟨v, hv, e⟩
        obtain ⟨j, hj, rfl⟩ := List.mem_iff_getElem.1 hv
        have := hno j (by omega)
        rw [nth_get hj] at this
        rw [this] at e; cases e
      rw [if_neg this]
end Go.Proofs.YtcllkjiebfmjpaaGreatDoor.K
set_option linter.unusedVariables false
set_option linter.unusedSimpArgs false
namespace Go.Proofs.YtcllkjiebfmjpaaGreatDoor.K
open Go Go.AM Go.Proofs
set_option maxRecDepth 8000
set_option maxHeartbeats 8000000
theorem orN {a b : Nat} (ha : a < 4611686018427387904) (hb : b < 4611686018427387904) : IntKind.i64.wrap ((BitVec.ofInt 64 (a : Int) ||| BitVec.ofInt 64 (b : Int)).toNat : Int) = ((a ||| b : Nat) : Int) := by
  have h : (a ||| b) < 2 ^ 62 := Nat.or_lt_two_pow (by simpa using ha) (by simpa using hb)
  rw [BitVec.ofInt_natCast, BitVec.ofInt_natCast, BitVec.toNat_or, BitVec.toNat_ofNat, BitVec.toNat_ofNat, Nat.mod_eq_of_lt (by omega), Nat.mod_eq_of_lt (by omega), IntKind.wrap_i64]
  omega
@[go_sem high] theorem abin_orN {P : Program} {t : TypeId} {a b : Nat} (ha : a < 4611686018427387904) (hb : b < 4611686018427387904) : abin P .or t (.p (.int .i64 (a : Int))) (.p (.int .i64 (b : Int))) = some (.int .i64 ((a ||| b : Nat) : Int)) := by
  rw [abin_or]; exact congrArg (fun z => some (PV.int .i64 z)) (orN ha hb)
end Go.Proofs.YtcllkjiebfmjpaaGreatDoor.K
set_option linter.unusedVariables false
set_option linter.unusedSimpArgs false
namespace Go.Proofs.YtcllkjiebfmjpaaGreatDoor.K
open Go Go.AM Go.Proofs
set_option maxRecDepth 8000
set_option maxHeartbeats 8000000
def stF (x : Inst) (d : Nat) (ms : List Int) (k : Nat) : List Int := (ms.take k).foldl (fun s i => if (nth x.orders i.toNat).pick.place < 0 then addF s (nth x.orders i.toNat).load else s) (List.replicate d 0)
theorem stF_succ {x : Inst} {d : Nat} {ms : List Int} {k : Nat} (h : k < ms.length) : stF x d ms (k + 1) = if (nth x.orders (nth ms k).toNat).pick.place < 0 then addF (stF x d ms k) (nth x.orders (nth ms k).toNat).load else stF x d ms k := by
  rw [stF, List.take_succ_eq_append_getElem h, List.foldl_append, nth_get h]; rfl
theorem stF_rng {x : Inst} {d : Nat} {ms : List Int} (hms : ∀ i ∈ ms, ∀ j, j < d → 0 ≤ nth (nth x.orders i.toNat).load j ∧ nth (nth x.orders i.toNat).load j ≤ 1000) : ∀ k, k ≤ ms.length → (stF x d ms k).length = d ∧ ∀ j, j < d → 0 ≤ nth (stF x d ms k) j ∧ nth (stF x d ms k) j ≤ 1000 * k
  | 0, _ => by
    refine ⟨by simp [stF], fun j hj => ?_⟩
    have : nth (stF x d ms 0) j = 0 := by
      show nth (List.replicate d 0) j = 0
      rw [nth_get (by simpa using hj)]; simp
    omega
  | k + 1, h => by
    obtain ⟨h1, h2⟩ := stF_rng hms k (by omega)
    rw [stF_succ (by omega)]
    split
    · refine ⟨by simp [addF, h1], fun j hj => ?_⟩
      have a1 := h2 j hj
      have a2 := hms _ (nth_in (show k < ms.length by omega)) j hj
      rw [addF, nthI_map (by omega)]
      omega
    · exact ⟨h1, fun j hj => by have := h2 j hj; omega⟩
theorem start_c (x : Inst) (S : Int) (d : Nat) (hd : d ≤ 3) (hol : x.orders.length ≤ 1048576) (hms : ∀ i ∈ memU S 63, 0 ≤ i ∧ i < (x.orders.length : Int)) (hml : (memU S 63).length ≤ 63)
    (hld : ∀ o ∈ x.orders, o.load.length = d ∧ ∀ n ∈ o.load, 0 ≤ n ∧ n ≤ 1000) :
    ACalls Tryz.prog 132 [.p (eInst x), .p (.int .i64 S), .p (.int .i64 (d : Int))] [] fun y H' => y = .p (.list false ((stF x d (memU S 63) (memU S 63).length).map eI)) ∧ H' = [] := by
  have hmo : ∀ i ∈ memU S 63, i.toNat < x.orders.length := fun i hi => by have := hms i hi; omega
  have hrg := stF_rng (x := x) (d := d) (ms := memU S 63) fun i hi j hj => by
    obtain ⟨l1, l2⟩ := hld _ (nth_in (hmo i hi))
    exact l2 _ (nth_in (by omega))
  refine acalls_pure (fn := Tryz.f132) Tryz.func132 rfl isF132 ?_
  simp (disch := omega) only [Tryz.f132, go_sem, seval, reduceCtorEq, ↓reduceIte]
  refine (members_c S).useF ?_
  simp (disch := omega) only [go_sem, seval, reduceCtorEq, ↓reduceIte]
  refine awp_weak ((Weak.fz (o := 1) (by rfl)).trans (Weak.fz (o := 2) (by rfl))) ?_
  simp (disch := omega) only [List.map_cons, List.map_nil, List.set_cons_succ, List.set_cons_zero, List.cons_append, List.nil_append, List.length_replicate, eq_self, if_true, go_sem, seval, reduceCtorEq, ↓reduceIte]
  have hz : List.replicate d (PV.int .i64 0) = (stF x d (memU S 63) 0).map eI := by
    show _ = (List.replicate d 0).map eI
    rw [List.map_replicate]; rfl
  refine awp_for [3, 13, 14] (fun k : Nat => [(7, .p (.list false ((stF x d (memU S 63) k).map eI))), (15, .p (.int .i64 k))]) (fun _ => [instO x, .dead, .dead]) (fun k => k ≤ (memU S 63).length) (fun k => (memU S 63).length - k) 0 (by simp) (Weak.mk ?_) ?_
  · simp (disch := omega) only [instO, hz, go_sem, seval, reduceCtorEq, ↓reduceIte]
  · intro k hk
    have hk1 := hrg k hk
    have hsn := fun h => stF_succ (x := x) (d := d) (ms := memU S 63) (k := k) h
    simp (disch := omega) only [instO, go_sem, seval, reduceCtorEq, ↓reduceIte]
    refine acond_b (fun h1 => ?_) (fun h1 => ?_) <;> (try simp only [decide_eq_true_eq, decide_eq_false_iff_not] at h1) <;> simp (disch := omega) only [Sh.out h1, go_sem, seval, reduceCtorEq, ↓reduceIte]
    · have hk2 : k < (memU S 63).length := by omega
      have hm := hms _ (nth_in hk2)
      have hi := hmo _ (nth_in hk2)
      have hlo := hld _ (nth_in hi)
      have hsn := hsn hk2
      simp (disch := omega) only [go_sem, seval, reduceCtorEq, ↓reduceIte]
      refine acond_b (fun h2 => ?_) (fun h2 => ?_) <;> (try simp only [decide_eq_true_eq, decide_eq_false_iff_not] at h2) <;> simp (disch := omega) only [Sh.out h2, go_sem, seval, reduceCtorEq, ↓reduceIte]
      · rw [if_pos h2] at hsn
        refine useT' (pAdd_c (stF x d (memU S 63) k) (nth x.orders (nth (memU S 63) k).toNat).load false (nth x.orders (nth (memU S 63) k).toNat).load_c (by omega) (by omega) fun j hj => ?_) ?_
        · have b1 := hk1.2 j (by omega)
          have b2 := hlo.2 _ (nth_in (show j < (nth x.orders (nth (memU S 63) k).toNat).load.length by omega))
          omega
        · simp (disch := omega) only [go_sem, seval, reduceCtorEq, ↓reduceIte]
          exact ⟨k + 1, by omega, by omega, Weak.mk (by simp (disch := omega) only [instO, hsn, go_sem, seval, reduceCtorEq, ↓reduceIte])⟩
      · rw [if_neg h2] at hsn
        exact ⟨k + 1, by omega, by omega, Weak.mk (by simp (disch := omega) only [instO, hsn, go_sem, seval, reduceCtorEq, ↓reduceIte])⟩
    · have hkl : k = (memU S 63).length := by omega
      subst hkl
      trivial
end Go.Proofs.YtcllkjiebfmjpaaGreatDoor.K
set_option linter.unusedVariables false
set_option linter.unusedSimpArgs false
namespace Go.Proofs.YtcllkjiebfmjpaaGreatDoor.K
open Go Go.AM Go.Proofs
theorem filter_cut {p : Nat → Bool} {n : Nat} (h : ∀ i, n ≤ i → p i = false) : ∀ k, n ≤ k → (List.range k).filter p = (List.range n).filter p := by
  intro k hk
  induction k with
  | zero => have : n = 0 := by omega
            subst this; rfl
  | succ k ih =>
    by_cases e : n = k + 1
    · subst e; rfl
    · rw [List.range_succ, List.filter_append, ih (by omega)]
      simp [h k (by omega)]
theorem memS {x : Inst} {l : List Vis} (hi : Inr x l) (hn : x.orders.length ≤ 10) : memU ((ordS l : Nat) : Int) 63 = ((List.range x.orders.length).filter fun (i : Nat) => hasO l (i : Int)).map fun (i : Nat) => (i : Int) := by
  have key : ∀ i : Nat, i ≤ 62 → sHas ((ordS l : Nat) : Int) (i : Int) = hasO l (i : Int) := fun i h => by
    rw [sHas_nat _ _ h, Bool.eq_iff_iff, ordS_bit, hasO_iff]
    constructor
    · rintro ⟨v, hv, e⟩
      exact ⟨v, hv, by have := hi v hv; omega⟩
    · rintro ⟨v, hv, e⟩
      exact ⟨v, hv, by omega⟩
  unfold memU
  rw [List.filter_congr (q := fun (i : Nat) => hasO l (i : Int)) (fun i hm => key i (by have := List.mem_range.1 hm; omega)), filter_cut (n := x.orders.length) (fun i h => ?_) 63 (by omega)]
  cases hh : hasO l (i : Int) with
  | false => rfl
  | true =>
    obtain ⟨v, hv, e⟩ := hasO_iff.1 hh
    have := hi v hv
    omega
theorem foldS {x : Inst} {d : Nat} : ∀ (L : List Nat) (g : Nat → Int), (L.map fun (i : Nat) => (i : Int)).foldl (fun s (i : Int) => if (nth x.orders i.toNat).pick.place < 0 then addF s (nth x.orders i.toNat).load else s) ((List.range d).map g) = (List.range d).map fun j => g j + (L.map fun i => if (nth x.orders i).pick.place < 0 then nth (nth x.orders i).load j else 0).sum
  | [], g => by simp
  | i :: L, g => by
    rw [List.map_cons, List.foldl_cons, Int.toNat_natCast]
    by_cases h : (nth x.orders i).pick.place < 0
    · have e : addF ((List.range d).map g) (nth x.orders i).load = (List.range d).map fun j => g j + nth (nth x.orders i).load j := by
        rw [addF, List.length_map, List.length_range]
        exact List.map_congr_left fun j hj => by rw [nthI_map (List.mem_range.1 hj)]
      rw [if_pos h, e, foldS L]
      refine List.map_congr_left fun j _ => ?_
      rw [List.map_cons, List.sum_cons, if_pos h]; omega
    · rw [if_neg h, foldS L]
      refine List.map_congr_left fun j _ => ?_
      rw [List.map_cons, List.sum_cons, if_neg h]; omega
theorem start_aft {x : Inst} {l : List Vis} (hi : Inr x l) (hn : x.orders.length ≤ 10) : stF x (dimsOf x.types).toNat (memU ((ordS l : Nat) : Int) 63) (memU ((ordS l : Nat) : Int) 63).length = aftF x l 0 := by
  rw [stF, List.take_length, memS hi hn]
  have := foldS (x := x) (d := (dimsOf x.types).toNat) ((List.range x.orders.length).filter fun (i : Nat) => hasO l (i : Int)) fun _ => 0
  have e : (List.range (dimsOf x.types).toNat).map (fun _ => (0 : Int)) = List.replicate (dimsOf x.types).toNat 0 := by
    rw [List.map_const', List.length_range]
  rw [e] at this
  rw [this, aftF]
  refine List.map_congr_left fun j _ => ?_
  rw [Int.zero_add, sum_filter, sumB]
  congr 1
  refine List.map_congr_left fun i _ => ?_
  rw [onB_zero]
  by_cases h : (nth x.orders i).pick.place < 0 <;> cases hasO l (i : Int) <;> simp [h]
theorem sumB_rng {x : Inst} {l : List Vis} {n j : Nat} {d : Nat} (hj : j < d) (hld : ∀ o ∈ x.orders, o.load.length = d ∧ ∀ n ∈ o.load, 0 ≤ n ∧ n ≤ 1000) (hn : x.orders.length ≤ 10) : 0 ≤ sumB x l n j ∧ sumB x l n j ≤ 10000 := by
  have key := sum_rng (f := fun i => if i < x.orders.length then (if (onB x l n i && hasO l i) = true then nth (nth x.orders i).load j else 0) else 0) (b := 1000) (by omega) (fun q => by
    split
    · rename_i hq
      split
      · obtain ⟨h1, h2⟩ := hld _ (nth_in hq)
        exact h2 _ (nth_in (by omega))
      · omega
    · omega) x.orders.length
  have e : sumB x l n j = ((List.range x.orders.length).map fun i => if i < x.orders.length then (if (onB x l n i && hasO l i) = true then nth (nth x.orders i).load j else 0) else 0).sum := by
    rw [sumB]
    congr 1
    exact List.map_congr_left fun i hi => by rw [if_pos (List.mem_range.1 hi)]
  rw [e]
  have : (1000 : Int) * x.orders.length ≤ 10000 := by omega
  omega
theorem aftF_rng {x : Inst} {l : List Vis} {n j : Nat} (hj : j < (dimsOf x.types).toNat) (hd : LdOk x) : 0 ≤ nth (aftF x l n) j ∧ nth (aftF x l n) j ≤ 10000 := by
  rw [aftF, nthI_map hj]
  exact sumB_rng hj (fun o ho => by obtain ⟨h1, h2⟩ := hd.load o ho; exact ⟨by omega, h2⟩) hd.ord
end Go.Proofs.YtcllkjiebfmjpaaGreatDoor.K
set_option linter.unusedVariables false
set_option linter.unusedSimpArgs false
namespace Go.Proofs.YtcllkjiebfmjpaaGreatDoor.K
open Go Go.AM Go.Proofs
set_option maxRecDepth 8000
set_option maxHeartbeats 8000000
theorem begins20_c (l : List Vis) (c : Bool) (n : Nat) (hn : n < l.length) (hl : l.length ≤ 1048576) : ACalls Tryz.prog 145 [.p (.list c (l.map eVis)), .p (.int .i64 (n : Nat))] [] fun x H' => x = .p (.bool (firstB l n)) ∧ H' = [] := by
  refine acalls_pure (fn := Tryz.f145) Tryz.func145 rfl isF145 ?_
  simp (disch := omega) only [Tryz.f145, go_sem, seval, reduceCtorEq, ↓reduceIte]
  refine awp_for [0, 1] (fun k : Nat => [(5, .p (.int .i64 k))]) (fun _ => []) (fun k => k ≤ n ∧ ∀ j, j < k → (nth l j).order ≠ (nth l n).order) (fun k => n - k) 0 (by simp) (Weak.mk ?_) ?_
  · simp (disch := omega) only [go_sem, seval, reduceCtorEq, ↓reduceIte]
  · rintro k ⟨hk, hno⟩
    simp (disch := omega) only [go_sem, seval, reduceCtorEq, ↓reduceIte]
    refine acond_b (fun h1 => ?_) (fun h1 => ?_) <;> (try simp only [decide_eq_true_eq, decide_eq_false_iff_not] at h1) <;> simp (disch := omega) only [Sh.out h1, go_sem, seval, reduceCtorEq, ↓reduceIte]
    · have hk2 : k < n := by omega
      have hk3 : k < l.length := by omega
      refine awp_drawnA mixed (by kernel_rfl) (by kernel_rfl) ?_
      simp (disch := omega) only [go_sem, seval, reduceCtorEq, ↓reduceIte]
      refine acond_b (fun h2 => ?_) (fun h2 => ?_) <;> (try simp only [decide_eq_true_eq, decide_eq_false_iff_not] at h2) <;> simp (disch := omega) only [Sh.out h2, go_sem, seval, reduceCtorEq, ↓reduceIte]
      · have : firstB l n = false := by
          unfold firstB
          rw [Bool.not_eq_false', List.any_eq_true]
          exact ⟨nth l k, mem_take hk2 hk3, by simpa using h2⟩
        rw [this]
      · exact ⟨k + 1, ⟨by omega, upto_iff.2 ⟨hno, h2⟩⟩, by omega, Weak.mk (by simp (disch := omega) only [go_sem, seval, reduceCtorEq, ↓reduceIte])⟩
    · have hkn : k = n := by omega
      subst hkn
      have : firstB l k = true := by
        unfold firstB
        rw [Bool.not_eq_true', List.any_eq_false]
        intro v hv
        obtain ⟨j, j1, j2, rfl⟩ := take_mem hv
        simpa using hno j j1
      rw [this]
def scoO (c m o w : Int) : AM.Obj := .cells [.p (.int .i64 c), .p (.int .i64 m), .p (.int .i64 o), .p (.int .i64 w)]
theorem chgF_rng {x : Inst} {l : List Vis} {t : Int} : ∀ n : Nat, (0 ≤ (chgF x l t n).1 ∧ (chgF x l t n).1 ≤ n) ∧ (0 ≤ (chgF x l t n).2 ∧ (chgF x l t n).2 ≤ n)
  | 0 => by simp [chgF]
  | n + 1 => by
    have ih := chgF_rng (x := x) (l := l) (t := t) n
    rw [chgF]
    split
    · simp only
      constructor <;> split <;> omega
    · omega
theorem route20_c (x : Inst) (r : Rte) (s : She) (hty : 0 ≤ r.typ ∧ r.typ < (x.types.length : Int)) (ho : x.orders.length ≤ 1048576) (ht : x.types.length ≤ 1048576) (hl : r.visits.length ≤ 1048576) (hv : Inr x r.visits)
    (hc : 0 ≤ (typR x r).fixed ∧ (typR x r).fixed ≤ 100000 ∧ 0 ≤ (typR x r).perMile ∧ (typR x r).perMile ≤ 100 ∧ 0 ≤ (typR x r).perTick ∧ (typR x r).perTick ≤ 100) (ho2 : 0 ≤ (typR x r).opn ∧ (typR x r).opn ≤ 4096)
    (hf : -4096 ≤ s.fin ∧ s.fin ≤ 8192) (hm : 0 ≤ s.miles ∧ s.miles ≤ 1000000) :
    ACalls Tryz.prog 99 [.p (eInst x), .p (eRte r), .p (eShe s)] [] fun y H' => y = .p (eSco (scoF x r s)) ∧ H' = [] := by
  have hti : r.typ.toNat < x.types.length := by omega
  unfold scoF
  have htd : nth x.types r.typ.toNat = typR x r := rfl
  generalize typR x r = t at *
  have e1 : ¬ r.typ < 0 := by omega
  have e2 : ¬ (x.types.length : Int) ≤ r.typ := by omega
  have p1 : 0 ≤ t.perMile * s.miles ∧ t.perMile * s.miles ≤ 100 * 1000000 := ⟨Int.mul_nonneg (by omega) (by omega), Int.mul_le_mul (by omega) (by omega) (by omega) (by omega)⟩
  have hW : -8192 ≤ s.fin - t.opn ∧ s.fin - t.opn ≤ 8192 := by omega
  have p2 : -819200 ≤ t.perTick * (s.fin - t.opn) ∧ t.perTick * (s.fin - t.opn) ≤ 819200 := by
    generalize s.fin - t.opn = w at hW
    have a1 := Int.mul_le_mul_of_nonneg_left hW.2 (show 0 ≤ t.perTick by omega)
    have a2 := Int.mul_le_mul_of_nonneg_left hW.1 (show 0 ≤ t.perTick by omega)
    omega
  have p3 : -128 ≤ (s.fin - t.opn).tdiv 64 ∧ (s.fin - t.opn).tdiv 64 ≤ 128 := by
    generalize s.fin - t.opn = w at hW
    rcases Int.le_total 0 w with h | h
    · rw [Int.tdiv_eq_ediv_of_nonneg h]; omega
    · have : w.tdiv 64 = -((-w) / 64) := by rw [← Int.tdiv_eq_ediv_of_nonneg (by omega), Int.neg_tdiv, Int.neg_neg]
      rw [this]; omega
  have p4 : 0 ≤ (s.fin - t.opn).tdiv 64 * (s.fin - t.opn).tdiv 64 ∧ (s.fin - t.opn).tdiv 64 * (s.fin - t.opn).tdiv 64 ≤ 16384 := by
    generalize (s.fin - t.opn).tdiv 64 = q at p3
    refine ⟨?_, ?_⟩
    · rcases Int.le_total 0 q with h | h
      · exact Int.mul_nonneg h h
      · exact Int.mul_nonneg_of_nonpos_of_nonpos h h
    · rcases Int.le_total 0 q with h | h
      · have := Int.mul_le_mul p3.2 p3.2 h (by omega); omega
      · have h2 : 0 ≤ -q := by omega
        have := Int.mul_le_mul (show -q ≤ 128 by omega) (show -q ≤ 128 by omega) h2 (by omega)
        rw [Int.neg_mul_neg] at this; omega
  refine acalls_pure (fn := Tryz.f99) Tryz.func99 rfl isF99 ?_
  simp (disch := omega) only [Tryz.f99, e1, e2, htd, go_sem, seval, reduceCtorEq, ↓reduceIte]
  refine awp_for [3, 4, 6, 9] (fun k : Nat => [(10, .p (.int .i64 k))]) (fun k => [instO x, rteO r, .cells [.p (.bool s.rest), .p (.int .i64 s.dep), .p (.list s.times_c (s.times.map eTim)), .p (.int .i64 s.fin), .p (.int .i64 s.miles)], scoO 0 0 0 0, typO t, scoO (t.fixed + t.perMile * s.miles + t.perTick * (s.fin - t.opn)) (chgF x r.visits r.typ k).1 (chgF x r.visits r.typ k).2 ((s.fin - t.opn).tdiv 64 * (s.fin - t.opn).tdiv 64)]) (fun k => k ≤ r.visits.length) (fun k => r.visits.length - k) 0 (by simp) (Weak.mk ?_) ?_
  · simp (disch := omega) only [instO, rteO, typO, scoO, chgF, go_sem, seval, reduceCtorEq, ↓reduceIte]
  · intro k hk
    have hch := chgF_rng (x := x) (l := r.visits) (t := r.typ) k
    simp (disch := omega) only [instO, rteO, typO, scoO, go_sem, seval, reduceCtorEq, ↓reduceIte]
    refine acond_b (fun h1 => ?_) (fun h1 => ?_) <;> (try simp only [decide_eq_true_eq, decide_eq_false_iff_not] at h1) <;> simp (disch := omega) only [Sh.out h1, go_sem, seval, reduceCtorEq, ↓reduceIte]
    · have hk2 : k < r.visits.length := by omega
      obtain ⟨v1, v2⟩ := hv _ (nth_mem hk2)
      have e3 : ¬ (nth r.visits k).order < 0 := by omega
      have e4 : ¬ (x.orders.length : Int) ≤ (nth r.visits k).order := by omega
      have v3 : (nth r.visits k).order.toNat < x.orders.length := by omega
      simp (disch := omega) only [e3, e4, go_sem, seval, reduceCtorEq, ↓reduceIte]
      refine (begins20_c r.visits r.visits_c k hk2 hl).use ?_
      simp (disch := omega) only [go_sem, seval, reduceCtorEq, ↓reduceIte]
      have hcs : chgF x r.visits r.typ (k + 1) = _ := chgF.eq_2 x r.visits r.typ k
      refine acond_b (fun h2 => ?_) (fun h2 => ?_) <;> (try simp only [decide_eq_true_eq, decide_eq_false_iff_not] at h2) <;> simp (disch := omega) only [Sh.out h2, go_sem, seval, reduceCtorEq, ↓reduceIte]
      · have h2' : ¬ firstB r.visits k = true := by simpa using h2
        exact ⟨k + 1, by omega, by omega, Weak.mk (by simp (disch := omega) only [instO, rteO, typO, scoO, hcs, if_neg h2', go_sem, seval, reduceCtorEq, ↓reduceIte])⟩
      · have h2' : firstB r.visits k = true := by simpa using h2
        refine awp_drawnA mixed (by kernel_rfl) (by kernel_rfl) ?_
        simp (disch := omega) only [go_sem, seval, reduceCtorEq, ↓reduceIte]
        refine aguard_t (fun h3 => ?_) (fun h3 => ?_) <;> (try simp only [decide_eq_true_eq, decide_eq_false_iff_not] at h3) <;> simp (disch := omega) only [Sh.out h3, go_sem, seval, reduceCtorEq, ↓reduceIte]
        · refine acond_b (fun h4 => ?_) (fun h4 => ?_) <;> (try simp only [decide_eq_true_eq, decide_eq_false_iff_not] at h4) <;> simp (disch := omega) only [Sh.out h4, go_sem, seval, reduceCtorEq, ↓reduceIte]
          · have hn : foreign (nth x.orders (nth r.visits k).order.toNat).now r.typ = true := by simp [foreign, h3, h4]
            refine awp_drawnA mixed (by kernel_rfl) (by kernel_rfl) ?_
            simp (disch := omega) only [go_sem, seval, reduceCtorEq, ↓reduceIte]
            refine aguard_t (fun h5 => ?_) (fun h5 => ?_) <;> (try simp only [decide_eq_true_eq, decide_eq_false_iff_not] at h5) <;> simp (disch := omega) only [Sh.out h5, go_sem, seval, reduceCtorEq, ↓reduceIte]
            · refine acond_b (fun h6 => ?_) (fun h6 => ?_) <;> (try simp only [decide_eq_true_eq, decide_eq_false_iff_not] at h6) <;> simp (disch := omega) only [Sh.out h6, go_sem, seval, reduceCtorEq, ↓reduceIte]
              · have hl2 : foreign (nth x.orders (nth r.visits k).order.toNat).last r.typ = true := by simp [foreign, h5, h6]
                exact ⟨k + 1, by omega, by omega, Weak.mk (by simp (disch := omega) only [instO, rteO, typO, scoO, hcs, if_pos h2', hn, hl2, Int.add_zero, Bool.false_eq_true, go_sem, seval, reduceCtorEq, ↓reduceIte])⟩
              · have hl2 : foreign (nth x.orders (nth r.visits k).order.toNat).last r.typ = false := by simp only [Classical.not_not] at h6; simp [foreign, h6]
                exact ⟨k + 1, by omega, by omega, Weak.mk (by simp (disch := omega) only [instO, rteO, typO, scoO, hcs, if_pos h2', hn, hl2, Int.add_zero, Bool.false_eq_true, go_sem, seval, reduceCtorEq, ↓reduceIte])⟩
            · have hl2 : foreign (nth x.orders (nth r.visits k).order.toNat).last r.typ = false := by simp only [Classical.not_not] at h5; simp [foreign, h5]
              exact ⟨k + 1, by omega, by omega, Weak.mk (by simp (disch := omega) only [instO, rteO, typO, scoO, hcs, if_pos h2', hn, hl2, Int.add_zero, Bool.false_eq_true, go_sem, seval, reduceCtorEq, ↓reduceIte])⟩
          · have hn : foreign (nth x.orders (nth r.visits k).order.toNat).now r.typ = false := by simp only [Classical.not_not] at h4; simp [foreign, h4]
            refine awp_drawnA mixed (by kernel_rfl) (by kernel_rfl) ?_
            simp (disch := omega) only [go_sem, seval, reduceCtorEq, ↓reduceIte]
            refine aguard_t (fun h5 => ?_) (fun h5 => ?_) <;> (try simp only [decide_eq_true_eq, decide_eq_false_iff_not] at h5) <;> simp (disch := omega) only [Sh.out h5, go_sem, seval, reduceCtorEq, ↓reduceIte]
            · refine acond_b (fun h6 => ?_) (fun h6 => ?_) <;> (try simp only [decide_eq_true_eq, decide_eq_false_iff_not] at h6) <;> simp (disch := omega) only [Sh.out h6, go_sem, seval, reduceCtorEq, ↓reduceIte]
              · have hl2 : foreign (nth x.orders (nth r.visits k).order.toNat).last r.typ = true := by simp [foreign, h5, h6]
                exact ⟨k + 1, by omega, by omega, Weak.mk (by simp (disch := omega) only [instO, rteO, typO, scoO, hcs, if_pos h2', hn, hl2, Int.add_zero, Bool.false_eq_true, go_sem, seval, reduceCtorEq, ↓reduceIte])⟩
              · have hl2 : foreign (nth x.orders (nth r.visits k).order.toNat).last r.typ = false := by simp only [Classical.not_not] at h6; simp [foreign, h6]
                exact ⟨k + 1, by omega, by omega, Weak.mk (by simp (disch := omega) only [instO, rteO, typO, scoO, hcs, if_pos h2', hn, hl2, Int.add_zero, Bool.false_eq_true, go_sem, seval, reduceCtorEq, ↓reduceIte])⟩
            · have hl2 : foreign (nth x.orders (nth r.visits k).order.toNat).last r.typ = false := by simp only [Classical.not_not] at h5; simp [foreign, h5]
              exact ⟨k + 1, by omega, by omega, Weak.mk (by simp (disch := omega) only [instO, rteO, typO, scoO, hcs, if_pos h2', hn, hl2, Int.add_zero, Bool.false_eq_true, go_sem, seval, reduceCtorEq, ↓reduceIte])⟩
        · have hn : foreign (nth x.orders (nth r.visits k).order.toNat).now r.typ = false := by simp only [Classical.not_not] at h3; simp [foreign, h3]
          refine awp_drawnA mixed (by kernel_rfl) (by kernel_rfl) ?_
          simp (disch := omega) only [go_sem, seval, reduceCtorEq, ↓reduceIte]
          refine aguard_t (fun h5 => ?_) (fun h5 => ?_) <;> (try simp only [decide_eq_true_eq, decide_eq_false_iff_not] at h5) <;> simp (disch := omega) only [Sh.out h5, go_sem, seval, reduceCtorEq, ↓reduceIte]
          · refine acond_b (fun h6 => ?_) (fun h6 => ?_) <;> (try simp only [decide_eq_true_eq, decide_eq_false_iff_not] at h6) <;> simp (disch := omega) only [Sh.out h6, go_sem, seval, reduceCtorEq, ↓reduceIte]
            · have hl2 : foreign (nth x.orders (nth r.visits k).order.toNat).last r.typ = true := by simp [foreign, h5, h6]
              exact ⟨k + 1, by omega, by omega, Weak.mk (by simp (disch := omega) only [instO, rteO, typO, scoO, hcs, if_pos h2', hn, hl2, Int.add_zero, Bool.false_eq_true, go_sem, seval, reduceCtorEq, ↓reduceIte])⟩
            · have hl2 : foreign (nth x.orders (nth r.visits k).order.toNat).last r.typ = false := by simp only [Classical.not_not] at h6; simp [foreign, h6]
              exact ⟨k + 1, by omega, by omega, Weak.mk (by simp (disch := omega) only [instO, rteO, typO, scoO, hcs, if_pos h2', hn, hl2, Int.add_zero, Bool.false_eq_true, go_sem, seval, reduceCtorEq, ↓reduceIte])⟩
          · have hl2 : foreign (nth x.orders (nth r.visits k).order.toNat).last r.typ = false := by simp only [Classical.not_not] at h5; simp [foreign, h5]
            exact ⟨k + 1, by omega, by omega, Weak.mk (by simp (disch := omega) only [instO, rteO, typO, scoO, hcs, if_pos h2', hn, hl2, Int.add_zero, Bool.false_eq_true, go_sem, seval, reduceCtorEq, ↓reduceIte])⟩
    · have hkl : k = r.visits.length := by omega
      subst hkl
      rfl
end Go.Proofs.YtcllkjiebfmjpaaGreatDoor.K
