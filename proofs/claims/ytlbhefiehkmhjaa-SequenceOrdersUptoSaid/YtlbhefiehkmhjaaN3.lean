/- Plain mathematics of sequences: what a right instance gives; the two checks agree; right visits are those that grow. -/
import Derived.Test.YtlbhefiehkmhjaaQ13
set_option linter.unusedVariables false
set_option linter.unusedSimpArgs false
namespace Go.Proofs.Ytlbhefiehkmhjaa.K
open Go Go.AM Go.Proofs

/-- what of a right instance the sequences need -/
structure IFacts (x : Inst) : Prop where
  len : x.orders.length ≤ 10
  plc : Plc x
  vne : Vne x
  val : Val x.orders.length x.before
  ne : ∀ p ∈ x.before, p.1 ≠ p.2
  aval : Val x.orders.length x.apart

theorem flt_ok {n : Int} {word : List UInt8} {sm : Int × Int → Int × Int → Bool} {l : List (Int × Int)} (h : fltU n word sm l l.length = []) : ∀ p ∈ l, okP n p = true := by
  intro p hp
  obtain ⟨i, hi, rfl⟩ := List.mem_iff_getElem.1 hp
  have h2 := (List.append_eq_nil_iff.1 h).2
  rw [List.flatMap_eq_nil_iff] at h2
  have h3 := h2 i (by simpa using hi)
  rw [flt, nth_get hi] at h3
  cases h4 : okP n l[i] with
  | true => rfl
  | false => rw [h4] at h3; simp at h3
theorem instFacts {x : Inst} (h : InstOk x) : IFacts x := by
  have ho := h.orders
  obtain ⟨h1, h2⟩ := List.append_eq_nil_iff.1 h.rules
  have ha := flt_ok h1
  have hb := flt_ok h2
  have hpl : Plc x := fun o hm => by
    obtain ⟨i, hi, rfl⟩ := List.mem_iff_getElem.1 hm
    have := ho.2 i hi
    rw [← nth_get hi]
    exact ⟨this.pick.1, this.drp.1⟩
  have val : ∀ l : List (Int × Int), (∀ p ∈ l, okP x.orders.length p = true) → Val x.orders.length l := fun l h p hp => by
    have := h p hp
    simp [okP] at this; omega
  refine ⟨ho.1, hpl, fun i hi => ?_, val _ hb, fun p hp => ?_, val _ ha⟩
  · have h3 := ho.2 i hi
    have h4 := hpl _ (nth_mem hi)
    have h5 := h3.one
    unfold visO
    by_cases h6 : 0 ≤ (nth x.orders i).pick.place
    · simp [h6]
    · have : 0 ≤ (nth x.orders i).drp.place := by omega
      simp [this]
  · have := hb p hp
    simp [okP] at this; exact this.2

theorem hasO_iff {l : List Vis} {o : Int} : hasO l o = true ↔ ∃ v ∈ l, v.order = o := by simp [hasO]
theorem ordS_bit : ∀ (l : List Vis) (i : Nat), (ordS l).testBit i = true ↔ ∃ v ∈ l, v.order.toNat = i := by
  have key : ∀ (l : List Vis) (s i : Nat), (l.foldl (fun s v => s ||| pw v.order.toNat) s).testBit i = true ↔ s.testBit i = true ∨ ∃ v ∈ l, v.order.toNat = i := by
    intro l
    induction l with
    | nil => intro s i; simp
    | cons v l ih =>
      intro s i
      rw [List.foldl_cons, ih, Nat.testBit_or, testBit_pw, Bool.or_eq_true, decide_eq_true_eq, or_assoc]
      refine or_congr Iff.rfl ?_
      constructor
      · rintro (h | ⟨w, hw, h⟩)
        · exact ⟨v, by simp, h⟩
        · exact ⟨w, by simp [hw], h⟩
      · rintro ⟨w, hw, h⟩
        rcases List.mem_cons.1 hw with rfl | hw
        · exact .inl h
        · exact .inr ⟨w, hw, h⟩
  intro l i
  rw [ordS, key]
  simp
def Inr (x : Inst) (l : List Vis) : Prop := ∀ v ∈ l, 0 ≤ v.order ∧ v.order < x.orders.length
theorem ordS_has {x : Inst} {l : List Vis} (hi : Inr x l) (hn : x.orders.length ≤ 60) (o : Int) (h : 0 ≤ o ∧ o ≤ 62) : nHas (ordS l) o = hasO l o := by
  rw [Bool.eq_iff_iff, nHas_iff, ordS_bit, hasO_iff]
  constructor
  · rintro ⟨h1, h2, v, hv, h3⟩
    have := hi v hv
    exact ⟨v, hv, by omega⟩
  · rintro ⟨v, hv, rfl⟩
    exact ⟨h.1, h.2, v, hv, rfl⟩

theorem vIx_at {l : List Vis} (hd : l.Nodup) {k : Nat} (hk : k < l.length) : vIx l (nth l k) = (k : Int) := by
  refine fIx_at hk (by simp) fun j hj => ?_
  have : nth l k ≠ nth l j := by
    rw [nth_get hk, nth_get (by omega)]
    exact fun e => (List.pairwise_iff_getElem.1 hd) j k (by omega) hk hj e.symm
  simpa using this
theorem vIx_get {l : List Vis} {v : Vis} (h : 0 ≤ vIx l v) : (vIx l v).toNat < l.length ∧ nth l (vIx l v).toNat = v := by
  have hl := fIx_lt (f := fun w => decide (v = w)) (l := l)
  unfold vIx fIx at h ⊢
  cases hv : l.findIdx? (fun u => decide (v = u)) with
  | none => rw [hv] at h; simp at h
  | some i =>
    rw [List.findIdx?_eq_some_iff_getElem] at hv
    obtain ⟨h1, h2, _⟩ := hv
    simp at h2
    exact ⟨by simpa using h1, by simp [nth_get h1, h2]⟩
theorem vIx_le {l : List Vis} {k : Nat} (hk : k < l.length) : 0 ≤ vIx l (nth l k) ∧ vIx l (nth l k) ≤ (k : Int) := by
  have hm : 0 ≤ vIx l (nth l k) := vIx_mem.2 (nth_mem hk)
  refine ⟨hm, ?_⟩
  unfold vIx fIx at hm ⊢
  cases hv : l.findIdx? (fun u => decide (nth l k = u)) with
  | none => rw [hv] at hm; simp at hm
  | some i =>
    rw [List.findIdx?_eq_some_iff_getElem] at hv
    obtain ⟨h1, h2, h3⟩ := hv
    simp
    rcases Nat.lt_or_ge k i with h4 | h4
    · have := h3 k h4
      rw [← nth_get hk] at this
      simp at this
    · exact h4
theorem take_mem {l : List Vis} {v : Vis} {i : Nat} (h : v ∈ l.take i) : ∃ j, j < i ∧ j < l.length ∧ nth l j = v := by
  obtain ⟨j, hj, rfl⟩ := List.mem_iff_getElem.1 h
  simp at hj
  exact ⟨j, by omega, by omega, by rw [List.getElem_take, nth_get (by omega)]⟩
theorem mem_take {l : List Vis} {i j : Nat} (h : j < i) (hl : j < l.length) : nth l j ∈ l.take i := by
  rw [nth_get hl]
  exact List.mem_iff_getElem.2 ⟨j, by simp; omega, by simp⟩
theorem twiceB_iff {l : List Vis} : twiceB l = false ↔ l.Nodup := by
  rw [twiceB, List.any_eq_false]
  constructor
  · intro h
    rw [List.nodup_iff_pairwise_ne, List.pairwise_iff_getElem]
    intro i j hi hj hij e
    have := h j (by simpa using hj)
    simp only [decide_eq_true_eq, vIx_mem] at this
    refine this ?_
    rw [nth_get hj, ← e, ← nth_get hi]
    exact mem_take hij hi
  · intro h j hj
    simp only [decide_eq_true_eq, vIx_mem]
    intro hm
    obtain ⟨i, h1, h2, h3⟩ := take_mem hm
    have hj2 : j < l.length := by simpa using hj
    have e1 := vIx_at h h2
    have e2 := vIx_at h hj2
    rw [h3] at e1
    omega
theorem twice_ref {l : List Vis} : ((List.range l.length).any fun i => decide (vIx l (nth l i) ≠ (i : Int))) = twiceB l := by
  rw [Bool.eq_iff_iff]
  constructor
  · intro h
    rw [List.any_eq_true] at h
    obtain ⟨i, hi, h2⟩ := h
    cases ht : twiceB l with
    | true => rfl
    | false => have := vIx_at (twiceB_iff.1 ht) (by simpa using hi); simp [this] at h2
  · intro h
    rw [twiceB, List.any_eq_true] at h
    obtain ⟨j, hj, h2⟩ := h
    simp only [decide_eq_true_eq, vIx_mem] at h2
    obtain ⟨i, h3, h4, h5⟩ := take_mem h2
    rw [List.any_eq_true]
    refine ⟨j, hj, ?_⟩
    have := (vIx_le h4).2
    rw [h5] at this
    simp only [ne_eq, decide_not, Bool.not_eq_true', decide_eq_false_iff_not]
    omega

/-- the first place of an order -/
def oIx (l : List Vis) (b : Int) : Int := fIx (fun v => decide (v.order = b)) l
theorem oIx_mem {l : List Vis} {b : Int} : 0 ≤ oIx l b ↔ ∃ v ∈ l, v.order = b := by
  have := fIx_ge (f := fun v => decide (v.order = b)) (l := l)
  rw [← hasO_iff, hasO, ← this, oIx]; simp
theorem oIx_get {l : List Vis} {b : Int} (h : 0 ≤ oIx l b) : (oIx l b).toNat < l.length ∧ (nth l (oIx l b).toNat).order = b ∧ ∀ j, j < (oIx l b).toNat → (nth l j).order ≠ b := by
  unfold oIx fIx at h ⊢
  cases hv : l.findIdx? (fun v => decide (v.order = b)) with
  | none => rw [hv] at h; simp at h
  | some i =>
    rw [List.findIdx?_eq_some_iff_getElem] at hv
    obtain ⟨h1, h2, h3⟩ := hv
    simp at h2
    refine ⟨by simpa using h1, by simpa [nth_get h1] using h2, fun j hj => ?_⟩
    have hj2 : j < i := by simpa using hj
    have := h3 j hj2
    rw [nth_get (by omega)]
    simpa using this
theorem oIx_le {l : List Vis} {b : Int} {k : Nat} (hk : k < l.length) (h : (nth l k).order = b) : 0 ≤ oIx l b ∧ oIx l b ≤ (k : Int) := by
  have h0 : 0 ≤ oIx l b := oIx_mem.2 ⟨_, nth_mem hk, h⟩
  refine ⟨h0, ?_⟩
  obtain ⟨h1, h2, h3⟩ := oIx_get h0
  rcases Nat.lt_or_ge k (oIx l b).toNat with h4 | h4
  · exact absurd h (h3 k h4)
  · omega
/-- a pair is in order: all visits of its first order stand before the first one of its second -/
theorem beforeB_iff {l : List Vis} {a b : Int} : beforeB l a b = true ↔ (0 ≤ oIx l b → (∃ v ∈ l, v.order = a) ∧ ∀ j, j < l.length → (nth l j).order = a → (j : Int) < oIx l b) := by
  unfold beforeB
  rw [show fIx (fun v => decide (v.order = b)) l = oIx l b from rfl]
  by_cases h : oIx l b < 0
  · rw [if_pos h]
    exact ⟨fun _ h2 => by omega, fun _ => rfl⟩
  · rw [if_neg h, Bool.and_eq_true, hasO_iff]
    have h0 : 0 ≤ oIx l b := by omega
    obtain ⟨h1, h2, h3⟩ := oIx_get h0
    have hd : (!hasO (l.drop (oIx l b).toNat) a) = true ↔ ∀ j, j < l.length → (nth l j).order = a → (j : Int) < oIx l b := by
      rw [Bool.not_eq_true', ← Bool.not_eq_true, hasO_iff]
      constructor
      · intro hno j hj e
        rcases Int.lt_or_le (j : Int) (oIx l b) with h4 | h4
        · exact h4
        · refine absurd ⟨nth l j, ?_, e⟩ hno
          rw [nth_get hj]
          exact List.mem_iff_getElem.2 ⟨j - (oIx l b).toNat, by simp; omega, by simp; congr 1; omega⟩
      · rintro hall ⟨v, hv, e⟩
        obtain ⟨j, hj, rfl⟩ := List.mem_iff_getElem.1 hv
        simp at hj
        rw [List.getElem_drop] at e
        have := hall ((oIx l b).toNat + j) (by omega) (by rw [nth_get (by omega)]; exact e)
        omega
    rw [hd]
    exact ⟨fun h _ => h, fun h => h h0⟩
theorem before_ref {x : Inst} {l : List Vis} (hi : Inr x l) (hn : x.orders.length ≤ 60) {p : Int × Int} (h1 : 0 ≤ p.1 ∧ p.1 < x.orders.length) (h2 : 0 ≤ p.2 ∧ p.2 < x.orders.length) (hne : p.1 ≠ p.2) : rbefB (ordS l) l p = beforeB l p.1 p.2 := by
  rw [Bool.eq_iff_iff, beforeB_iff, rbefB, ordS_has hi hn _ (by omega), ordS_has hi hn _ (by omega)]
  simp only [Bool.or_eq_true, Bool.not_eq_true', Bool.and_eq_true]
  rw [← Bool.not_eq_true, hasO_iff, hasO_iff, ← oIx_mem, ← oIx_mem (b := p.1)]
  constructor
  · rintro (h | ⟨h3, h4⟩) h0
    · exact absurd h0 h
    · refine ⟨h3, fun j hj e => ?_⟩
      rw [List.all_eq_true] at h4
      have h5 := h4 j (by simpa using hj)
      rw [List.all_eq_true] at h5
      obtain ⟨g1, g2, g3⟩ := oIx_get h0
      rcases Int.lt_or_le (j : Int) (oIx l p.2) with h6 | h6
      · exact h6
      · have hne2 : j ≠ (oIx l p.2).toNat := fun e2 => hne (by rw [← e, e2]; exact g2)
        have := h5 (oIx l p.2).toNat (by simp; omega)
        simp [lateB, e, g2] at this
  · intro h
    by_cases h0 : 0 ≤ oIx l p.2
    · obtain ⟨h3, h4⟩ := h h0
      refine .inr ⟨h3, ?_⟩
      rw [List.all_eq_true]
      intro j hj
      rw [List.all_eq_true]
      intro k hk
      simp at hj hk
      cases hb : lateB l p.1 p.2 j k with
      | false => rfl
      | true =>
        simp [lateB] at hb
        have h5 := h4 j hj hb.1
        have h6 := (oIx_le (by omega) hb.2).2
        omega
    · exact .inl h0

theorem rchk_eq {x : Inst} (hf : IFacts x) (l : List Vis) : rchk x l = seqChk x l := by
  by_cases ho : l.any (outB x) = true
  · rw [rchk, if_pos ho, seqChk, if_pos (.inr ho)]
  · have ho' : l.any (outB x) = false := by simpa using ho
    have hi : Inr x l := fun v hv => by
      rw [List.any_eq_false] at ho'
      simpa [outB] using ho' v hv
    have hn : x.orders.length ≤ 60 := by have := hf.len; omega
    rw [rchk, if_neg ho, seqChk]
    by_cases h0 : l.length = 0
    · rw [if_pos h0, if_pos (.inl h0)]
    · have hc : ¬ (l.length = 0 ∨ l.any (outB x) = true) := fun h => h.elim h0 ho
      rw [if_neg h0, if_neg hc, twice_ref]
      have e1 : apB x (ordS l) = x.apart.any fun p => hasO l p.1 && hasO l p.2 := by
        rw [apB, Bool.eq_iff_iff, List.any_eq_true, List.any_eq_true]
        have : ∀ p ∈ x.apart, (nHas (ordS l) p.1 && nHas (ordS l) p.2) = (hasO l p.1 && hasO l p.2) := fun p hp => by
          have := hf.aval p hp
          rw [ordS_has hi hn _ (by omega), ordS_has hi hn _ (by omega)]
        exact ⟨fun ⟨p, hp, h⟩ => ⟨p, hp, by rw [← this p hp]; exact h⟩, fun ⟨p, hp, h⟩ => ⟨p, hp, by rw [this p hp]; exact h⟩⟩
      have e2 : (x.before.all (rbefB (ordS l) l) = false) = ((x.before.any fun p => !beforeB l p.1 p.2) = true) := by
        have : ∀ p ∈ x.before, rbefB (ordS l) l p = beforeB l p.1 p.2 := fun p hp => by
          have := hf.val p hp
          exact before_ref hi hn (by omega) (by omega) (hf.ne p hp)
        rw [List.all_eq_false, List.any_eq_true]
        simp only [eq_iff_iff]
        exact ⟨fun ⟨p, hp, h⟩ => ⟨p, hp, by rw [← this p hp]; simpa using h⟩, fun ⟨p, hp, h⟩ => ⟨p, hp, by rw [this p hp]; simpa using h⟩⟩
      rw [e1]
      simp only [e2]
end Go.Proofs.Ytlbhefiehkmhjaa.K
