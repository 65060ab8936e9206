/- Plain mathematics of sequences: right visits are those that grow visit by visit. -/
import Derived.Test.YtlbhefiehkmhjaaN3
set_option linter.unusedVariables false
set_option linter.unusedSimpArgs false
namespace Go.Proofs.Ytlbhefiehkmhjaa.K
open Go Go.AM Go.Proofs

structure RightV (x : Inst) (l : List Vis) : Prop where
  ne : l ≠ []
  inr : Inr x l
  off : ∀ v ∈ l, (nth x.orders v.order.toNat).off = false
  nodup : l.Nodup
  pair : ∀ v ∈ l, pairB x.orders l v = true
  apart : ∀ p ∈ x.apart, ¬ (hasO l p.1 = true ∧ hasO l p.2 = true)
  before : ∀ p ∈ x.before, beforeB l p.1 p.2 = true
theorem right_iff {x : Inst} {l : List Vis} : seqChk x l = 0 ↔ RightV x l := by
  unfold seqChk
  rw [ite_imp (by omega), ite_imp (by omega), ite_imp (by omega), ite_imp (by omega), ite_imp (by omega), ite_imp (by omega)]
  simp only [and_true, Bool.not_eq_true, twiceB_iff]
  have hin : l.any (outB x) = false ↔ Inr x l := by
    rw [List.any_eq_false]
    exact ⟨fun h v hv => by simpa [outB] using h v hv, fun h v hv => by simpa [outB] using h v hv⟩
  constructor
  · rintro ⟨h1, h2, h3, h4, h5, h6⟩
    rw [not_or, Bool.not_eq_true, hin] at h1
    rw [List.any_eq_false] at h2 h5 h6
    refine ⟨fun e => h1.1 (by rw [e]; rfl), h1.2, fun v hv => by simpa using h2 v hv, h3, ?_, fun p hp => by simpa using h5 p hp, fun p hp => by simpa using h6 p hp⟩
    have : l.all (pairB x.orders l) = true := by simpa using h4
    exact List.all_eq_true.1 this
  · intro h
    refine ⟨?_, ?_, h.nodup, ?_, ?_, ?_⟩
    · rw [not_or, Bool.not_eq_true, hin]
      exact ⟨fun e => h.ne (List.eq_nil_of_length_eq_zero e), h.inr⟩
    · rw [List.any_eq_false]; intro v hv; simp [h.off v hv]
    · rw [List.all_eq_true.2 h.pair]; simp
    · rw [List.any_eq_false]; intro p hp; simpa using h.apart p hp
    · rw [List.any_eq_false]; intro p hp; simpa using h.before p hp

theorem pairB_iff {os : List Ord} {l : List Vis} {v : Vis} {i : Nat} (h : v.order = (i : Int)) : pairB os l v = true ↔ v ∈ visO os i ∧ (∀ w ∈ visO os i, w ∈ l) ∧ ((⟨i, false⟩ : Vis) ∈ visO os i → (⟨i, true⟩ : Vis) ∈ visO os i → vIx l ⟨i, false⟩ < vIx l ⟨i, true⟩) := by
  rw [pairB, h, Int.toNat_natCast, Bool.and_eq_true, decide_eq_true_eq, vIx_mem]
  refine and_congr Iff.rfl ?_
  have hm : ∀ w : Vis, -1 < vIx l w ↔ w ∈ l := fun w => by rw [← vIx_mem]; omega
  rcases visO_cases os i with e | e | e | e <;> rw [e]
  · simp [ascB]
  · simp [ascB, hm]
  · simp [ascB, hm]
  · simp only [ascB, Bool.and_true, Bool.and_eq_true, decide_eq_true_eq, hm, List.mem_cons, List.not_mem_nil, or_false, forall_eq_or_imp, forall_eq]
    constructor
    · rintro ⟨h1, h2⟩
      exact ⟨⟨h1, vIx_mem.1 (by have := vIx_mem.2 h1; omega)⟩, fun _ _ => h2⟩
    · rintro ⟨⟨h1, _⟩, h2⟩
      exact ⟨h1, h2 (by simp) (by simp)⟩

section
variable {x : Inst} {l : List Vis}
theorem RightV.bit (h : RightV x l) (i : Nat) : (ordS l).testBit i = true ↔ ∃ v ∈ l, v.order = (i : Int) := by
  rw [ordS_bit]
  exact ⟨fun ⟨v, hv, e⟩ => ⟨v, hv, by have := h.inr v hv; omega⟩, fun ⟨v, hv, e⟩ => ⟨v, hv, by omega⟩⟩
theorem RightV.lt (h : RightV x l) (hf : IFacts x) : ordS l < 9223372036854775808 ∧ ordS l / pw x.orders.length = 0 := by
  have h1 : ordS l < 9223372036854775808 := by
    have := ordS_lt l.length (l := l) (Nat.le_refl _) (fun v hv => by
      rw [List.take_length] at hv
      have := h.inr v hv
      have := hf.len
      simp [inS]; omega)
    rwa [List.take_length] at this
  refine ⟨h1, bits_zero h1 fun j _ hj => ?_⟩
  obtain ⟨v, hv, e⟩ := (h.bit j).1 hj
  have := h.inr v hv
  omega
theorem RightV.ord (h : RightV x l) (hf : IFacts x) : ordR l = (((ordS l : Nat) : Int), 0) := by
  rw [ordR, if_pos]
  rw [List.all_eq_true]
  intro v hv
  have := h.inr v hv
  have := hf.len
  simp [inS]; omega
theorem RightV.pairs (h : RightV x l) {v : Vis} (hv : v ∈ l) : ∃ i : Nat, v.order = (i : Int) ∧ i < x.orders.length ∧ v ∈ visO x.orders i ∧ (∀ w ∈ visO x.orders i, w ∈ l) ∧ ((⟨i, false⟩ : Vis) ∈ visO x.orders i → (⟨i, true⟩ : Vis) ∈ visO x.orders i → vIx l ⟨i, false⟩ < vIx l ⟨i, true⟩) := by
  have h1 := h.inr v hv
  have e : v.order = (v.order.toNat : Int) := by omega
  exact ⟨v.order.toNat, e, by omega, (pairB_iff e).1 (h.pair v hv)⟩
theorem RightV.step (h : RightV x l) {a b : Nat} (hE : Ed x.before a b) (hb : 0 ≤ oIx l b) : 0 ≤ oIx l a ∧ oIx l a < oIx l b := by
  obtain ⟨p, hp, e1, e2⟩ := hE
  have hbe := beforeB_iff.1 (h.before p hp)
  rw [e1, e2] at hbe
  obtain ⟨h1, h2⟩ := hbe hb
  have h0 := oIx_mem.2 h1
  obtain ⟨g1, g2, _⟩ := oIx_get h0
  have := h2 _ g1 g2
  exact ⟨h0, by omega⟩
theorem RightV.chain (h : RightV x l) {a b : Nat} (hc : Ch x.before a b) (hb : 0 ≤ oIx l b) : 0 ≤ oIx l a ∧ oIx l a < oIx l b := by
  induction hc with
  | one hE => exact h.step hE hb
  | more _ hE ih =>
    have h1 := h.step hE hb
    have h2 := ih h1.1
    exact ⟨h2.1, by omega⟩
theorem RightV.alw (h : RightV x l) (hf : IFacts x) : Alw x (ordS l) := by
  have hn : x.orders.length ≤ 60 := by have := hf.len; omega
  refine ⟨fun i hi hb => ?_, ?_, fun p hp hb => ?_, fun i hi hb hc => ?_⟩
  · obtain ⟨v, hv, e⟩ := (h.bit i).1 hb
    have := h.off v hv
    rwa [e, Int.toNat_natCast] at this
  · rw [apB, List.any_eq_false]
    intro p hp
    have hv := hf.aval p hp
    rw [ordS_has h.inr hn _ (by omega), ordS_has h.inr hn _ (by omega), Bool.and_eq_true]
    exact h.apart p hp
  · have hv := hf.val p hp
    rw [ordS_has h.inr hn _ (by omega)] at hb ⊢
    rw [hasO_iff] at hb ⊢
    exact (beforeB_iff.1 (h.before p hp) (oIx_mem.2 hb)).1
  · have hb2 := oIx_mem.2 ((h.bit i).1 hb)
    have := (h.chain hc hb2).2
    omega
theorem RightV.gr (h : RightV x l) (hf : IFacts x) : ∀ k, k ≤ l.length → Gr x (ordS l) (l.take k)
  | 0, _ => by simpa using Gr.nil
  | k + 1, hk => by
    have hk2 : k < l.length := by omega
    have ih := h.gr hf k (by omega)
    have e : l.take (k + 1) = l.take k ++ [nth l k] := by rw [List.take_succ_eq_append_getElem hk2, nth_get hk2]
    rw [e]
    obtain ⟨i, e1, hi, h1, h2, h3⟩ := h.pairs (nth_mem hk2)
    refine .snoc ih (mem_next.2 ⟨i, hi, (h.bit i).2 ⟨_, nth_mem hk2, e1⟩, ?_, h1, (readyB_iff h1).2 ⟨?_, ?_, ?_⟩⟩)
    · have := h.off _ (nth_mem hk2)
      rwa [e1, Int.toNat_natCast] at this
    · intro hm
      obtain ⟨j, j1, j2, j3⟩ := take_mem hm
      have q1 := vIx_at h.nodup j2
      have q2 := vIx_at h.nodup hk2
      rw [j3] at q1; omega
    · intro hd hq
      have e2 : nth l k = ⟨i, true⟩ := by rw [vis_eq]; exact ⟨e1, hd⟩
      have h4 := h3 hq (by rw [← e2]; exact h1)
      rw [← e2, vIx_at h.nodup hk2] at h4
      have h5 := vIx_mem.2 (h2 _ hq)
      obtain ⟨g1, g2⟩ := vIx_get h5
      rw [← g2]
      exact mem_take (by omega) g1
    · intro p hp hpe w hw
      obtain ⟨v1, v2, v3, v4⟩ := hf.val p hp
      have hoi := oIx_le hk2 e1
      have hbe := beforeB_iff.1 (h.before p hp)
      rw [hpe] at hbe
      obtain ⟨⟨v, hv, ev⟩, h5⟩ := hbe hoi.1
      obtain ⟨a, a1, a2, a3, a4, a5⟩ := h.pairs hv
      have : a = p.1.toNat := by omega
      subst this
      have hwl := a4 w hw
      obtain ⟨g1, g2⟩ := vIx_get (vIx_mem.2 hwl)
      have h6 := h5 _ g1 (by rw [g2, visO_order hw]; omega)
      rw [← g2]
      exact mem_take (by omega) g1
theorem RightV.len (h : RightV x l) (hf : IFacts x) : l.length = totU x (ordS l) x.orders.length := by
  have h1 := h.gr hf l.length (Nat.le_refl _)
  rw [List.take_length] at h1
  have h2 := h1.len
  have h3 : ∀ v ∈ allV x (ordS l) x.orders.length, v ∈ l := fun v hv => by
    obtain ⟨i, i1, i2, i3⟩ := mem_allV.1 hv
    obtain ⟨w, hw, e⟩ := (h.bit i).1 i2
    obtain ⟨a, a1, a2, a3, a4, a5⟩ := h.pairs hw
    have : a = i := by omega
    subst this
    exact a4 v i3
  have h4 := sub_len (allV_nodup _ _ _) h3
  rw [allV_len] at h4
  omega

theorem Gr.at {S : Nat} (h : Gr x S l) : ∀ k, k < l.length → nth l k ∈ nextU x S (l.take k) x.orders.length := by
  induction h with
  | nil => simp
  | snoc h hv ih =>
    rename_i l v
    intro k hk
    simp at hk
    rcases Nat.lt_or_ge k l.length with h2 | h2
    · have e1 : nth (l ++ [v]) k = nth l k := by rw [nth_get (by simp; omega), nth_get h2, List.getElem_append_left h2]
      rw [e1, List.take_append_of_le_length (by omega)]
      exact ih k h2
    · have : k = l.length := by omega
      subst this
      have e1 : nth (l ++ [v]) l.length = v := by rw [nth_get (by simp)]; simp
      rw [e1, List.take_append_of_le_length (Nat.le_refl _), List.take_length]
      exact hv
theorem Gr.right {S : Nat} (h : Gr x S l) (hf : IFacts x) (ha : Alw x S) (h0 : S ≠ 0) (hS : S / pw x.orders.length = 0) (hl : l.length = totU x S x.orders.length) : RightV x l ∧ ordS l = S := by
  have hn : x.orders.length ≤ 60 := by have := hf.len; omega
  have hfull := h.full hl
  have hsub : ∀ v ∈ l, ∃ i : Nat, v.order = (i : Int) ∧ i < x.orders.length ∧ S.testBit i = true ∧ v ∈ visO x.orders i := fun v hv => by
    obtain ⟨i, i1, i2, i3⟩ := mem_allV.1 (h.sub v hv)
    exact ⟨i, visO_order i3, i1, i2, i3⟩
  have hinr : Inr x l := fun v hv => by obtain ⟨i, e, i1, _, _⟩ := hsub v hv; omega
  have hgo : ∀ k, k < l.length → ∃ i : Nat, (nth l k).order = (i : Int) ∧ nth l k ∈ visO x.orders i ∧ nth l k ∉ l.take k ∧ ((nth l k).drp = true → (⟨i, false⟩ : Vis) ∈ visO x.orders i → (⟨i, false⟩ : Vis) ∈ l.take k) ∧ ∀ p ∈ x.before, p.2 = (i : Int) → ∀ w ∈ visO x.orders p.1.toNat, w ∈ l.take k := fun k hk => by
    obtain ⟨i, i1, i2, i3, i4, i5⟩ := mem_next.1 (h.at k hk)
    obtain ⟨r1, r2, r3⟩ := (readyB_iff i4).1 i5
    exact ⟨i, visO_order i4, i4, r1, r2, r3⟩
  have hbit : ordS l = S := Nat.eq_of_testBit_eq fun i => by
    rw [Bool.eq_iff_iff, ordS_bit]
    constructor
    · rintro ⟨v, hv, e⟩
      obtain ⟨j, j1, j2, j3, j4⟩ := hsub v hv
      have : i = j := by omega
      rw [this]; exact j3
    · intro hb
      have hi := bit_lt hS hb
      obtain ⟨w, hw⟩ := List.exists_mem_of_ne_nil _ (hf.vne i hi)
      have := visO_order hw
      exact ⟨w, hfull w (mem_allV.2 ⟨i, hi, hb, hw⟩), by omega⟩
  refine ⟨⟨fun e => ?_, hinr, fun v hv => ?_, h.nodup, fun v hv => ?_, fun p hp => ?_, fun p hp => ?_⟩, hbit⟩
  · have := tot_pos hf.vne hS h0
    rw [e] at hl; simp at hl; omega
  · obtain ⟨i, i1, i2, i3, i4⟩ := hsub v hv
    rw [i1, Int.toNat_natCast]; exact ha.off i i2 i3
  · obtain ⟨i, i1, i2, i3, i4⟩ := hsub v hv
    refine (pairB_iff i1).2 ⟨i4, fun w hw => hfull w (mem_allV.2 ⟨i, i2, i3, hw⟩), fun hq1 hq2 => ?_⟩
    have m2 := vIx_mem.2 (hfull _ (mem_allV.2 ⟨i, i2, i3, hq2⟩))
    obtain ⟨g1, g2⟩ := vIx_get m2
    obtain ⟨j, j1, j2, j3, j4, j5⟩ := hgo _ g1
    rw [g2] at j1 j4
    have : j = i := by simp at j1; omega
    subst this
    obtain ⟨q, q1, q2, q3⟩ := take_mem (j4 rfl hq1)
    have := (vIx_le q2).2
    rw [q3] at this
    omega
  · have := ha.apart
    rw [apB, List.any_eq_false] at this
    have h2 := this p hp
    have hv := hf.aval p hp
    rw [← hbit, ordS_has hinr hn _ (by omega), ordS_has hinr hn _ (by omega), Bool.and_eq_true] at h2
    exact h2
  · rw [beforeB_iff]
    intro hb
    have hv := hf.val p hp
    obtain ⟨g1, g2, g3⟩ := oIx_get hb
    obtain ⟨j, j1, j2, j3, j4, j5⟩ := hgo _ g1
    have hall := j5 p hp (by rw [← g2, j1])
    refine ⟨?_, fun q hq e => ?_⟩
    · obtain ⟨w, hw⟩ := List.exists_mem_of_ne_nil _ (hf.vne p.1.toNat (by omega))
      exact ⟨w, List.mem_of_mem_take (hall w hw), by rw [visO_order hw]; omega⟩
    · obtain ⟨i, i1, i2, i3, i4⟩ := hsub _ (nth_mem hq)
      have : i = p.1.toNat := by omega
      subst this
      obtain ⟨q2, r1, r2, r3⟩ := take_mem (hall _ i4)
      have e1 := vIx_at h.nodup r2
      have e2 := vIx_at h.nodup hq
      rw [r3] at e1
      omega
end
end Go.Proofs.Ytlbhefiehkmhjaa.K
