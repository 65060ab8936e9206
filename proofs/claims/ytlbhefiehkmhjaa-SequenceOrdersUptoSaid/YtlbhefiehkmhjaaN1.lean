/- Plain mathematics of sequences: which sets are allowed, and what can follow. -/
import Derived.Test.YtlbhefiehkmhjaaQ7
import Derived.Test.YtlbhefiehkmhjaaQ9
set_option linter.unusedVariables false
set_option linter.unusedSimpArgs false
namespace Go.Proofs.Ytlbhefiehkmhjaa.K
open Go Go.AM Go.Proofs

theorem sHas_n (S : Nat) (i : Int) : sHas (S : Int) i = nHas S i := by
  by_cases h : 0 ≤ i ∧ i ≤ 62
  · obtain ⟨k, rfl⟩ : ∃ k : Nat, i = (k : Int) := ⟨i.toNat, by omega⟩
    rw [sHas_nat S k (by omega), nHas_nat (by omega)]
  · have h2 : nHas S i = false := by simp only [nHas, h, decide_false, Bool.false_and]
    rw [h2, sHas]
    by_cases h3 : 0 ≤ i
    · have : ¬ i ≤ 62 := by omega
      simp [this]
    · simp [h3]
theorem nHas_iff {S : Nat} {i : Int} : nHas S i = true ↔ 0 ≤ i ∧ i ≤ 62 ∧ S.testBit i.toNat = true := by simp [nHas, and_assoc]
theorem bit_lt {S n i : Nat} (h : S / pw n = 0) (hi : S.testBit i = true) : i < n := by
  rcases Nat.lt_or_ge i n with h2 | h2
  · exact h2
  · have h3 : S < 2 ^ n := by
      have := (Nat.div_eq_zero_iff).1 h
      rcases this with h4 | h4
      · have := pw_pos n; omega
      · exact h4
    have h5 : S < 2 ^ i := Nat.lt_of_lt_of_le h3 (Nat.pow_le_pow_right (by omega) h2)
    rw [Nat.testBit_lt_two_pow h5] at hi
    cases hi

theorem memU_iff {S : Nat} {a : Int} : a ∈ memU (S : Int) 63 ↔ ∃ i : Nat, a = (i : Int) ∧ i < 63 ∧ S.testBit i = true := by
  simp only [memU, List.mem_map, List.mem_filter, List.mem_range]
  constructor
  · rintro ⟨i, ⟨h1, h2⟩, rfl⟩
    rw [sHas_nat S i (by omega)] at h2
    exact ⟨i, rfl, h1, h2⟩
  · rintro ⟨i, rfl, h1, h2⟩
    exact ⟨i, ⟨h1, by rw [sHas_nat S i (by omega)]; exact h2⟩, rfl⟩

/-- a set of orders that can be on one route -/
structure Alw (x : Inst) (S : Nat) : Prop where
  off : ∀ i, i < x.orders.length → S.testBit i = true → (nth x.orders i).off = false
  apart : apB x S = false
  closed : ∀ p ∈ x.before, nHas S p.2 = true → nHas S p.1 = true
  acyc : ∀ i, i < x.orders.length → S.testBit i = true → ¬ Ch x.before i i

theorem ite_imp {c : Prop} [Decidable c] {a b : Int} (ha : a ≠ 0) : (if c then a else b) = 0 ↔ ¬ c ∧ b = 0 := by
  by_cases h : c <;> simp [h, ha]
theorem allowed_iff {x : Inst} {S : Nat} (hn : x.orders.length ≤ 60) (hS : S / pw x.orders.length = 0) (hv : Val x.orders.length x.before) : allowed x.orders x.apart x.before (S : Int) = 0 ↔ Alw x S := by
  have hlt : ∀ i, S.testBit i = true → i < x.orders.length := fun i h => bit_lt hS h
  have e0 : ¬ (S : Int) < 0 := by omega
  unfold allowed
  rw [if_neg e0, ite_imp (by omega), ite_imp (by omega), ite_imp (by omega), ite_imp (by omega), ite_imp (by omega)]
  simp only [and_true]
  constructor
  · rintro ⟨_, h2, h3, h4, h5⟩
    simp only [Bool.not_eq_true] at h2 h3 h4 h5
    rw [List.any_eq_false] at h2 h4 h5
    refine ⟨fun i hi hb => ?_, ?_, fun p hp hb => ?_, fun i hi hb hc => ?_⟩
    · have := h2 (i : Int) (memU_iff.2 ⟨i, rfl, by omega, hb⟩)
      simpa using this
    · rw [apB]; simpa only [sHas_n] using h3
    · have := h4 p hp
      simp only [sHas_n, hb, Bool.true_and, Bool.not_eq_true, Bool.not_eq_false'] at this
      exact this
    · have := h5 (i : Int) (memU_iff.2 ⟨i, rfl, by omega, hb⟩)
      rw [Int.toNat_natCast, sHas_nat _ _ (by omega)] at this
      exact this ((cloOf_bit hv i i hi).2 hc)
  · rintro ⟨h1, h2, h3, h4⟩
    refine ⟨?_, ?_, ?_, ?_, ?_⟩
    · simp only [Bool.not_eq_true]
      rw [List.any_eq_false]
      intro a ha
      obtain ⟨i, rfl, h5, h6⟩ := memU_iff.1 ha
      have := hlt i h6
      simp; omega
    · simp only [Bool.not_eq_true]
      rw [List.any_eq_false]
      intro a ha
      obtain ⟨i, rfl, h5, h6⟩ := memU_iff.1 ha
      simp [h1 i (hlt i h6) h6]
    · simp only [sHas_n, Bool.not_eq_true]; exact h2
    · simp only [Bool.not_eq_true]
      rw [List.any_eq_false]
      intro p hp
      simp only [sHas_n]
      cases h5 : nHas S p.2
      · simp
      · simp [h3 p hp h5]
    · simp only [Bool.not_eq_true]
      rw [List.any_eq_false]
      intro a ha
      obtain ⟨i, rfl, h5, h6⟩ := memU_iff.1 ha
      rw [Int.toNat_natCast, sHas_nat _ _ (by omega), cloOf_bit hv i i (hlt i h6)]
      exact h4 i (hlt i h6) h6
theorem forb_iff {x : Inst} {S : Nat} (hn : x.orders.length ≤ 60) (hS : S / pw x.orders.length = 0) (hv : Val x.orders.length x.before) : forbB x S = false ↔ Alw x S := by
  unfold forbB
  rw [Bool.or_eq_false_iff, decide_eq_false_iff_not, Classical.not_not, allowed_iff hn hS hv]
  refine ⟨fun h => h.2, fun h => ⟨?_, h⟩⟩
  rw [List.any_eq_false]
  intro i hi
  cases hb : S.testBit i
  · simp
  · simp [h.off i (by simpa using hi) hb]

theorem filter_lt {f g : Nat → Bool} {b : Nat} : ∀ (l : List Nat), (∀ a, f a = true → g a = true) → f b = false → g b = true → b ∈ l → (l.filter f).length < (l.filter g).length
  | [], _, _, _, h => by simp at h
  | x :: l, hfg, hf, hg, h => by
    have hle : ∀ l : List Nat, (l.filter f).length ≤ (l.filter g).length := by
      intro l
      induction l with
      | nil => simp
      | cons y l ih =>
        simp only [List.filter_cons]
        cases hy : f y with
        | true => simp [hfg y hy]; exact ih
        | false =>
        simp only [Bool.false_eq_true, if_false]
        split
        · simp only [List.length_cons]; omega
        · omega
    simp only [List.filter_cons]
    rcases List.mem_cons.1 h with rfl | h
    · have := hle l
      simp [hf, hg]; omega
    · have := filter_lt l hfg hf hg h
      cases hy : f x with
      | true => simp [hfg x hy]; exact this
      | false =>
        simp only [Bool.false_eq_true, if_false]
        split
        · simp only [List.length_cons]; omega
        · omega

/-- among numbers without a chain back to themselves there is one before which none of them stands -/
theorem exists_min {n : Nat} {be : List (Int × Int)} (hv : Val n be) {P : Nat → Prop} (hP : ∀ i, P i → i < n ∧ ¬ Ch be i i) {i : Nat} (hi : P i) : ∃ i, P i ∧ ∀ p ∈ be, p.2 = (i : Int) → ¬ P p.1.toNat := by
  suffices h : ∀ (k i : Nat), P i → ((List.range n).filter fun a => (nth (cloOf n be) i).testBit a).length < k → ∃ i, P i ∧ ∀ p ∈ be, p.2 = (i : Int) → ¬ P p.1.toNat from h _ i hi (Nat.lt_succ_self _)
  intro k
  induction k with
  | zero => intro i _ h; omega
  | succ k ih =>
    intro i hi hk
    by_cases h : ∃ p ∈ be, p.2 = (i : Int) ∧ P p.1.toNat
    · obtain ⟨p, hp, h1, h2⟩ := h
      obtain ⟨v1, v2, v3, v4⟩ := hv p hp
      have hE : Ed be p.1.toNat i := ⟨p, hp, by omega, h1⟩
      refine ih p.1.toNat h2 (Nat.lt_of_lt_of_le (filter_lt (b := p.1.toNat) _ (fun a ha => ?_) ?_ ?_ ?_) (by omega : ((List.range n).filter fun a => (nth (cloOf n be) i).testBit a).length ≤ k))
      · exact (cloOf_bit hv a i (hP i hi).1).2 (((cloOf_bit hv a _ (hP _ h2).1).1 ha).more hE)
      · cases hb : (nth (cloOf n be) p.1.toNat).testBit p.1.toNat with
        | false => rfl
        | true => exact absurd ((cloOf_bit hv _ _ (hP _ h2).1).1 hb) (hP _ h2).2
      · exact (cloOf_bit hv _ i (hP i hi).1).2 (.one hE)
      · simpa using (hP _ h2).1
    · exact ⟨i, hi, fun p hp h1 h2 => h ⟨p, hp, h1, h2⟩⟩

theorem vIx_mem {l : List Vis} {v : Vis} : 0 ≤ vIx l v ↔ v ∈ l := by
  have := fIx_ge (f := fun w => decide (v = w)) (l := l)
  have h2 : (l.any fun w => decide (v = w)) = true ↔ v ∈ l := by
    rw [List.any_eq_true]
    exact ⟨fun ⟨w, hw, e⟩ => by simp at e; rw [e]; exact hw, fun h => ⟨v, h, by simp⟩⟩
  rw [← h2, ← this, vIx]; simp
theorem vIx_no {l : List Vis} {v : Vis} : vIx l v < 0 ↔ v ∉ l := by rw [← vIx_mem]; omega
theorem allIn_iff {l own : List Vis} : allIn l own = true ↔ ∀ w ∈ own, w ∈ l := by
  rw [allIn, List.all_eq_true]
  exact ⟨fun h w hw => vIx_mem.1 (by simpa using h w hw), fun h w hw => by simpa using vIx_mem.2 (h w hw)⟩
theorem befP_iff {os : List Ord} {l : List Vis} {o : Int} {p : Int × Int} : befP os l o p = true ↔ (p.2 = o → ∀ w ∈ visO os p.1.toNat, w ∈ l) := by
  rw [befP, Bool.or_eq_true, allIn_iff, decide_eq_true_eq]
  by_cases h : p.2 = o <;> simp [h]
theorem befs_iff {x : Inst} {l : List Vis} {o : Int} : x.before.all (befP x.orders l o) = true ↔ ∀ p ∈ x.before, p.2 = o → ∀ w ∈ visO x.orders p.1.toNat, w ∈ l := by
  rw [List.all_eq_true]
  exact ⟨fun h p hp => befP_iff.1 (h p hp), fun h p hp => befP_iff.2 (h p hp)⟩

/-- orders that are visited one after the other -/
inductive Dn (x : Inst) (S : Nat) : List Nat → Prop where
  | nil : Dn x S []
  | snoc {ds : List Nat} {i : Nat} (h : Dn x S ds) (hi : i < x.orders.length) (hb : S.testBit i = true) (ho : (nth x.orders i).off = false) (hn : i ∉ ds) (hp : ∀ p ∈ x.before, p.2 = (i : Int) → p.1.toNat ∈ ds) : Dn x S (ds ++ [i])
def visD (x : Inst) (ds : List Nat) : List Vis := ds.flatMap (visO x.orders)
def Vne (x : Inst) : Prop := ∀ i, i < x.orders.length → visO x.orders i ≠ []
theorem mem_visD {x : Inst} {ds : List Nat} {v : Vis} {i : Nat} (hv : v ∈ visO x.orders i) : v ∈ visD x ds ↔ i ∈ ds := by
  rw [visD, List.mem_flatMap]
  refine ⟨fun ⟨d, hd, h⟩ => ?_, fun h => ⟨i, h, hv⟩⟩
  have h1 := visO_order hv
  have h2 := visO_order h
  have : i = d := by omega
  rw [this]; exact hd
theorem allIn_visD {x : Inst} {ds : List Nat} {i : Nat} (hne : Vne x) (hi : i < x.orders.length) : allIn (visD x ds) (visO x.orders i) = true ↔ i ∈ ds := by
  rw [allIn_iff]
  refine ⟨fun h => ?_, fun h w hw => (mem_visD hw).2 h⟩
  obtain ⟨w, hw⟩ := List.exists_mem_of_ne_nil _ (hne i hi)
  exact (mem_visD hw).1 (h w hw)
theorem Dn.lt {x S ds} (h : Dn x S ds) : ∀ i ∈ ds, i < x.orders.length ∧ S.testBit i = true := by
  induction h with
  | nil => simp
  | snoc _ hi hb _ _ _ ih =>
    intro j hj
    rcases List.mem_append.1 hj with hj | hj
    · exact ih j hj
    · simp at hj; subst hj; exact ⟨hi, hb⟩
theorem Dn.nodup {x S ds} (h : Dn x S ds) : ds.Nodup := by
  induction h with
  | nil => simp
  | snoc _ _ _ _ hn _ ih =>
    rw [List.nodup_append]
    refine ⟨ih, by simp, fun a ha b hb => ?_⟩
    simp at hb; subst hb
    exact fun e => hn (e ▸ ha)
theorem Dn.pre {x S ds} (h : Dn x S ds) : ∀ p ∈ x.before, ∀ i ∈ ds, p.2 = (i : Int) → p.1.toNat ∈ ds := by
  induction h with
  | nil => simp
  | snoc _ _ _ _ _ hp ih =>
    intro p hpb i hi e
    rcases List.mem_append.1 hi with hi | hi
    · exact List.mem_append_left _ (ih p hpb i hi e)
    · simp at hi; subst hi
      exact List.mem_append_left _ (hp p hpb e)
theorem Dn.chain {x S ds} (h : Dn x S ds) {a b} (hc : Ch x.before a b) (hb : b ∈ ds) : a ∈ ds := by
  induction hc with
  | one hE =>
    obtain ⟨p, hp, e1, e2⟩ := hE
    have := h.pre p hp _ hb e2
    rw [e1] at this; simpa using this
  | more _ hE ih =>
    obtain ⟨p, hp, e1, e2⟩ := hE
    have := h.pre p hp _ hb e2
    rw [e1] at this
    exact ih (by simpa using this)
theorem Dn.acyc {x S ds} (h : Dn x S ds) : ∀ i ∈ ds, ¬ Ch x.before i i := by
  induction h with
  | nil => simp
  | snoc hd _ _ _ hn hp ih =>
    rename_i ds i
    intro j hj hc
    rcases List.mem_append.1 hj with hj | hj
    · exact ih j hj hc
    · simp at hj; subst hj
      cases hc with
      | one hE =>
        obtain ⟨p, hpb, e1, e2⟩ := hE
        have := hp p hpb e2
        rw [e1] at this
        exact hn (by simpa using this)
      | more hc hE =>
        obtain ⟨p, hpb, e1, e2⟩ := hE
        have := hp p hpb e2
        rw [e1] at this
        exact hn (hd.chain hc (by simpa using this))
theorem Dn.alw {x S ds} (h : Dn x S ds) (ha : apB x S = false) (hn : x.orders.length ≤ 60) (hS : S / pw x.orders.length = 0) (hv : Val x.orders.length x.before) (hall : ∀ i, i < x.orders.length → S.testBit i = true → (nth x.orders i).off = false ∧ i ∈ ds) : Alw x S := by
  refine ⟨fun i hi hb => (hall i hi hb).1, ha, fun p hp hb => ?_, fun i hi hb => h.acyc i (hall i hi hb).2⟩
  obtain ⟨h1, h2, h3⟩ := nHas_iff.1 hb
  obtain ⟨v1, v2, v3, v4⟩ := hv p hp
  have hm := h.pre p hp p.2.toNat (hall _ (by omega) h3).2 (by omega)
  have := h.lt _ hm
  exact nHas_iff.2 ⟨v1, by omega, this.2⟩
theorem Dn.full {x S ds} (h : Dn x S ds) (ha : Alw x S) (hn : x.orders.length ≤ 60) (hv : Val x.orders.length x.before)
    (hst : ∀ i, i < x.orders.length → S.testBit i = true → (nth x.orders i).off = false → i ∉ ds → ∃ p ∈ x.before, p.2 = (i : Int) ∧ p.1.toNat ∉ ds) :
    ∀ i, i < x.orders.length → S.testBit i = true → i ∈ ds := fun i hi hb => by
  refine Classical.byContradiction fun hno => ?_
  obtain ⟨j, ⟨j1, j2, j3⟩, hj⟩ := exists_min hv (P := fun i => i < x.orders.length ∧ S.testBit i = true ∧ i ∉ ds) (fun i hi => ⟨hi.1, ha.acyc i hi.1 hi.2.1⟩) ⟨hi, hb, hno⟩
  obtain ⟨p, hp, e1, e2⟩ := hst j j1 j2 (ha.off j j1 j2) j3
  obtain ⟨v1, v2, v3, v4⟩ := hv p hp
  have := ha.closed p hp (nHas_iff.2 ⟨by omega, by omega, by rw [e1]; simpa using j2⟩)
  exact hj p hp e1 ⟨by omega, (nHas_iff.1 this).2.2, e2⟩
end Go.Proofs.Ytlbhefiehkmhjaa.K
