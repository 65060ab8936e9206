/- Sets that are allowed: plain mathematics. -/
import Derived.Test.YtalmcdllbibknaaD5
set_option linter.unusedVariables false
set_option linter.unusedSimpArgs false
namespace Go.Proofs.Ytalmcdllbibknaa.K
open Go Go.AM

/-- what it is to be allowed -/
structure Alw (os : List Ord) (ap be : List (Int × Int)) (S : Nat) : Prop where
  lt : S < pw os.length
  off : ∀ i, i < os.length → S.testBit i = true → (nth os i).off = false
  apt : ∀ p ∈ ap, ¬ (S.testBit p.1.toNat = true ∧ S.testBit p.2.toNat = true)
  bef : ∀ p ∈ be, S.testBit p.2.toNat = true → S.testBit p.1.toNat = true
  cyc : ∀ i, i < os.length → S.testBit i = true → ¬ Ch be i i

theorem any_eq_false' {α : Type} {l : List α} {f : α → Bool} (h : ∀ x ∈ l, f x = false) : l.any f = false := by
  rw [List.any_eq_false]; intro x hx; rw [h x hx]; simp

theorem alw_iff {os : List Ord} {ap be : List (Int × Int)} {S : Nat} (hn : os.length ≤ 60) (hS : S < 9223372036854775808) (hva : Val os.length ap) (hv : Val os.length be) : allowed os ap be (S : Int) = 0 ↔ Alw os ap be S := by
  have e0 : ¬ (S : Int) < 0 := by omega
  have hap : ∀ p ∈ ap, sHas (S : Int) p.1 = S.testBit p.1.toNat ∧ sHas (S : Int) p.2 = S.testBit p.2.toNat := fun p hp => by
    have := hva p hp; exact ⟨sHas_int _ _ (by omega) (by omega), sHas_int _ _ (by omega) (by omega)⟩
  have hbe : ∀ p ∈ be, sHas (S : Int) p.1 = S.testBit p.1.toNat ∧ sHas (S : Int) p.2 = S.testBit p.2.toNat := fun p hp => by
    have := hv p hp; exact ⟨sHas_int _ _ (by omega) (by omega), sHas_int _ _ (by omega) (by omega)⟩
  have hcy : ∀ i, i < os.length → (sHas ((nth (cloOf os.length be) i : Nat) : Int) (i : Int) = true ↔ Ch be i i) := fun i hi => by
    rw [sHas_nat _ _ (by omega)]; exact cloOf_bit hv i i hi
  constructor
  · intro h
    unfold allowed at h
    rw [if_neg e0] at h
    split at h
    · cases h
    rename_i g1
    split at h
    · cases h
    rename_i g2
    split at h
    · cases h
    rename_i g3
    split at h
    · cases h
    rename_i g4
    split at h
    · cases h
    rename_i g5
    have hlt : S < pw os.length := by
      apply Nat.lt_of_not_le
      intro hle
      obtain ⟨j, hj, hj2⟩ := Nat.exists_ge_and_testBit_of_ge_two_pow hle
      have hj63 : j < 63 := by
        apply Nat.lt_of_not_le
        intro hle2
        have : S < 2 ^ j := Nat.lt_of_lt_of_le (show S < 2 ^ 63 by omega) (Nat.pow_le_pow_right (by omega) hle2)
        rw [Nat.testBit_lt_two_pow this] at hj2; cases hj2
      exact g1 (memU_any_yes hj63 hj2 (by simp; omega))
    refine ⟨hlt, fun i hi hb => ?_, fun p hp hb => ?_, fun p hp hb => ?_, fun i hi hb hc => ?_⟩
    · cases ho : (nth os i).off with
      | false => rfl
      | true => exact absurd (memU_any_yes (k := i) (by omega) hb (by simpa using ho)) g2
    · apply g3
      rw [List.any_eq_true]
      refine ⟨p, hp, ?_⟩
      rw [(hap p hp).1, (hap p hp).2, hb.1, hb.2]; rfl
    · cases ha : S.testBit p.1.toNat with
      | true => rfl
      | false =>
        exfalso; apply g4
        rw [List.any_eq_true]
        refine ⟨p, hp, ?_⟩
        rw [(hbe p hp).1, (hbe p hp).2, hb, ha]; rfl
    · apply g5
      exact memU_any_yes (k := i) (by omega) hb (by simp only [Int.toNat_natCast]; exact (hcy i hi).2 hc)
  · intro a
    have hbig : ∀ k, os.length ≤ k → S.testBit k = false := fun k hk => Nat.testBit_lt_two_pow (Nat.lt_of_lt_of_le a.lt (pw_le hk))
    have g1 : (memU (S : Int) 63).any (fun i => decide ((os.length : Int) ≤ i)) = false := memU_any_no fun k hk hb => by
      rcases Nat.lt_or_ge k os.length with h5 | h5
      · simp; omega
      · rw [hbig k h5] at hb; cases hb
    have g2 : (memU (S : Int) 63).any (fun i => (nth os i.toNat).off) = false := memU_any_no fun j hj hb => by
      rcases Nat.lt_or_ge j os.length with h6 | h6
      · simpa using a.off j h6 hb
      · rw [hbig j h6] at hb; cases hb
    have g3 : ap.any (fun p => sHas (S : Int) p.1 && sHas (S : Int) p.2) = false := any_eq_false' fun p hp => by
      rw [(hap p hp).1, (hap p hp).2]
      have := a.apt p hp
      cases h1 : S.testBit p.1.toNat <;> cases h2 : S.testBit p.2.toNat <;> simp_all
    have g4 : be.any (fun p => sHas (S : Int) p.2 && !sHas (S : Int) p.1) = false := any_eq_false' fun p hp => by
      rw [(hbe p hp).1, (hbe p hp).2]
      have := a.bef p hp
      cases h1 : S.testBit p.1.toNat <;> cases h2 : S.testBit p.2.toNat <;> simp_all
    have g5 : (memU (S : Int) 63).any (fun i => sHas ((nth (cloOf os.length be) i.toNat : Nat) : Int) i) = false := memU_any_no fun j hj hb => by
      rcases Nat.lt_or_ge j os.length with h6 | h6
      · simp only [Int.toNat_natCast]
        exact Bool.eq_false_iff.2 fun e => a.cyc j h6 hb ((hcy j h6).1 e)
      · rw [hbig j h6] at hb; cases hb
    simp only [allowed, e0, g1, g2, g3, g4, g5, if_false, Bool.false_eq_true]

theorem Alw.up {os ap be S} (a : Alw os ap be S) {i j : Nat} (h : Ch be j i) (hi : S.testBit i = true) : S.testBit j = true := by
  induction h with
  | one h =>
    obtain ⟨p, hp, e1, e2⟩ := h
    have := a.bef p hp (by rw [e2]; exact hi)
    rwa [e1, Int.toNat_natCast] at this
  | more _ h ih =>
    obtain ⟨p, hp, e1, e2⟩ := h
    have := a.bef p hp (by rw [e2]; exact hi)
    rw [e1, Int.toNat_natCast] at this
    exact ih this
theorem Alw.sub {os ap be S T} (a : Alw os ap be S) (h : ∀ i, T.testBit i = true → S.testBit i = true) (hb : ∀ p ∈ be, T.testBit p.2.toNat = true → T.testBit p.1.toNat = true) : Alw os ap be T := by
  refine ⟨?_, fun i hi hb => a.off i hi (h i hb), fun p hp hq => a.apt p hp ⟨h _ hq.1, h _ hq.2⟩, hb, fun i hi hb => a.cyc i hi (h i hb)⟩
  apply Nat.lt_of_not_le
  intro hle
  obtain ⟨j, hj, hj2⟩ := Nat.exists_ge_and_testBit_of_ge_two_pow hle
  have := h j hj2
  rw [Nat.testBit_lt_two_pow (Nat.lt_of_lt_of_le a.lt (pw_le hj))] at this
  cases this

theorem needsOf_bit {n : Nat} {be : List (Int × Int)} (hv : Val n be) {o : Nat} (ho : o < n) (j : Nat) : (needsOf n be (o : Int)).testBit j = true ↔ (j = o ∨ Ch be j o) := by
  rw [← needsOf_set hv ho, setOf_bit, ndp, rch_bit]
  simp only [Bool.and_eq_true, decide_eq_true_eq, Bool.or_eq_true]
  constructor
  · rintro ⟨h1, h2 | ⟨h2, h3⟩⟩
    · exact .inl h2
    · exact .inr ((cloOf_bit hv j o ho).1 h3)
  · rintro (rfl | h)
    · exact ⟨ho, .inl rfl⟩
    · exact ⟨(h.lt hv).1, .inr ⟨ho, (cloOf_bit hv j o ho).2 h⟩⟩

/-- what an order of an allowed set needs is in it, and allowed -/
theorem Alw.needs {os ap be S} (hv : Val os.length be) (a : Alw os ap be S) {o : Nat} (ho : o < os.length) (hS : S.testBit o = true) : (∀ j, (needsOf os.length be (o : Int)).testBit j = true → S.testBit j = true) ∧ Alw os ap be (needsOf os.length be (o : Int)) := by
  have h1 : ∀ j, (needsOf os.length be (o : Int)).testBit j = true → S.testBit j = true := fun j hj => by
    rcases (needsOf_bit hv ho j).1 hj with rfl | h
    · exact hS
    · exact a.up h hS
  refine ⟨h1, a.sub h1 fun p hp hb => ?_⟩
  have hvp := hv p hp
  have hE : Ed be p.1.toNat p.2.toNat := ⟨p, hp, by omega, by omega⟩
  rw [needsOf_bit hv ho] at hb ⊢
  right
  rcases hb with h | h
  · rw [← h]; exact .one hE
  · exact (Ch.one hE).trans h

theorem sub_bit {S o : Nat} (h : S.testBit o = true) (j : Nat) : (S - pw o).testBit j = (S.testBit j && !decide (o = j)) := by
  have h1 : ∃ T, T.testBit o = false ∧ S = T + pw o := by
    refine ⟨S ^^^ pw o, by simp [Nat.testBit_xor, testBit_pw, h], ?_⟩
    apply Nat.eq_of_testBit_eq
    intro k
    rw [add_pw (by simp [Nat.testBit_xor, testBit_pw, h]), Nat.testBit_xor, testBit_pw]
    by_cases hk : o = k
    · subst hk; simp [h]
    · simp [hk]
  obtain ⟨T, hT, rfl⟩ := h1
  rw [Nat.add_sub_cancel, add_pw hT]
  by_cases hk : o = j
  · subst hk; simp [hT]
  · simp [hk]
theorem pw_le_of_bit {S o : Nat} (h : S.testBit o = true) : pw o ≤ S := Nat.ge_two_pow_of_testBit h

/-- without an order that no other order of the set needs -/
theorem Alw.less {os ap be S} (hv : Val os.length be) (a : Alw os ap be S) {o : Nat} (ho : o < os.length) (hS : S.testBit o = true)
    (h : ∀ i, i < os.length → i ≠ o → S.testBit i = true → (needsOf os.length be (i : Int)).testBit o = false) : Alw os ap be (S - pw o) := by
  refine a.sub (fun i hi => ?_) fun p hp hb => ?_
  · rw [sub_bit hS] at hi; simp at hi; exact hi.1
  · rw [sub_bit hS] at hb ⊢
    simp at hb ⊢
    have hvp := hv p hp
    refine ⟨a.bef p hp hb.1, fun e => ?_⟩
    have hE : Ed be p.1.toNat p.2.toNat := ⟨p, hp, by omega, by omega⟩
    have h1 := h p.2.toNat (by omega) (fun e2 => hb.2 e2.symm) hb.1
    have h2 := (needsOf_bit hv (show p.2.toNat < os.length by omega) o).2 (.inr (by rw [e]; exact .one hE))
    rw [h1] at h2; cases h2

/-- the closure's pairs -/
theorem clU_mem {n : Nat} {be : List (Int × Int)} (hv : Val n be) (p : Int × Int) : p ∈ clU (cloOf n be) n ↔ ∃ a b : Nat, p = ((a : Int), (b : Int)) ∧ a < n ∧ b < n ∧ Ch be a b := by
  have hl := (clo_of hv).len
  simp only [clU, clA, List.mem_flatMap, List.mem_range, List.mem_map, List.mem_filter, hl]
  constructor
  · rintro ⟨a, ha, b, ⟨hb, hc⟩, rfl⟩
    exact ⟨a, b, rfl, ha, hb, (cloOf_bit hv a b hb).1 hc⟩
  · rintro ⟨a, b, rfl, ha, hb, hc⟩
    exact ⟨a, ha, b, ⟨hb, (cloOf_bit hv a b hb).2 hc⟩, rfl⟩
theorem clU_clU {n : Nat} {be : List (Int × Int)} (hv : Val n be) : Val n (clU (cloOf n be) n) ∧ cloOf n (clU (cloOf n be) n) = cloOf n be := by
  have hv2 : Val n (clU (cloOf n be) n) := fun p hp => by
    obtain ⟨a, b, rfl, ha, hb, _⟩ := (clU_mem hv p).1 hp
    simp only; omega
  have hE : ∀ a b, Ed (clU (cloOf n be) n) a b ↔ Ch be a b := fun a b => by
    constructor
    · rintro ⟨p, hp, e1, e2⟩
      obtain ⟨a', b', rfl, _, _, hc⟩ := (clU_mem hv p).1 hp
      simp only at e1 e2
      obtain rfl : a' = a := by omega
      obtain rfl : b' = b := by omega
      exact hc
    · intro hc
      have := hc.lt hv
      exact ⟨_, (clU_mem hv _).2 ⟨a, b, rfl, this.1, this.2, hc⟩, rfl, rfl⟩
  have hC : ∀ a b, Ch (clU (cloOf n be) n) a b ↔ Ch be a b := fun a b => by
    constructor
    · intro h
      induction h with
      | one h => exact (hE _ _).1 h
      | more _ h ih => exact ih.trans ((hE _ _).1 h)
    · intro h; exact .one ((hE _ _).2 h)
  have c := clo_of hv
  exact ⟨hv2, cloOf_eq hv2 ⟨⟨c.len, c.lt, fun a b hb h => (hC a b).2 (c.snd a b hb h)⟩, fun a b h => c.cmp a b ((hC a b).1 h)⟩⟩

/-- the orders of the allowed sets below k -/
noncomputable def srv (os : List Ord) (ap be : List (Int × Int)) : Nat → Nat
  | 0 => 0
  | k + 1 => if allowed os ap be (k : Int) = 0 then srv os ap be k ||| k else srv os ap be k
theorem srv_bit (os ap be) : ∀ k j, (srv os ap be k).testBit j = true ↔ ∃ S, S < k ∧ allowed os ap be (S : Int) = 0 ∧ S.testBit j = true
  | 0, j => by simp [srv]
  | k + 1, j => by
    have ih := srv_bit os ap be k j
    simp only [srv]
    split
    · rename_i h
      rw [Nat.testBit_or, Bool.or_eq_true, ih]
      constructor
      · rintro (⟨S, h1, h2⟩ | h1)
        · exact ⟨S, by omega, h2⟩
        · exact ⟨k, by omega, h, h1⟩
      · rintro ⟨S, h1, h2, h3⟩
        by_cases e : S = k
        · subst e; exact .inr h3
        · exact .inl ⟨S, by omega, h2, h3⟩
    · rename_i h
      rw [ih]
      constructor
      · rintro ⟨S, h1, h2⟩; exact ⟨S, by omega, h2⟩
      · rintro ⟨S, h1, h2, h3⟩
        have : S ≠ k := fun e => h (by rw [← e]; exact h2)
        exact ⟨S, by omega, h2, h3⟩
theorem srv_lt (os ap be) (m : Nat) : ∀ k, k ≤ pw m → srv os ap be k < pw m
  | 0, _ => by simp [srv, pw_pos]
  | k + 1, h => by
    have ih := srv_lt os ap be m k (by omega)
    simp only [srv]
    split
    · exact Nat.or_lt_two_pow ih (show k < pw m by omega)
    · exact ih

/-- an order is in Never just if it is not off and no allowed set contains it -/
theorem nev_srv {os : List Ord} {ap be : List (Int × Int)} (hn : os.length ≤ 60) (hva : Val os.length ap) (hv : Val os.length be) {i : Nat} (hi : i < os.length) :
    (nev os ap be os.length).testBit i = (!(nth os i).off && !(srv os ap be (pw os.length)).testBit i) := by
  have h60 : pw os.length ≤ pw 62 := pw_le (by omega)
  have h62 := pw_62
  have hnl := needsOf_lt hv hi
  rw [nev_set, setOf_bit]
  simp only [hi, decide_true, Bool.true_and, bad]
  congr 1
  congr 1
  rw [Bool.eq_iff_iff, decide_eq_true_eq, srv_bit, alw_iff hn (by omega) hva hv]
  constructor
  · intro a
    exact ⟨_, hnl, (alw_iff hn (by omega) hva hv).2 a, (needsOf_bit hv hi i).2 (.inl rfl)⟩
  · rintro ⟨S, h1, h2, h3⟩
    exact (((alw_iff hn (by omega) hva hv).1 h2).needs hv hi h3).2
end Go.Proofs.Ytalmcdllbibknaa.K
