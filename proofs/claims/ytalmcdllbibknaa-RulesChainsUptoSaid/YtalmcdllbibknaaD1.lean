/- The specification's reach: plain mathematics. -/
import Derived.Test.YtalmcdllbibknaaM2
set_option linter.unusedVariables false
set_option linter.unusedSimpArgs false
namespace Go.Proofs.Ytalmcdllbibknaa.K
open Go Go.AM

theorem add_pw {s b : Nat} (h : s.testBit b = false) (j : Nat) : (s + pw b).testBit j = (s.testBit j || decide (b = j)) := by
  have e1 : s = 2 ^ (b + 1) * (s / 2 ^ (b + 1)) + s % 2 ^ (b + 1) := (Nat.div_add_mod _ _).symm
  have e2 : s % 2 ^ (b + 1) < 2 ^ (b + 1) := Nat.mod_lt _ (Nat.two_pow_pos _)
  have e3 : s % 2 ^ (b + 1) < 2 ^ b := by
    rw [Nat.testBit_eq_decide_div_mod_eq] at h
    simp at h
    have h1 : s % 2 ^ (b + 1) = s % 2 ^ b + 2 ^ b * (s / 2 ^ b % 2) := by rw [Nat.pow_succ, Nat.mod_mul]
    rw [h1, h, Nat.mul_zero, Nat.add_zero]
    exact Nat.mod_lt _ (Nat.two_pow_pos _)
  generalize s / 2 ^ (b + 1) = q at e1
  generalize s % 2 ^ (b + 1) = r at e1 e2 e3
  have hp : 2 ^ (b + 1) = 2 ^ b + 2 ^ b := by rw [Nat.pow_succ]; omega
  have e4 : s + pw b = 2 ^ (b + 1) * q + (2 ^ b * 1 + r) := by rw [e1, pw]; omega
  rw [e4, Nat.testBit_two_pow_mul_add _ (by omega), e1, Nat.testBit_two_pow_mul_add _ e2]
  by_cases hj : j < b + 1
  · simp only [hj, if_true]
    rw [Nat.testBit_two_pow_mul_add _ e3]
    by_cases hj2 : j < b
    · have : ¬ b = j := by omega
      simp [hj2, this]
    · have : j = b := by omega
      subst this
      simp
  · have : ¬ b = j := by omega
    simp [hj, this]

/-- the set of the numbers below n at which p holds -/
def setOf (p : Nat → Bool) : Nat → Nat
  | 0 => 0
  | k + 1 => if p k then setOf p k + pw k else setOf p k
theorem setOf_lt (p : Nat → Bool) : ∀ k, setOf p k < pw k
  | 0 => by simp [setOf, pw]
  | k + 1 => by
    have := setOf_lt p k
    have := pw_succ k
    simp only [setOf]
    split <;> omega
theorem setOf_bit (p : Nat → Bool) : ∀ k j, (setOf p k).testBit j = (decide (j < k) && p j)
  | 0, j => by simp [setOf]
  | k + 1, j => by
    have hb : (setOf p k).testBit k = false := Nat.testBit_lt_two_pow (setOf_lt p k)
    simp only [setOf]
    split
    · rename_i hp
      rw [add_pw hb, setOf_bit p k j]
      by_cases hj : k = j
      · subst hj; simp [hp]
      · have : decide (j < k + 1) = decide (j < k) := by simp only [decide_eq_decide]; omega
        simp [hj, this]
    · rename_i hp
      rw [setOf_bit p k j]
      by_cases hj : k = j
      · subst hj; simp [hp]
      · have : decide (j < k + 1) = decide (j < k) := by simp only [decide_eq_decide]; omega
        simp [this]
theorem setOf_of {p : Nat → Bool} {k x : Nat} (h : x < pw k) (hb : ∀ j, j < k → x.testBit j = p j) : x = setOf p k := by
  apply Nat.eq_of_testBit_eq
  intro j
  rw [setOf_bit]
  by_cases hj : j < k
  · simp [hj, hb j hj]
  · have : x < 2 ^ j := Nat.lt_of_lt_of_le h (pw_le (by omega))
    simp [hj, Nat.testBit_lt_two_pow this]
theorem setOf_congr {p q : Nat → Bool} : ∀ {k : Nat}, (∀ j, j < k → p j = q j) → setOf p k = setOf q k
  | 0, _ => rfl
  | k + 1, h => by simp only [setOf, h k (by omega), setOf_congr (k := k) fun j hj => h j (by omega)]

/-- how many of the numbers below n a set has -/
def pc (s : Nat) : Nat → Nat
  | 0 => 0
  | k + 1 => pc s k + if s.testBit k then 1 else 0
theorem pc_le (s : Nat) : ∀ k, pc s k ≤ k
  | 0 => by simp [pc]
  | k + 1 => by have := pc_le s k; simp only [pc]; split <;> omega
theorem pc_add {s b : Nat} (h : s.testBit b = false) : ∀ k, pc (s + pw b) k = pc s k + if b < k then 1 else 0
  | 0 => by simp [pc]
  | k + 1 => by
    simp only [pc, pc_add h k, add_pw h]
    by_cases hb : b = k
    · subst hb; simp [h]
    · have : (b < k + 1) = (b < k) := by simp only [eq_iff_iff]; omega
      simp only [hb, decide_false, Bool.or_false, this]
      omega

def rstp (fr s : Nat) (p : Int × Int) : Nat := if (p.1.toNat = fr ∨ s.testBit p.1.toNat = true) ∧ s.testBit p.2.toNat = false then s + pw p.2.toNat else s
def rpas (fr s : Nat) (l : List (Int × Int)) : Nat := l.foldl (rstp fr) s
def rrnd (fr : Nat) (be : List (Int × Int)) : Nat → Nat
  | 0 => 0
  | k + 1 => rpas fr (rrnd fr be k) be

def cls (fr s : Nat) (p : Int × Int) : Prop := (p.1.toNat = fr ∨ s.testBit p.1.toNat = true) → s.testBit p.2.toNat = true

structure RSnd (n fr : Nat) (be : List (Int × Int)) (s : Nat) : Prop where
  lt : s < pw n
  snd : ∀ j, s.testBit j = true → Ch be fr j

theorem RSnd.step {n fr be s p} (hv : Val n be) (hs : RSnd n fr be s) (hp : p ∈ be) : RSnd n fr be (rstp fr s p) := by
  obtain ⟨h1, h2, h3, h4⟩ := hv p hp
  unfold rstp
  split
  · rename_i h
    obtain ⟨ha, hb⟩ := h
    have hbits : ∀ j, (s + pw p.2.toNat).testBit j = true → Ch be fr j := fun j hj => by
      rw [add_pw hb] at hj
      simp only [Bool.or_eq_true, decide_eq_true_eq] at hj
      rcases hj with hj | rfl
      · exact hs.snd j hj
      · have hE : Ed be p.1.toNat p.2.toNat := ⟨p, hp, by omega, by omega⟩
        rcases ha with ha | ha
        · rw [← ha]; exact .one hE
        · exact (hs.snd _ ha).more hE
    refine ⟨?_, hbits⟩
    apply Nat.lt_of_not_le
    intro hle
    obtain ⟨j, hj, hj2⟩ := Nat.exists_ge_and_testBit_of_ge_two_pow hle
    have := (hbits j hj2).lt hv
    omega
  · exact hs
theorem RSnd.pas {n fr be} (hv : Val n be) : ∀ (l : List (Int × Int)) {s}, RSnd n fr be s → (∀ p ∈ l, p ∈ be) → RSnd n fr be (rpas fr s l)
  | [], s, hs, _ => hs
  | p :: l, s, hs, h => RSnd.pas hv l (hs.step hv (h p (by simp))) fun q hq => h q (by simp [hq])
theorem RSnd.rnd {n fr be} (hv : Val n be) : ∀ k, RSnd n fr be (rrnd fr be k)
  | 0 => ⟨pw_pos n, fun j h => by simp [rrnd] at h⟩
  | k + 1 => (RSnd.rnd hv k).pas hv be fun _ h => h

theorem rpas_prog {n fr : Nat} : ∀ (l : List (Int × Int)) (s : Nat), (∀ p ∈ l, p.2.toNat < n) → pc s n ≤ pc (rpas fr s l) n ∧ ((rpas fr s l = s ∧ ∀ p ∈ l, cls fr s p) ∨ pc s n + 1 ≤ pc (rpas fr s l) n)
  | [], s, _ => ⟨Nat.le_refl _, .inl ⟨rfl, fun p h => by simp at h⟩⟩
  | p :: l, s, h => by
    have ih := rpas_prog (n := n) (fr := fr) l (rstp fr s p) fun q hq => h q (by simp [hq])
    have hp := h p (by simp)
    have e : rpas fr s (p :: l) = rpas fr (rstp fr s p) l := rfl
    rw [e]
    by_cases hc : (p.1.toNat = fr ∨ s.testBit p.1.toNat = true) ∧ s.testBit p.2.toNat = false
    · have e1 : rstp fr s p = s + pw p.2.toNat := by simp [rstp, hc]
      have e2 := pc_add hc.2 n
      rw [e1] at ih ⊢
      simp only [hp, if_true] at e2
      exact ⟨by omega, .inr (by omega)⟩
    · have e1 : rstp fr s p = s := by simp [rstp, hc]
      rw [e1] at ih ⊢
      refine ⟨ih.1, ?_⟩
      rcases ih.2 with ⟨i1, i2⟩ | i1
      · refine .inl ⟨i1, fun q hq => ?_⟩
        rcases List.mem_cons.1 hq with rfl | hq
        · intro ha
          cases hb : s.testBit q.2.toNat with
          | true => rfl
          | false => exact absurd ⟨ha, hb⟩ hc
        · exact i2 q hq
      · exact .inr i1
theorem rpas_cls {fr : Nat} : ∀ (l : List (Int × Int)) (s : Nat), (∀ p ∈ l, cls fr s p) → rpas fr s l = s
  | [], s, _ => rfl
  | p :: l, s, h => by
    have e1 : rstp fr s p = s := by
      unfold rstp
      split
      · rename_i hc
        have := h p (by simp) hc.1
        rw [hc.2] at this; cases this
      · rfl
    show rpas fr (rstp fr s p) l = s
    rw [e1]
    exact rpas_cls l s fun q hq => h q (by simp [hq])
theorem rrnd_prog {n fr : Nat} {be : List (Int × Int)} (hv : Val n be) : ∀ k, (∀ p ∈ be, cls fr (rrnd fr be k) p) ∨ k ≤ pc (rrnd fr be k) n
  | 0 => .inr (Nat.zero_le _)
  | k + 1 => by
    rcases rrnd_prog (fr := fr) hv k with h | h
    · left
      show ∀ p ∈ be, cls fr (rpas fr (rrnd fr be k) be) p
      rw [rpas_cls be _ h]; exact h
    · obtain ⟨_, h2⟩ := rpas_prog (n := n) (fr := fr) be (rrnd fr be k) fun p hp => by have := hv p hp; omega
      rcases h2 with ⟨h2, h3⟩ | h2
      · left
        show ∀ p ∈ be, cls fr (rpas fr (rrnd fr be k) be) p
        rw [h2]; exact h3
      · right
        show k + 1 ≤ pc (rpas fr (rrnd fr be k) be) n
        omega

/-- the numbers to which there is a chain -/
noncomputable def rch (n : Nat) (be : List (Int × Int)) (fr : Nat) : Nat := setOf (fun b => (nth (cloOf n be) b).testBit fr) n
theorem rch_lt (n be fr) : rch n be fr < pw n := setOf_lt _ _
theorem rch_bit (n be fr j) : (rch n be fr).testBit j = (decide (j < n) && (nth (cloOf n be) j).testBit fr) := setOf_bit _ _ _
theorem rrnd_rch {n fr : Nat} {be : List (Int × Int)} (hv : Val n be) : rrnd fr be (n + 1) = rch n be fr := by
  have hs := RSnd.rnd (fr := fr) hv (n + 1)
  have hcl : ∀ p ∈ be, cls fr (rrnd fr be (n + 1)) p := by
    rcases rrnd_prog (fr := fr) hv (n + 1) with h | h
    · exact h
    · have := pc_le (rrnd fr be (n + 1)) n
      omega
  refine setOf_of hs.lt fun j hj => ?_
  rw [Bool.eq_iff_iff, cloOf_bit hv fr j hj]
  refine ⟨hs.snd j, fun h => ?_⟩
  clear hj
  induction h with
  | one h =>
    obtain ⟨p, hp, e1, e2⟩ := h
    have := hcl p hp (.inl (by omega))
    rwa [e2, Int.toNat_natCast] at this
  | more _ h ih =>
    obtain ⟨p, hp, e1, e2⟩ := h
    have := hcl p hp (.inr (by rw [e1, Int.toNat_natCast]; exact ih))
    rwa [e2, Int.toNat_natCast] at this
end Go.Proofs.Ytalmcdllbibknaa.K
