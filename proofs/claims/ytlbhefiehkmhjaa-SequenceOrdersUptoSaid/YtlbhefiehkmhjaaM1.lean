/- The closure of pairs: plain mathematics. -/
import Derived.Test.YtlbhefiehkmhjaaA3
set_option linter.unusedVariables false
set_option linter.unusedSimpArgs false
namespace Go.Proofs.Ytlbhefiehkmhjaa.K
open Go Go.AM

/-- there is a pair (a, b) -/
def Ed (be : List (Int × Int)) (a b : Nat) : Prop := ∃ p ∈ be, p.1 = (a : Int) ∧ p.2 = (b : Int)
/-- a chain of pairs -/
inductive Ch (be : List (Int × Int)) : Nat → Nat → Prop where
  | one {a b} (h : Ed be a b) : Ch be a b
  | more {a b c} (h : Ch be a b) (k : Ed be b c) : Ch be a c
theorem Ch.trans {be a b c} (h : Ch be a b) (k : Ch be b c) : Ch be a c := by
  induction k with
  | one h2 => exact h.more h2
  | more _ h2 ih => exact ih.more h2

/-- pairs of numbers below n -/
def Val (n : Nat) (be : List (Int × Int)) : Prop := ∀ p ∈ be, 0 ≤ p.1 ∧ p.1 < n ∧ 0 ≤ p.2 ∧ p.2 < n

theorem Ch.lt {n be} (hv : Val n be) {a b} (h : Ch be a b) : a < n ∧ b < n := by
  induction h with
  | one h => obtain ⟨p, hp, h1, h2⟩ := h; have := hv p hp; omega
  | more _ h ih => obtain ⟨p, hp, h1, h2⟩ := h; have := hv p hp; omega

def cst (out : List Nat) (p : Int × Int) : List Nat := out.set p.2.toNat (nth out p.2.toNat ||| nth out p.1.toNat ||| pw p.1.toNat)
def pas (out : List Nat) (be : List (Int × Int)) : List Nat := be.foldl cst out

/-- what always holds: sound -/
structure Snd (n : Nat) (be : List (Int × Int)) (out : List Nat) : Prop where
  len : out.length = n
  lt : ∀ b, b < n → nth out b < pw n
  snd : ∀ a b, b < n → (nth out b).testBit a = true → Ch be a b

/-- the row is the closure -/
structure Clo (n : Nat) (be : List (Int × Int)) (out : List Nat) : Prop extends Snd n be out where
  cmp : ∀ a b, Ch be a b → (nth out b).testBit a = true

theorem nth_set (l : List Nat) (i j v : Nat) (h : j < l.length) : nth (l.set i v) j = if i = j then v else nth l j := by
  simp only [nth, List.getD_eq_getElem?_getD, List.getElem?_set]
  by_cases hij : i = j
  · subst hij; simp [h]
  · simp [hij]

theorem Snd.zero (n be) : Snd n be (List.replicate n 0) := by
  refine ⟨by simp, fun b hb => ?_, fun a b hb h => ?_⟩
  · rw [nth_get (by simpa using hb)]; simp [pw_pos]
  · rw [nth_get (by simpa using hb)] at h; simp at h

theorem testBit_pw (a b : Nat) : (pw a).testBit b = decide (a = b) := by simp [pw, Nat.testBit_two_pow]

theorem Snd.step {n be out} (hv : Val n be) (hs : Snd n be out) {p} (hp : p ∈ be) : Snd n be (cst out p) := by
  obtain ⟨h1, h2, h3, h4⟩ := hv p hp
  refine ⟨by simp [cst, hs.len], fun b hb => ?_, fun a b hb h => ?_⟩
  · rw [cst, nth_set _ _ _ _ (by rw [hs.len]; exact hb)]
    split
    · have e1 := hs.lt p.2.toNat (by omega)
      have e2 := hs.lt p.1.toNat (by omega)
      have e3 : pw p.1.toNat < pw n := by
        have := pw_succ p.1.toNat
        have h5 : pw (p.1.toNat + 1) ≤ pw n := pw_le (by omega)
        have := pw_pos p.1.toNat
        omega
      exact Nat.or_lt_two_pow (Nat.or_lt_two_pow e1 e2) e3
    · exact hs.lt b hb
  · rw [cst, nth_set _ _ _ _ (by rw [hs.len]; exact hb)] at h
    split at h
    · rename_i hb2
      have hE : Ed be p.1.toNat b := ⟨p, hp, by omega, by omega⟩
      simp only [Nat.testBit_or, Bool.or_eq_true] at h
      rcases h with (h | h) | h
      · exact hs.snd a b hb (by rw [← hb2]; exact h)
      · exact (hs.snd a _ (by omega) h).more hE
      · rw [testBit_pw] at h
        simp at h
        subst h
        exact .one hE
    · exact hs.snd a b hb h

theorem Snd.rnd {n be out} (hv : Val n be) (hs : Snd n be out) : ∀ (l : List (Int × Int)), (∀ p ∈ l, p ∈ be) → Snd n be (pas out l) := by
  intro l
  induction l generalizing out with
  | nil => intro _; exact hs
  | cons p l ih => intro h; exact ih (hs.step hv (h p (by simp))) fun q hq => h q (by simp [hq])

theorem le_or (x y : Nat) : x ≤ x ||| y := Nat.left_le_or
/-- the sum of a row -/
def tot (l : List Nat) : Nat := l.foldr (· + ·) 0
theorem tot_set : ∀ (l : List Nat) (i v : Nat), i < l.length → tot (l.set i v) + nth l i = tot l + v
  | [], i, v, h => by simp at h
  | x :: l, 0, v, h => by simp [tot, nth]; omega
  | x :: l, i + 1, v, h => by
    have := tot_set l i v (by simpa using h)
    simp only [List.set_cons_succ, tot, List.foldr_cons, nth, List.getD_cons_succ] at this ⊢
    omega
theorem tot_le : ∀ (l : List Nat) (m : Nat), (∀ i, i < l.length → nth l i < m) → tot l ≤ l.length * m
  | [], m, h => by simp [tot]
  | x :: l, m, h => by
    have h0 := h 0 (by simp)
    have := tot_le l m fun i hi => by have := h (i + 1) (by simpa using hi); simpa [nth] using this
    simp only [tot, List.foldr_cons, List.length_cons, Nat.add_mul, nth, List.getD_cons_zero] at this h0 ⊢
    omega

theorem cst_tot (out : List Nat) (p : Int × Int) (h : p.2.toNat < out.length) : tot out ≤ tot (cst out p) ∧ (tot (cst out p) = tot out → cst out p = out) := by
  have e := tot_set out p.2.toNat (nth out p.2.toNat ||| nth out p.1.toNat ||| pw p.1.toNat) h
  have h1 : nth out p.2.toNat ≤ nth out p.2.toNat ||| nth out p.1.toNat ||| pw p.1.toNat := Nat.le_trans (le_or _ _) (le_or _ _)
  refine ⟨by rw [cst]; omega, fun he => ?_⟩
  rw [cst] at he ⊢
  have : nth out p.2.toNat ||| nth out p.1.toNat ||| pw p.1.toNat = nth out p.2.toNat := by omega
  rw [this]
  apply List.ext_getElem (by simp)
  intro i h2 h3
  rw [List.getElem_set]
  split
  · rename_i h4; subst h4; rw [nth_get h]
  · rfl

end Go.Proofs.Ytlbhefiehkmhjaa.K
