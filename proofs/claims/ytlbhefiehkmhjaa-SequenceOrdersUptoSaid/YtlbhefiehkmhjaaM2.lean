/- The closure of pairs: the rounds come to an end, and what they come to. -/
import Derived.Test.YtlbhefiehkmhjaaM1
set_option linter.unusedVariables false
set_option linter.unusedSimpArgs false
namespace Go.Proofs.Ytlbhefiehkmhjaa.K
open Go Go.AM

theorem pas_append (out l m) : pas out (l ++ m) = pas (pas out l) m := by simp [pas, List.foldl_append]

theorem pas_tot {n be} (hv : Val n be) : ∀ (l : List (Int × Int)) (out : List Nat), (∀ p ∈ l, p ∈ be) → Snd n be out → tot out ≤ tot (pas out l) ∧ (tot (pas out l) = tot out → pas out l = out ∧ ∀ p ∈ l, cst out p = out)
  | [], out, _, _ => ⟨Nat.le_refl _, fun _ => ⟨rfl, fun p hp => by simp at hp⟩⟩
  | p :: l, out, hl, hs => by
    obtain ⟨h1, h2, h3, h4⟩ := hv p (hl p (by simp))
    have c := cst_tot out p (by rw [hs.len]; omega)
    have r := pas_tot hv l (cst out p) (fun q hq => hl q (by simp [hq])) (hs.step hv (hl p (by simp)))
    refine ⟨Nat.le_trans c.1 r.1, fun e => ?_⟩
    have e : tot (pas (cst out p) l) = tot out := e
    have e1 : tot (cst out p) = tot out := by have := r.1; have := c.1; omega
    have e2 := c.2 e1
    have e3 : tot (pas (cst out p) l) = tot (cst out p) := by rw [e1]; exact e
    obtain ⟨e4, e5⟩ := r.2 e3
    rw [e2] at e4 e5
    refine ⟨by show pas (cst out p) l = out; rw [e2]; exact e4, fun q hq => ?_⟩
    rcases List.mem_cons.1 hq with rfl | hq
    · exact e2
    · exact e5 q hq

/-- a row that a round leaves as it is, is complete -/
theorem Snd.clo {n be out} (hv : Val n be) (hs : Snd n be out) (h : tot (pas out be) = tot out) : Clo n be out := by
  have hc := ((pas_tot hv be out (fun _ h => h) hs).2 h).2
  have key : ∀ p ∈ be, ∀ a, (a = p.1.toNat ∨ (nth out p.1.toNat).testBit a = true) → (nth out p.2.toNat).testBit a = true := fun p hp a ha => by
    obtain ⟨h1, h2, h3, h4⟩ := hv p hp
    have e := hc p hp
    have e2 : nth (cst out p) p.2.toNat = nth out p.2.toNat := by rw [e]
    rw [cst, nth_set _ _ _ _ (by rw [hs.len]; omega)] at e2
    simp only [if_true] at e2
    rw [← e2]
    simp only [Nat.testBit_or, Bool.or_eq_true, testBit_pw, decide_eq_true_eq]
    rcases ha with rfl | ha
    · exact .inr rfl
    · exact .inl (.inr ha)
  refine ⟨hs, fun a b hab => ?_⟩
  induction hab with
  | one h =>
    obtain ⟨p, hp, e1, e2⟩ := h
    have := key p hp p.1.toNat (.inl rfl)
    rwa [e1, e2] at this
  | more _ h ih =>
    obtain ⟨p, hp, e1, e2⟩ := h
    have := key p hp _ (.inr (by rw [e1]; exact ih))
    rwa [e2] at this

theorem Clo.uniq {n be out out'} (hv : Val n be) (h : Clo n be out) (h' : Clo n be out') : out = out' := by
  apply List.ext_getElem (by rw [h.len, h'.len])
  intro b h1 h2
  rw [← nth_get h1, ← nth_get h2]
  apply Nat.eq_of_testBit_eq
  intro a
  rw [Bool.eq_iff_iff]
  rw [h.len] at h1
  exact ⟨fun e => h'.cmp a b (h.snd a b h1 e), fun e => h.cmp a b (h'.snd a b h1 e)⟩

theorem Snd.bound {n be out} (hs : Snd n be out) : tot out ≤ n * pw n := by
  have := tot_le out (pw n) fun i hi => hs.lt i (by rw [← hs.len]; exact hi)
  rwa [hs.len] at this

theorem clo_ex {n be} (hv : Val n be) : ∀ (k : Nat) (out : List Nat), Snd n be out → n * pw n - tot out < k → ∃ out', Clo n be out'
  | 0, out, _, h => by omega
  | k + 1, out, hs, h => by
    by_cases he : tot (pas out be) = tot out
    · exact ⟨out, hs.clo hv he⟩
    · have hp := hs.rnd hv be fun _ h => h
      have := hp.bound
      have := (pas_tot hv be out (fun _ h => h) hs).1
      exact clo_ex hv k (pas out be) hp (by omega)

/-- THE CLOSURE: for each number the set of those from which there is a chain to it -/
noncomputable def cloOf (n : Nat) (be : List (Int × Int)) : List Nat := open Classical in if h : ∃ out, Clo n be out then h.choose else []
theorem clo_of {n be} (hv : Val n be) : Clo n be (cloOf n be) := by
  have h := clo_ex hv _ (List.replicate n 0) (Snd.zero n be) (Nat.lt_succ_self _)
  rw [cloOf, dif_pos h]
  exact h.choose_spec
theorem cloOf_eq {n be out} (hv : Val n be) (h : Clo n be out) : cloOf n be = out := (clo_of hv).uniq hv h
/-- at given pairs: by rounds -/
theorem cloOf_run {n be} (hv : Val n be) (k : Nat) (out : List Nat) (h : (List.range k).foldl (fun o _ => pas o be) (List.replicate n 0) = out) (h2 : tot (pas out be) = tot out) : cloOf n be = out := by
  have hs : ∀ (l : List Nat) (o : List Nat), Snd n be o → Snd n be (l.foldl (fun o _ => pas o be) o) := by
    intro l
    induction l with
    | nil => intro o h; exact h
    | cons x l ih => intro o h; exact ih _ (h.rnd hv be fun _ h => h)
  exact cloOf_eq hv ((h ▸ hs _ _ (Snd.zero n be)).clo hv h2)

theorem cloOf_bit {n be} (hv : Val n be) (a b : Nat) (hb : b < n) : (nth (cloOf n be) b).testBit a = true ↔ Ch be a b :=
  ⟨(clo_of hv).snd a b hb, (clo_of hv).cmp a b⟩

end Go.Proofs.Ytlbhefiehkmhjaa.K
