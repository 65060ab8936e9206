/- What an accepted instance is; rows of which only their emptiness is told. -/
import Derived.Test.YtlbhefiehkmhjaaT1
set_option linter.unusedVariables false
set_option linter.unusedSimpArgs false
namespace Go.Proofs.Ytlbhefiehkmhjaa.K
open Go Go.AM Go.Proofs

/-- a fault -/
abbrev Flt := Int × List UInt8
def eF (f : Flt) : PV := .agg [.int .i64 f.1, .str f.2]
@[go_sem] theorem eF_eq (f : Flt) : eF f = .agg [.int .i64 f.1, .str f.2] := Eq.trans rfl rfl
@[go_sem] theorem okE_eF (l : List Flt) : okE 2 (l.map eF) = true := okE_map fun _ => rfl
@[go_sem] theorem allS_eF (l : List Flt) : allS 2 (l.map eF) = true := allS_map (f := eF) (S := 2) (fun _ => rfl) l

def dec (n : Nat) : List UInt8 := if h : n < 10 then [UInt8.ofNat (48 + n)] else dec (n / 10) ++ [UInt8.ofNat (48 + n % 10)]
termination_by n
decreasing_by omega
theorem dec_len : ∀ (k n : Nat), n < k → (dec n).length ≤ n + 1 := by
  intro k
  induction k with
  | zero => intro n h; omega
  | succ k ih =>
    intro n h
    rw [dec]
    split
    · simp
    · have := ih (n / 10) (by omega)
      simp
      omega
theorem dec_digits : ∀ (d n : Nat), n < 10 ^ (d + 1) → (dec n).length ≤ d + 1 := by
  intro d
  induction d with
  | zero => intro n h; rw [dec, dif_pos (by omega)]; simp
  | succ d ih =>
    intro n h
    rw [dec]
    split
    · simp
    · have := ih (n / 10) (by rw [Nat.div_lt_iff_lt_mul (by omega)]; rw [Nat.pow_succ] at h; exact h)
      simp
      omega
def decI (n : Int) : List UInt8 := if n < 0 then 45 :: dec n.natAbs else dec n.natAbs
theorem decI_len (n : Int) (h : I64 n) : (decI n).length ≤ 20 := by
  have h1 : n.natAbs < 10 ^ (18 + 1) := by omega
  have := dec_digits 18 n.natAbs h1
  unfold decI
  split <;> simp <;> omega


/-- a row that is empty just if C holds, of at most b elements -/
structure FR {α : Type} (p : α → Prop) (C : Prop) (b : Nat) (l : List α) : Prop where
  len : l.length ≤ b
  emp : l = [] ↔ C
  all : ∀ x ∈ l, p x
theorem FR.nil {α : Type} {p : α → Prop} {C : Prop} {b : Nat} (h : C) : FR p C b [] := ⟨by simp, by simp [h], by simp⟩
theorem FR.no {α : Type} {p : α → Prop} {C c : Prop} {b : Nat} {l : List α} (h : FR p C b l) (hc : c) : FR p (C ∧ c) (b + 1) l := ⟨by have := h.len; omega, by rw [h.emp]; simp [hc], h.all⟩
theorem FR.yes {α : Type} {p : α → Prop} {C c : Prop} {b : Nat} {l : List α} {x : α} (h : FR p C b l) (hc : ¬ c) (hx : p x) : FR p (C ∧ c) (b + 1) (l ++ [x]) :=
  ⟨by have := h.len; simp; omega, by simp [hc], fun y hy => by
    rcases List.mem_append.1 hy with hy | hy
    · exact h.all y hy
    · simp at hy; subst hy; exact hx⟩
theorem FR.app {α : Type} {p : α → Prop} {C D : Prop} {b d : Nat} {l m : List α} (h : FR p C b l) (k : FR p D d m) : FR p (C ∧ D) (b + d) (l ++ m) :=
  ⟨by have := h.len; have := k.len; simp; omega, by rw [List.append_eq_nil_iff, h.emp, k.emp], fun y hy => by
    rcases List.mem_append.1 hy with hy | hy
    · exact h.all y hy
    · exact k.all y hy⟩
theorem FR.to {α : Type} {p : α → Prop} {C D : Prop} {b d : Nat} {l : List α} (h : FR p C b l) (hb : b ≤ d) (hc : C ↔ D) : FR p D d l := ⟨Nat.le_trans h.len hb, h.emp.trans hc, h.all⟩
theorem upto_iff {p : Nat → Prop} {k : Nat} : (∀ j, j < k + 1 → p j) ↔ ((∀ j, j < k → p j) ∧ p k) :=
  ⟨fun h => ⟨fun j hj => h j (by omega), h k (by omega)⟩, fun h j hj => by
    rcases Nat.lt_or_ge j k with h1 | h1
    · exact h.1 j h1
    · have : j = k := by omega
      rw [this]; exact h.2⟩

def isDigit (c : UInt8) : Bool := decide (48 ≤ c.toNat ∧ c.toNat ≤ 57)
def isLetter (c : UInt8) : Bool := decide (97 ≤ c.toNat ∧ c.toNat ≤ 122) || decide (65 ≤ c.toNat ∧ c.toNat ≤ 90) || decide (c.toNat = 95)
def nameOk (s : List UInt8) : Bool := decide (1 ≤ s.length) && decide (s.length ≤ 16) && !isDigit (nth s 0) && s.all fun c => isLetter c || isDigit c

def rng (n lo hi : Int) : Bool := decide (lo ≤ n ∧ n ≤ hi)
def tick (n : Int) : Bool := rng n 0 4096
/-- a travel function -/
def ptOk (l : List Pt) (i : Nat) : Prop := (0 ≤ (nth l i).t ∧ (nth l i).t ≤ 4096 ∧ (nth l i).t ≤ (nth l i).a ∧ (nth l i).a ≤ (nth l i).t + 4096) ∧ (0 < i → (nth l (i - 1)).t < (nth l i).t ∧ (nth l (i - 1)).a ≤ (nth l i).a)
def ptsOk (l : List Pt) : Prop := (1 ≤ l.length ∧ l.length ≤ 16) ∧ ∀ i, i < l.length → ptOk l i
def slowOk (l : List Pt) (i : Nat) : Prop := tick (nth l i).t = true ∧ tick (nth l i).a = true ∧ (0 < i → (nth l (i - 1)).t < (nth l i).t)
/-- an arc -/
def arcOk (n : Net) (i : Nat) : Prop :=
  ((((((0 ≤ (nth n.arcs i).src ∧ (nth n.arcs i).src < n.places.length ∧ 0 ≤ (nth n.arcs i).dst ∧ (nth n.arcs i).dst < n.places.length) ∧
  (0 ≤ (nth n.arcs i).prof ∧ (nth n.arcs i).prof ≤ 7 ∧ 0 ≤ (nth n.arcs i).miles ∧ (nth n.arcs i).miles ≤ 10000 ∧ (nth n.arcs i).src ≠ (nth n.arcs i).dst)) ∧
  (∀ k, k < i → ¬ ((nth n.arcs i).src = (nth n.arcs k).src ∧ (nth n.arcs i).dst = (nth n.arcs k).dst ∧ (nth n.arcs i).prof = (nth n.arcs k).prof))) ∧
  ptsOk (nth n.arcs i).travel) ∧ (nth n.arcs i).slow.length ≤ 16) ∧ ∀ k, k < (nth n.arcs i).slow.length → slowOk (nth n.arcs i).slow k)
def plOk (n : Net) (i : Nat) : Prop := nameOk (nth n.places i) = true ∧ ∀ k, k < i → nth n.places k ≠ nth n.places i
def placesOk (n : Net) : Prop := n.places.length ≤ 24 ∧ ∀ i, i < n.places.length → plOk n i
def netOk (n : Net) : Prop := (placesOk n ∧ n.arcs.length ≤ 1024) ∧ ∀ i, i < n.arcs.length → arcOk n i
end Go.Proofs.Ytlbhefiehkmhjaa.K
