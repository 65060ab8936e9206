/- The abstract machine, part 32: a contract whose arguments say less. -/
import Derived.Test.YtlbhefiehkmhjaaA5
set_option linter.unusedVariables false
set_option linter.unusedSimpArgs false
namespace Go.AM
open Go.RowKit

/-- what is handed over, made less -/
theorem ACalls.weakA {P g} {args args' : List V} {H H' : List Obj} {Q : V → List Obj → Prop} (h : Weak H.length args H args' H') (k : ACalls P g args' H' Q) : ACalls P g args H Q :=
  ⟨k.1, fun F ι w vs hr hv => by
    obtain ⟨ι', r, f, g⟩ := h F ι { tmps := vs, defers := [] } w hr ⟨hv.1, rfl, fun i x hi => hv.2 i x hi⟩
    refine (k.2 F ι' w vs r ⟨f.1, fun j c hj => f.2.2 j c hj⟩).mono ?_
    rintro e w' ⟨x, H2, ι2, v, he, q, gd, rv⟩
    exact ⟨x, H2, ι2, v, he, q, (g H ι w (Nat.le_refl _) (Good.refl hr)).trans gd, rv⟩⟩

/-- a joint behind the second of three pieces -/
theorem awp_join2 {P a b y fr H Q} {I : Type} (ks : List Nat) (sets : I → List (Nat × V)) (hs : I → List Obj) (R : I → Prop)
    (h : awp [] P a fr H (thenA (fun fr1 H1 => awp [] P b fr1 H1 (thenA (fun fr' H' => ∃ i, R i ∧ Weak H.length fr' H' (setL (sets i) (keepL 0 ks fr)) (hs i)) Q)) Q))
    (k : ∀ i, R i → AWP P y (setL (sets i) (keepL 0 ks fr)) (hs i) Q) : AWP P (.seq a (.seq b y)) fr H Q := fun F ι act w hr hf => by
  refine wp_seq (wp_mono (awp_sound [] _ _ _ _ h F ι act w hr hf) ?_)
  rintro e a1 w1 ⟨fr1, H1, ι1, q1, g1, f1⟩
  cases e with
  | normal =>
    refine wp_seq (wp_mono (awp_sound [] _ _ _ _ q1 F ι1 a1 w1 g1.rel f1) ?_)
    rintro e a2 w2 ⟨fr2, H2, ι2, q2, g2, f2⟩
    cases e with
    | normal =>
      obtain ⟨i, hi, hw⟩ := q2
      obtain ⟨ι3, r3, f3, g3⟩ := hw F ι2 a2 w2 g2.rel f2
      refine wp_mono (k i hi F ι3 a2 w2 r3 f3) ?_
      rintro e4 a4 w4 ⟨fr4, H4, ι4, q4, g4, f4⟩
      exact ⟨fr4, H4, ι4, q4, (g3 H ι w (Nat.le_refl _) (g1.trans g2)).trans g4, f4⟩
    | exit id => exact ⟨fr2, H2, ι2, q2, g1.trans g2, f2⟩
    | goto l => exact ⟨fr2, H2, ι2, q2, g1.trans g2, f2⟩
    | ret => exact ⟨fr2, H2, ι2, q2, g1.trans g2, f2⟩
    | panic ch => exact ⟨fr2, H2, ι2, q2, g1.trans g2, f2⟩
    | outgrown => exact ⟨fr2, H2, ι2, q2, g1.trans g2, f2⟩
  | exit id => exact ⟨fr1, H1, ι1, q1, g1, f1⟩
  | goto l => exact ⟨fr1, H1, ι1, q1, g1, f1⟩
  | ret => exact ⟨fr1, H1, ι1, q1, g1, f1⟩
  | panic ch => exact ⟨fr1, H1, ι1, q1, g1, f1⟩
  | outgrown => exact ⟨fr1, H1, ι1, q1, g1, f1⟩

/-- an own row that is given up, as a value -/
def frzP (ob : Obj) (n o t : Nat) (y : PV) : Prop := match ob with
  | .elems _ xs => n ≤ o ∧ xs.length = t ∧ y = .list false xs
  | _ => False
@[go_sem] theorem wkV_slp {H : List Obj} {n o t y} : wkV H n (.sl o 0 t t) (.p y) = frzP (oat H o) n o t y := by
  rw [wkV_frz]
  simp only [frz]
  cases oat H o with
  | cells cs => simp [frzP]
  | dead => simp [frzP]
  | elems S xs =>
    simp only [frzP, Nat.zero_add, Nat.le_refl, and_true, List.drop_zero]
    by_cases h : n ≤ o ∧ xs.length = t
    · obtain ⟨h1, h2⟩ := h
      subst h2
      simp [h1, eq_comm]
    · simp only [h, if_false]
      simp only [reduceCtorEq, false_iff, eq_iff_iff]
      exact fun ⟨a, b, _⟩ => h ⟨a, b⟩
@[go_sem low] theorem frzP_elems {S xs n o t y} : frzP (.elems S xs) n o t y = (n ≤ o ∧ xs.length = t ∧ y = .list false xs) := rfl
@[go_sem] theorem frzP_map {α : Type} {f : α → PV} {l : List α} {S n o y} : frzP (.elems S (l.map f)) n o l.length y = (n ≤ o ∧ y = .list false (l.map f)) := by simp [frzP]
theorem take_map_len {α β : Type} {f : α → β} {l : List α} : List.take l.length (l.map f) = l.map f := by rw [← List.map_take, List.take_length]
@[go_sem] theorem vc_fn {H : List Obj} {f a b} : vc H (.fn f a b) = some [.fn f a b] := Eq.trans rfl rfl
end Go.AM
