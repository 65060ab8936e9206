/- The abstract machine, part 33: an own row becomes a value where it stands. -/
import Derived.Test.YtlbhefiehkmhjaaA6
set_option linter.unusedVariables false
set_option linter.unusedSimpArgs false
namespace Go.AM
open Go.RowKit

/-- a value, where the own row o is a value from now on -/
def fzV (o : Nat) (xs : List PV) : V → V
  | .sl o' off len tot => if o' = o ∧ xs.length = tot ∧ off + len ≤ tot then .p (.list false ((xs.take (off + len)).drop off)) else .sl o' off len tot
  | x => x
def fzO (o : Nat) (xs : List PV) : Obj → Obj
  | .cells cs => .cells (cs.map (fzV o xs))
  | x => x
def fzH (o : Nat) (xs : List PV) (H : List Obj) : List Obj := (H.map (fzO o xs)).set o .dead

theorem Weak.fz {n0 fr H} (o : Nat) {S : Nat} {xs : List PV} (ho : H[o]? = some (.elems S xs)) : Weak n0 fr H (fr.map (fzV o xs)) (fzH o xs H) := fun F ι a w hr hf => by
  have hol := (List.getElem?_eq_some_iff.1 ho).1
  have hlen := hr.len
  have gne : ∀ {i : Nat}, i ≠ o → (fzH o xs H)[i]? = (H[i]?).map (fzO o xs) := fun {i} hi => by
    rw [fzH, List.getElem?_set_ne (fun h => hi h.symm), List.getElem?_map]
  have geq : (fzH o xs H)[o]? = some .dead := by rw [fzH]; simp [hol]
  have ine : ∀ {i : Nat}, i ≠ o → (ι.set o none)[i]? = ι[i]? := fun {i} hi => List.getElem?_set_ne (fun h => hi h.symm)
  have ieq : (ι.set o none)[o]? = some none := by simp [hlen, hol]
  have hsub : ∀ {i b : Nat}, (ι.set o none)[i]? = some (some b) → i ≠ o ∧ ι[i]? = some (some b) := fun {i b} hi => by
    by_cases h : i = o
    · subst h; rw [ieq] at hi; cases hi
    · exact ⟨h, by rw [← ine h]; exact hi⟩
  have hown : ∀ b, Own F (ι.set o none) b → Own F ι b := fun b hb => by
    rcases hb with hb | hb
    · exact .inl hb
    · obtain ⟨i, hi⟩ := List.mem_iff_getElem?.1 hb
      exact .inr (List.mem_of_getElem? (hsub hi).2)
  have hX : Keeps (Own F ι) w (Own F (ι.set o none)) w := fun b hb hs => ⟨fun h => hb (hown b h), hs, rfl⟩
  have hHX : HX H ι w (fzH o xs H) (ι.set o none) w := fun i ob hi => by
    by_cases h : i = o
    · subst h; exact .inl geq
    · have e : (fzH o xs H)[i]? = some (fzO o xs ob) := by rw [gne h, hi]; rfl
      cases ob with
      | dead => exact .inl e
      | cells cs => exact .inr ⟨⟨_, e⟩, ine h⟩
      | elems S xs => exact .inr ⟨_, e, .inr ⟨rfl, ine h, fun b c t _ hc => ⟨c, hc, rfl⟩⟩⟩
  have hval : ∀ {x v}, RV F H ι w x v → RV F (fzH o xs H) (ι.set o none) w (fzV o xs x) v := fun {x v} hv => by
    unfold fzV
    split
    · rename_i o' off len tot
      split
      · rename_i hc
        obtain ⟨rfl, h1, h2⟩ := hc
        refine .p _ _ (rp_own _ (fun b hb h => ?_) hX hr ho h1 h2 hv)
        rcases h with h | h
        · exact (hr.avo _ b hb).1 h
        · obtain ⟨i, hi⟩ := List.mem_iff_getElem?.1 h
          obtain ⟨h3, h4⟩ := hsub hi
          exact h3 (hr.inj _ _ _ h4 hb)
      · exact hv.ext hX hHX
    · exact hv.ext hX hHX
  have hrel : Rel F (fzH o xs H) (ι.set o none) w := by
    refine ⟨by simp [fzH, hlen], hr.fin, fun i j b hi hj => hr.inj i j b (hsub hi).2 (hsub hj).2, fun i b hi => hr.avo i b (hsub hi).2, fun i cs hi => ?_, fun i S' ys hi => ?_⟩
    · by_cases h : i = o
      · subst h; rw [geq] at hi; cases hi
      · rw [gne h] at hi
        obtain ⟨ob, h1, h2⟩ := Option.map_eq_some_iff.1 hi
        cases ob <;> simp only [fzO] at h2 <;> try cases h2
        rename_i cs0
        obtain ⟨b, c, t, e1, e2, e3, e4⟩ := hr.cel i cs0 h1
        refine ⟨b, c, t, by rw [ine h]; exact e1, e2, by simpa using e3, fun j x hj => ?_⟩
        rw [List.getElem?_map] at hj
        obtain ⟨y, h5, rfl⟩ := Option.map_eq_some_iff.1 hj
        exact hval (e4 j y h5)
    · by_cases h : i = o
      · subst h; rw [geq] at hi; cases hi
      · rw [gne h] at hi
        obtain ⟨ob, h1, h2⟩ := Option.map_eq_some_iff.1 hi
        cases ob <;> simp only [fzO] at h2 <;> try cases h2
        rcases hr.elm i _ _ h1 with ⟨e1, e2⟩ | ⟨b, c, t, cap, e1, e2, e3, e4, e5, e6, e7⟩
        · exact .inl ⟨by rw [ine h]; exact e1, e2⟩
        · exact .inr ⟨b, c, t, cap, by rw [ine h]; exact e1, e2, e3, e4, e5, e6, fun i x j y hi hj => (e7 i x j y hi hj).ext hX⟩
  have hg : Good F H ι w (fzH o xs H) (ι.set o none) w := ⟨hrel, rfl, rfl, rfl, Nat.le_refl _, fun _ _ _ => rfl, fun b hb hno h => by
    obtain ⟨i, hi⟩ := List.mem_iff_getElem?.1 h
    exact hno (List.mem_of_getElem? (hsub hi).2), hHX⟩
  refine ⟨ι.set o none, hrel, ⟨by simpa using hf.1, hf.2.1, fun i x hi => ?_⟩, fun H0 ι0 w0 _ g => g.trans hg⟩
  rw [List.getElem?_map] at hi
  obtain ⟨y, h5, rfl⟩ := Option.map_eq_some_iff.1 hi
  exact hval (hf.2.2 i y h5)

@[go_sem] theorem fzH_eq {o xs H} : fzH o xs H = (H.map (fzO o xs)).set o .dead := rfl
@[go_sem] theorem fzO_cells {o xs cs} : fzO o xs (.cells cs) = .cells (cs.map (fzV o xs)) := rfl
@[go_sem] theorem fzO_elems {o xs S ys} : fzO o xs (.elems S ys) = .elems S ys := rfl
@[go_sem] theorem fzO_dead {o xs} : fzO o xs .dead = .dead := rfl
@[go_sem] theorem fzV_p {o xs x} : fzV o xs (.p x) = .p x := rfl
@[go_sem] theorem fzV_agg {o xs x} : fzV o xs (.agg x) = .agg x := rfl
@[go_sem] theorem fzV_fn {o xs f a b} : fzV o xs (.fn f a b) = .fn f a b := rfl
@[go_sem] theorem fzV_ptr {o xs a b} : fzV o xs (.ptr a b) = .ptr a b := rfl
@[go_sem] theorem fzV_ep {o xs a b c d} : fzV o xs (.ep a b c d) = .ep a b c d := rfl
@[go_sem] theorem fzV_lp {o xs a b} : fzV o xs (.lp a b) = .lp a b := rfl
@[go_sem] theorem fzV_tup {o xs a} : fzV o xs (.tup a) = .tup a := rfl
@[go_sem] theorem fzV_junk {o xs} : fzV o xs .junk = .junk := rfl
def fzW (xs : List PV) (o n : Nat) : V := if xs.length = n then .p (.list false xs) else .sl o 0 n n
@[go_sem] theorem fzV_sl {o xs o' n} : fzV o xs (.sl o' 0 n n) = if o' = o then fzW xs o n else .sl o' 0 n n := by
  by_cases h : o' = o
  · subst h
    by_cases h2 : xs.length = n
    · subst h2; simp [fzV, fzW]
    · simp [fzV, fzW, h2]
  · simp [fzV, h]
@[go_sem low] theorem fzW_eq {xs o n} : fzW xs o n = if xs.length = n then .p (.list false xs) else .sl o 0 n n := rfl
@[go_sem] theorem fzW_map {α : Type} {f : α → PV} {l : List α} {o} : fzW (l.map f) o l.length = .p (.list false (l.map f)) := by simp [fzW]
@[go_sem] theorem fzW_nil {o} : fzW [] o 0 = .p (.list false []) := by simp [fzW]
@[go_sem] theorem fzW_one {x o} : fzW [x] o 1 = .p (.list false [x]) := by simp [fzW]
@[go_sem] theorem fzW_two {x y o} : fzW [x, y] o 2 = .p (.list false [x, y]) := by simp [fzW]
@[go_sem] theorem fzW_three {x y z o} : fzW [x, y, z] o 3 = .p (.list false [x, y, z]) := by simp [fzW]
@[go_sem] theorem fzW_snoc {α : Type} {f : α → PV} {l : List α} {x o} : fzW (l.map f ++ [x]) o (l.length + 1) = .p (.list false (l.map f ++ [x])) := by simp [fzW]
@[go_sem] theorem fzW_app {α β : Type} {f : α → PV} {g : β → PV} {l : List α} {m : List β} {o} : fzW (l.map f ++ m.map g) o (l.length + m.length) = .p (.list false (l.map f ++ m.map g)) := by simp [fzW]

theorem ACalls.pureE {P g args} {α : Type} {f : α → PV} {R : α → Prop} (h : ACalls P g args [] fun x _ => ∃ a, R a ∧ x = .p (f a)) : ACalls P g args [] fun x H' => ∃ a, R a ∧ x = .p (f a) ∧ H' = [] :=
  ⟨h.1, fun F ι w vs hr hv => (h.2 F ι w vs hr hv).mono fun e w' ⟨x, H', ι', v, he, ⟨a, ha, hx⟩, g, r⟩ => by
    have hi : ι = [] := List.eq_nil_of_length_eq_zero hr.len
    subst hi
    subst hx
    refine ⟨.p (f a), [], [], v, he, ⟨a, ha, rfl, rfl⟩, g.forget hr.fin, ?_⟩
    cases r with | p _ _ r =>
    exact .p _ _ (r.weaker fun b hb => by
      rcases hb with hb | hb
      · exact .inl hb
      · simp at hb)⟩
end Go.AM
