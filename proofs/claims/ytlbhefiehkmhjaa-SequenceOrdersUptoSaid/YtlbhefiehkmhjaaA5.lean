/- The abstract machine, part 31: a contract on the first objects of a heap holds where more objects stand behind them. -/
import Derived.Test.YtlbhefiehkmhjaaA4
set_option linter.unusedVariables false
set_option linter.unusedSimpArgs false
namespace Go.AM
open Go.RowKit

theorem own_swap {F : Nat → Prop} {ι0 ιL : List (Option Nat)} : Own (Own F ιL) ι0 = Own F (ι0 ++ ιL) := by
  funext b
  simp only [Own, List.mem_append, eq_iff_iff]
  constructor
  · rintro ((h | h) | h)
    · exact .inl h
    · exact .inr (.inr h)
    · exact .inr (.inl h)
  · rintro (h | h | h)
    · exact .inl (.inl h)
    · exact .inr h
    · exact .inl (.inr h)

theorem RV.narrow {F H0 L ι0 ιL w x v} (hl : ι0.length = H0.length) (h : RV F (H0 ++ L) (ι0 ++ ιL) w x v) (hn : refB H0.length x = true) : RV (Own F ιL) H0 ι0 w x v := by
  have gi : ∀ {o : Nat}, o < H0.length → (ι0 ++ ιL)[o]? = ι0[o]? := fun h => List.getElem?_append_left (by rw [hl]; exact h)
  have gH : ∀ {o : Nat}, o < H0.length → (H0 ++ L)[o]? = H0[o]? := fun h => List.getElem?_append_left h
  induction h with
  | p x v h => refine .p _ _ ?_; rw [own_swap]; exact h
  | agg cs a hs _ ih => exact .agg cs a hs fun j c hj => ih j c hj (refBs_get (by simpa [refB] using hn) j c hj)
  | fn f cs ds a e hs ht _ _ ih1 ih2 =>
    simp [refB] at hn
    exact .fn f cs ds a e hs ht (fun j c hj => ih1 j c hj (refBs_get hn.1 j c hj)) (fun j c hj => ih2 j c hj (refBs_get hn.2 j c hj))
  | tup cs a hs _ ih => exact .tup cs a hs fun j c hj => ih j c hj (refBs_get (by simpa [refB] using hn) j c hj)
  | ptr o off b cs h hH => simp [refB] at hn; exact .ptr _ _ b cs (by rw [← gi hn]; exact h) (by rw [← gH hn]; exact hH)
  | ep o i j tot b S xs h hH ht => simp [refB] at hn; exact .ep _ _ _ _ b S xs (by rw [← gi hn]; exact h) (by rw [← gH hn]; exact hH) ht
  | slNil o S a h hH => simp [refB] at hn; exact .slNil _ S a (by rw [← gi hn]; exact h) (by rw [← gH hn]; exact hH)
  | sl o off len tot b S cap t xs c h hH ht hw hcap hl' hlen hm => simp [refB] at hn; exact .sl _ _ _ _ b S cap t xs c (by rw [← gi hn]; exact h) (by rw [← gH hn]; exact hH) ht hw hcap hl' hlen hm
  | lp x j b off u hX' hb hu hq => exact .lp x j b off u (by rw [own_swap]; exact hX') hb hu (fun j c hj => by rw [own_swap]; exact hq j c hj)
  | junk v => exact .junk v
  | ptrD o off v h => simp [refB] at hn; exact .ptrD _ _ _ (by rw [← gH hn]; exact h)
  | epD o i j tot v h => simp [refB] at hn; exact .epD _ _ _ _ _ (by rw [← gH hn]; exact h)
  | slD o off len tot v h => simp [refB] at hn; exact .slD _ _ _ _ _ (by rw [← gH hn]; exact h)
  | epS o i j tot v S xs h hne => simp [refB] at hn; exact .epS _ _ _ _ _ S xs (by rw [← gH hn]; exact h) hne
  | slS o off len tot v S xs h hne => simp [refB] at hn; exact .slS _ _ _ _ _ S xs (by rw [← gH hn]; exact h) hne

theorem RV.widen {F H0 L ι0 ιL w x v} (h : RV (Own F ιL) H0 ι0 w x v) : RV F (H0 ++ L) (ι0 ++ ιL) w x v := by
  have gi : ∀ {o : Nat} {q}, ι0[o]? = some q → (ι0 ++ ιL)[o]? = some q := fun h => by rw [List.getElem?_append_left (List.getElem?_eq_some_iff.1 h).1]; exact h
  have gH : ∀ {o : Nat} {q}, H0[o]? = some q → (H0 ++ L)[o]? = some q := fun h => by rw [List.getElem?_append_left (List.getElem?_eq_some_iff.1 h).1]; exact h
  induction h with
  | p x v h => rw [own_swap] at h; exact .p _ _ h
  | agg cs a hs _ ih => exact .agg cs a hs ih
  | fn f cs ds a e hs ht _ _ ih1 ih2 => exact .fn f cs ds a e hs ht ih1 ih2
  | tup cs a hs _ ih => exact .tup cs a hs ih
  | ptr o off b cs h hH => exact .ptr _ _ b cs (gi h) (gH hH)
  | ep o i j tot b S xs h hH ht => exact .ep _ _ _ _ b S xs (gi h) (gH hH) ht
  | slNil o S a h hH => exact .slNil _ S a (gi h) (gH hH)
  | sl o off len tot b S cap t xs c h hH ht hw hcap hl' hlen hm => exact .sl _ _ _ _ b S cap t xs c (gi h) (gH hH) ht hw hcap hl' hlen hm
  | lp x j b off u hX' hb hu hq => rw [own_swap] at hX'; exact .lp x j b off u hX' hb hu (fun j c hj => by have := hq j c hj; rw [own_swap] at this; exact this)
  | junk v => exact .junk v
  | ptrD o off v h => exact .ptrD _ _ _ (gH h)
  | epD o i j tot v h => exact .epD _ _ _ _ _ (gH h)
  | slD o off len tot v h => exact .slD _ _ _ _ _ (gH h)
  | epS o i j tot v S xs h hne => exact .epS _ _ _ _ _ S xs (gH h) hne
  | slS o off len tot v S xs h hne => exact .slS _ _ _ _ _ S xs (gH h) hne

theorem app_cases {α : Type} {A B : List α} {i : Nat} {x : α} (h : (A ++ B)[i]? = some x) : (i < A.length ∧ A[i]? = some x) ∨ (∃ j, i = A.length + j ∧ B[j]? = some x) := by
  by_cases hlt : i < A.length
  · rw [List.getElem?_append_left hlt] at h; exact .inl ⟨hlt, h⟩
  · rw [List.getElem?_append_right (by omega)] at h; exact .inr ⟨i - A.length, by omega, h⟩
theorem app_right {α : Type} {A B : List α} {j : Nat} : (A ++ B)[A.length + j]? = B[j]? := by
  rw [List.getElem?_append_right (by omega)]; congr 1; omega

/-- the values in the cells of the first objects lead to these alone -/
def refH (n : Nat) (H : List Obj) : Bool := H.all fun o => match o with | .cells cs => refBs n cs | _ => true
theorem refH_get {n : Nat} {H : List Obj} (h : refH n H = true) {o : Nat} {cs : List V} (ho : H[o]? = some (.cells cs)) {j : Nat} {x : V} (hj : cs[j]? = some x) : refB n x = true := by
  have := List.all_eq_true.1 h _ (List.mem_of_getElem? ho)
  exact refBs_get this j x hj

theorem Rel.front {F H0 L ι0 ιL w} (hl : ι0.length = H0.length) (hf : refH H0.length H0 = true) (hr : Rel F (H0 ++ L) (ι0 ++ ιL) w) : Rel (Own F ιL) H0 ι0 w := by
  have gi : ∀ {o : Nat} {q}, ι0[o]? = some q → (ι0 ++ ιL)[o]? = some q := fun h => by rw [List.getElem?_append_left (List.getElem?_eq_some_iff.1 h).1]; exact h
  have gH : ∀ {o : Nat} {q}, H0[o]? = some q → (H0 ++ L)[o]? = some q := fun h => by rw [List.getElem?_append_left (List.getElem?_eq_some_iff.1 h).1]; exact h
  have gi' : ∀ {o : Nat} {q}, o < H0.length → (ι0 ++ ιL)[o]? = some q → ι0[o]? = some q := fun ho h => by rwa [List.getElem?_append_left (by rw [hl]; exact ho)] at h
  have lt : ∀ {o : Nat} {q : Obj}, H0[o]? = some q → o < H0.length := fun h => (List.getElem?_eq_some_iff.1 h).1
  refine ⟨hl, fun b hb => ?_, fun i j b hi hj => hr.inj i j b (gi hi) (gi hj), fun i b hi => ?_, fun o cs ho => ?_, fun o S xs ho => ?_⟩
  · rcases hb with hb | hb
    · exact hr.fin b hb
    · obtain ⟨i, hi⟩ := List.mem_iff_getElem?.1 hb
      exact (hr.avo (ι0.length + i) b (by rw [app_right]; exact hi)).2
  · obtain ⟨a1, a2⟩ := hr.avo i b (gi hi)
    refine ⟨fun h => ?_, a2⟩
    rcases h with h | h
    · exact a1 h
    · obtain ⟨j, hj⟩ := List.mem_iff_getElem?.1 h
      have := hr.inj i (ι0.length + j) b (gi hi) (by rw [app_right]; exact hj)
      have := (List.getElem?_eq_some_iff.1 hi).1
      omega
  · obtain ⟨b, c, t, e1, e2, e3, e4⟩ := hr.cel o cs (gH ho)
    exact ⟨b, c, t, gi' (lt ho) e1, e2, e3, fun j x hj => (e4 j x hj).narrow hl (refH_get hf ho hj)⟩
  · rcases hr.elm o S xs (gH ho) with ⟨e1, e2⟩ | ⟨b, c, t, cap, e1, e2, e3, e4, e5, e6, e7⟩
    · exact .inl ⟨gi' (lt ho) e1, e2⟩
    · exact .inr ⟨b, c, t, cap, gi' (lt ho) e1, e2, e3, e4, e5, e6, fun i x j y hi hj => by rw [own_swap]; exact e7 i x j y hi hj⟩

theorem Good.front {F H0 L ι0 ιL w H1 ι1 w'} (hl : ι0.length = H0.length) (hr : Rel F (H0 ++ L) (ι0 ++ ιL) w) (g : Good (Own F ιL) H0 ι0 w H1 ι1 w') (hn : H1.length = H0.length) : Good F (H0 ++ L) (ι0 ++ ιL) w (H1 ++ L) (ι1 ++ ιL) w' := by
  have hl1 := g.rel.len
  have hLlen : ιL.length = L.length := by have := hr.len; simp at this; omega
  have disj : ∀ {b : Nat}, some b ∈ ιL → some b ∉ ι0 := fun {b} hb h => by
    obtain ⟨i, hi⟩ := List.mem_iff_getElem?.1 hb
    obtain ⟨j, hj⟩ := List.mem_iff_getElem?.1 h
    have hjl := (List.getElem?_eq_some_iff.1 hj).1
    have := hr.inj (ι0.length + i) j b (by rw [app_right]; exact hi) (by rw [List.getElem?_append_left hjl]; exact hj)
    omega
  have oldL : ∀ {j b : Nat}, ιL[j]? = some (some b) → b < w.heap.size ∧ w'.heap[b]? = w.heap[b]? := fun {j b} h => by
    have h1 := (hr.avo (ι0.length + j) b (by rw [app_right]; exact h)).2
    exact ⟨h1, g.keep b h1 (disj (List.mem_of_getElem? h))⟩
  have hKeeps : Keeps (Own F (ι0 ++ ιL)) w (Own F (ι1 ++ ιL)) w' := fun b hb hs => by
    have h0 : some b ∉ ι0 := fun h => hb (.inr (by simp [h]))
    refine ⟨fun h => ?_, by have := g.size; omega, g.keep b hs h0⟩
    rcases h with h | h
    · exact hb (.inl h)
    · rcases List.mem_append.1 h with h | h
      · exact g.own b hs h0 h
      · exact hb (.inr (by simp [h]))
  have hHX : HX (H0 ++ L) (ι0 ++ ιL) w (H1 ++ L) (ι1 ++ ιL) w' := fun o ob ho => by
    rcases app_cases ho with ⟨hlt, h0⟩ | ⟨j, rfl, hj⟩
    · have e1 : ∀ {q}, H1[o]? = some q → (H1 ++ L)[o]? = some q := fun h => by rw [List.getElem?_append_left (by omega)]; exact h
      have e2 : (ι0 ++ ιL)[o]? = ι0[o]? := List.getElem?_append_left (by omega)
      have e3 : (ι1 ++ ιL)[o]? = ι1[o]? := List.getElem?_append_left (by omega)
      rcases g.hx o ob h0 with h | h
      · exact .inl (e1 h)
      · right
        cases ob with
        | dead => exact h.elim
        | cells cs => exact ⟨by obtain ⟨cs', h⟩ := h.1; exact ⟨cs', e1 h⟩, by rw [e2, e3]; exact h.2⟩
        | elems S xs =>
          obtain ⟨xs', h1, h2⟩ := h
          exact ⟨xs', e1 h1, by rw [e2, e3]; exact h2⟩
    · have e1 : (H1 ++ L)[H0.length + j]? = some ob := by rw [← hn, app_right]; exact hj
      have e2 : (ι0 ++ ιL)[H0.length + j]? = ιL[j]? := by rw [← hl, app_right]
      have e3 : (ι1 ++ ιL)[H0.length + j]? = ιL[j]? := by rw [← hn, ← hl1, app_right]
      cases ob with
      | dead => exact .inl e1
      | cells cs => exact .inr ⟨⟨_, e1⟩, by rw [e2, e3]⟩
      | elems S xs => exact .inr ⟨_, e1, .inr ⟨rfl, by rw [e2, e3], fun b c t hb hc => ⟨c, by rw [e2] at hb; rw [(oldL hb).2]; exact hc, rfl⟩⟩⟩
  refine ⟨⟨by simp; omega, fun b hb => by have := hr.fin b hb; have := g.size; omega, fun i j b hi hj => ?_, fun i b hi => ?_, fun o cs ho => ?_, fun o S xs ho => ?_⟩, g.os, g.tape, g.output, g.size, fun b hb ho => ?_, fun b hb ho h => ?_, hHX⟩
  · rcases app_cases hi with ⟨h1, h2⟩ | ⟨i1, rfl, h2⟩ <;> rcases app_cases hj with ⟨k1, k2⟩ | ⟨j1, rfl, k2⟩
    · exact g.rel.inj i j b h2 k2
    · exact absurd (.inr (List.mem_of_getElem? k2)) (g.rel.avo i b h2).1
    · exact absurd (.inr (List.mem_of_getElem? h2)) (g.rel.avo j b k2).1
    · have := hr.inj (ι0.length + i1) (ι0.length + j1) b (by rw [app_right]; exact h2) (by rw [app_right]; exact k2)
      omega
  · rcases app_cases hi with ⟨h1, h2⟩ | ⟨i1, rfl, h2⟩
    · obtain ⟨a1, a2⟩ := g.rel.avo i b h2
      exact ⟨fun h => a1 (.inl h), a2⟩
    · obtain ⟨a1, a2⟩ := hr.avo (ι0.length + i1) b (by rw [app_right]; exact h2)
      have := g.size
      exact ⟨a1, by omega⟩
  · rcases app_cases ho with ⟨h1, h2⟩ | ⟨j, rfl, h2⟩
    · obtain ⟨b, c, t, e1, e2, e3, e4⟩ := g.rel.cel o cs h2
      exact ⟨b, c, t, by rw [List.getElem?_append_left (by omega)]; exact e1, e2, e3, fun j x hj => (e4 j x hj).widen⟩
    · obtain ⟨b, c, t, e1, e2, e3, e4⟩ := hr.cel (H0.length + j) cs (by rw [app_right]; exact h2)
      have e1' : ιL[j]? = some (some b) := by rw [← hl, app_right] at e1; exact e1
      exact ⟨b, c, t, by rw [← hl1, app_right]; exact e1', by rw [(oldL e1').2]; exact e2, e3, fun j x hj => (e4 j x hj).ext hKeeps hHX⟩
  · rcases app_cases ho with ⟨h1, h2⟩ | ⟨j, rfl, h2⟩
    · rcases g.rel.elm o S xs h2 with ⟨e1, e2⟩ | ⟨b, c, t, cap, e1, e2, e3, e4, e5, e6, e7⟩
      · exact .inl ⟨by rw [List.getElem?_append_left (by omega)]; exact e1, e2⟩
      · exact .inr ⟨b, c, t, cap, by rw [List.getElem?_append_left (by omega)]; exact e1, e2, e3, e4, e5, e6, fun i x j y hi hj => by have := e7 i x j y hi hj; rw [own_swap] at this; exact this⟩
    · rcases hr.elm (H0.length + j) S xs (by rw [app_right]; exact h2) with ⟨e1, e2⟩ | ⟨b, c, t, cap, e1, e2, e3, e4, e5, e6, e7⟩
      · rw [← hl, app_right] at e1
        exact .inl ⟨by rw [← hl1, app_right]; exact e1, e2⟩
      · rw [← hl, app_right] at e1
        exact .inr ⟨b, c, t, cap, by rw [← hl1, app_right]; exact e1, by rw [(oldL e1).2]; exact e2, e3, e4, e5, e6, fun i x j y hi hj => (e7 i x j y hi hj).ext hKeeps⟩
  · exact g.keep b hb fun h => ho (by simp [h])
  · rcases List.mem_append.1 h with h | h
    · exact g.own b hb (fun h => ho (by simp [h])) h
    · exact ho (by simp [h])

/-- THE FRAME RULE on the right: a contract on H0 holds where L stands behind -/
theorem ACalls.front {P g} {args : List V} {H0 : List Obj} {Q : V → List Obj → Prop} (h : ACalls P g args H0 fun x H' => Q x H' ∧ H'.length = H0.length) (ha : refBs H0.length args = true) (hf : refH H0.length H0 = true) (L : List Obj) :
    ACalls P g args (H0 ++ L) fun x H' => ∃ H1, Q x H1 ∧ H' = H1 ++ L := by
  refine ⟨h.1, fun F ι w vs hr hv => ?_⟩
  have hlen := hr.len
  simp at hlen
  obtain ⟨ι0, ιL, rfl, hl⟩ : ∃ ι0 ιL, ι = ι0 ++ ιL ∧ ι0.length = H0.length := ⟨ι.take H0.length, ι.drop H0.length, by simp, by simp; omega⟩
  refine (h.2 _ _ _ _ (hr.front hl hf) ⟨hv.1, fun j c hj => (hv.2 j c hj).narrow hl (refBs_get ha j c hj)⟩).mono ?_
  rintro e w' ⟨x, H1, ι1, v, rfl, ⟨q, hn⟩, gd, rv⟩
  exact ⟨_, _, _, v, rfl, ⟨H1, q, rfl⟩, gd.front hl hr hn, rv.widen⟩

theorem ACalls.useP {P g} {args : List V} {H0 H1 L : List Obj} {v : V} {K : V → List Obj → Prop} (h : ACalls P g args H0 fun x H' => x = v ∧ H' = H1) (hn : H1.length = H0.length) (k : K v (H1 ++ L)) (ha : refBs H0.length args = true) (hf : refH H0.length H0 = true) : ACalls P g args (H0 ++ L) K :=
  (ACalls.front (Q := fun x H' => x = v ∧ H' = H1) (h.mono fun x H' hq => ⟨hq, by rw [hq.2]; exact hn⟩) ha hf L).mono fun x H' hq => by
    obtain ⟨H2, ⟨rfl, rfl⟩, rfl⟩ := hq
    exact k
end Go.AM
