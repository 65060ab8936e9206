/- Plain mathematics of sequences: what grows visit by visit; the walk and the specification's list. -/
import Derived.Test.YtlbhefiehkmhjaaQ11
set_option linter.unusedVariables false
set_option linter.unusedSimpArgs false
namespace Go.Proofs.Ytlbhefiehkmhjaa.K
open Go Go.AM Go.Proofs

/-- visits, each of which could follow those before it -/
inductive Gr (x : Inst) (S : Nat) : List Vis → Prop where
  | nil : Gr x S []
  | snoc {l : List Vis} {v : Vis} (h : Gr x S l) (hv : v ∈ nextU x S l x.orders.length) : Gr x S (l ++ [v])

theorem visO_nodup (os : List Ord) (i : Nat) : (visO os i).Nodup := by
  rcases visO_cases os i with h | h | h | h <;> rw [h] <;> simp
theorem preB_iff {os : List Ord} {i : Nat} {l : List Vis} {v : Vis} (hv : v ∈ visO os i) : preB l v (visO os i) = true ↔ (v.drp = true → ⟨i, false⟩ ∈ visO os i → ⟨i, false⟩ ∈ l) := by
  rcases visO_cases os i with h | h | h | h <;> rw [h] at hv ⊢ <;> simp at hv
  · subst hv; simp [preB]
  · subst hv; simp [preB]
  · rcases hv with rfl | rfl
    · simp [preB]
    · simp [preB, vIx_mem]
theorem readyB_iff {x : Inst} {l : List Vis} {v : Vis} {i : Nat} (hv : v ∈ visO x.orders i) : readyB x l v = true ↔ v ∉ l ∧ (v.drp = true → ⟨i, false⟩ ∈ visO x.orders i → ⟨i, false⟩ ∈ l) ∧ ∀ p ∈ x.before, p.2 = (i : Int) → ∀ w ∈ visO x.orders p.1.toNat, w ∈ l := by
  have h := visO_order hv
  rw [readyB, h, Int.toNat_natCast, Bool.and_eq_true, Bool.and_eq_true, decide_eq_true_eq, vIx_no, preB_iff hv, befs_iff, and_assoc]
theorem mem_next {x : Inst} {S : Nat} {l : List Vis} {v : Vis} {k : Nat} : v ∈ nextU x S l k ↔ ∃ i, i < k ∧ S.testBit i = true ∧ (nth x.orders i).off = false ∧ v ∈ visO x.orders i ∧ readyB x l v = true := by
  rw [nextU, List.mem_flatMap]
  constructor
  · rintro ⟨i, hi, h⟩
    rw [nextO] at h
    split at h
    · rename_i hc
      rw [List.mem_filter] at h
      exact ⟨i, by simpa using hi, hc.1, hc.2, h.1, h.2⟩
    · simp at h
  · rintro ⟨i, hi, h1, h2, h3, h4⟩
    exact ⟨i, by simpa using hi, by rw [nextO, if_pos ⟨h1, h2⟩, List.mem_filter]; exact ⟨h3, h4⟩⟩

def allV (x : Inst) (S k : Nat) : List Vis := (List.range k).flatMap fun i => if S.testBit i = true then visO x.orders i else []
theorem allV_succ (x S k) : allV x S (k + 1) = allV x S k ++ if S.testBit k = true then visO x.orders k else [] := by simp [allV, List.range_succ]
theorem allV_len (x S) : ∀ k, (allV x S k).length = totU x S k
  | 0 => by simp [allV, totU]
  | k + 1 => by
    rw [allV_succ, totU_succ, List.length_append, allV_len x S k]
    split <;> simp
theorem mem_allV {x S k v} : v ∈ allV x S k ↔ ∃ i, i < k ∧ S.testBit i = true ∧ v ∈ visO x.orders i := by
  rw [allV, List.mem_flatMap]
  constructor
  · rintro ⟨i, hi, h⟩
    split at h
    · exact ⟨i, by simpa using hi, by assumption, h⟩
    · simp at h
  · rintro ⟨i, hi, h1, h2⟩
    exact ⟨i, by simpa using hi, by rw [if_pos h1]; exact h2⟩
theorem allV_nodup (x S) : ∀ k, (allV x S k).Nodup
  | 0 => by simp [allV]
  | k + 1 => by
    rw [allV_succ, List.nodup_append]
    refine ⟨allV_nodup x S k, ?_, fun a ha b hb => ?_⟩
    · split
      · exact visO_nodup _ _
      · simp
    · obtain ⟨i, hi, _, h2⟩ := mem_allV.1 ha
      split at hb
      · have h3 := visO_order h2
        have h4 := visO_order hb
        rintro rfl
        omega
      · simp at hb

theorem Gr.nodup {x S l} (h : Gr x S l) : l.Nodup := by
  induction h with
  | nil => simp
  | snoc _ hv ih =>
    obtain ⟨i, _, _, _, h4, h5⟩ := mem_next.1 hv
    rw [List.nodup_append]
    refine ⟨ih, by simp, fun a ha b hb => ?_⟩
    simp at hb; subst hb
    exact fun e => ((readyB_iff h4).1 h5).1 (e ▸ ha)
theorem Gr.sub {x S l} (h : Gr x S l) : ∀ v ∈ l, v ∈ allV x S x.orders.length := by
  induction h with
  | nil => simp
  | snoc _ hv ih =>
    obtain ⟨i, h1, h2, _, h4, _⟩ := mem_next.1 hv
    intro w hw
    rcases List.mem_append.1 hw with hw | hw
    · exact ih w hw
    · simp at hw; subst hw; exact mem_allV.2 ⟨i, h1, h2, h4⟩
theorem sub_len {α : Type} [DecidableEq α] {l m : List α} (hl : l.Nodup) (h : ∀ v ∈ l, v ∈ m) : l.length ≤ m.length := List.Nodup.length_le_of_subset hl h
theorem sub_eq {α : Type} [DecidableEq α] {l m : List α} (hl : l.Nodup) (h : ∀ v ∈ l, v ∈ m) (hm : m.length ≤ l.length) : ∀ v ∈ m, v ∈ l := fun v hv => by
  refine Classical.byContradiction fun hno => ?_
  have : (v :: l).length ≤ m.length := sub_len (by simp [hno, hl]) (fun w hw => by
    rcases List.mem_cons.1 hw with rfl | hw
    · exact hv
    · exact h w hw)
  simp at this; omega
theorem Gr.len {x S l} (h : Gr x S l) : l.length ≤ totU x S x.orders.length := by
  rw [← allV_len]; exact sub_len h.nodup h.sub
theorem Gr.full {x S l} (h : Gr x S l) (hl : l.length = totU x S x.orders.length) : ∀ v ∈ allV x S x.orders.length, v ∈ l := sub_eq h.nodup h.sub (by rw [allV_len]; omega)

/-- there is always a visit that can follow -/
theorem Gr.more {x S l} (ha : Alw x S) (hn : x.orders.length ≤ 60) (hv : Val x.orders.length x.before) (hm : ∃ v ∈ allV x S x.orders.length, v ∉ l) : ∃ v, v ∈ nextU x S l x.orders.length := by
  obtain ⟨v, hva, hvl⟩ := hm
  obtain ⟨i, h1, h2, h3⟩ := mem_allV.1 hva
  obtain ⟨j, ⟨j1, j2, w, j3, j4⟩, hj⟩ := exists_min hv (P := fun i => i < x.orders.length ∧ S.testBit i = true ∧ ∃ w ∈ visO x.orders i, w ∉ l) (fun i hi => ⟨hi.1, ha.acyc i hi.1 hi.2.1⟩) ⟨h1, h2, v, h3, hvl⟩
  have hpre : ∀ p ∈ x.before, p.2 = (j : Int) → ∀ w ∈ visO x.orders p.1.toNat, w ∈ l := fun p hp e w hw => by
    refine Classical.byContradiction fun hno => ?_
    obtain ⟨v1, v2, v3, v4⟩ := hv p hp
    have := ha.closed p hp (nHas_iff.2 ⟨by omega, by omega, by rw [e]; simpa using j2⟩)
    exact hj p hp e ⟨by omega, (nHas_iff.1 this).2.2, w, hw, hno⟩
  by_cases hf : (⟨j, false⟩ : Vis) ∈ visO x.orders j ∧ (⟨j, false⟩ : Vis) ∉ l
  · exact ⟨⟨j, false⟩, mem_next.2 ⟨j, j1, j2, ha.off j j1 j2, hf.1, (readyB_iff hf.1).2 ⟨hf.2, by simp, hpre⟩⟩⟩
  · refine ⟨w, mem_next.2 ⟨j, j1, j2, ha.off j j1 j2, j3, (readyB_iff j3).2 ⟨j4, fun _ hq => ?_, hpre⟩⟩⟩
    exact Classical.byContradiction fun hno => hf ⟨hq, hno⟩
theorem Gr.next_nil {x S l} (h : Gr x S l) (ha : Alw x S) (hn : x.orders.length ≤ 60) (hv : Val x.orders.length x.before) : nextU x S l x.orders.length = [] ↔ l.length = totU x S x.orders.length := by
  constructor
  · intro e
    refine Classical.byContradiction fun hno => ?_
    have hex : ∃ v ∈ allV x S x.orders.length, v ∉ l := Classical.byContradiction fun hno2 => hno (by
      have h1 : ∀ v ∈ allV x S x.orders.length, v ∈ l := fun v hv => Classical.byContradiction fun h3 => hno2 ⟨v, hv, h3⟩
      have := sub_len (allV_nodup x S _) h1
      rw [allV_len] at this
      have := h.len
      omega)
    obtain ⟨v, hv⟩ := Gr.more (l := l) ha hn hv hex
    rw [e] at hv; simp at hv
  · intro e
    rw [List.eq_nil_iff_forall_not_mem]
    intro v hv
    obtain ⟨i, h1, h2, _, h4, h5⟩ := mem_next.1 hv
    exact ((readyB_iff h4).1 h5).1 (h.full e v (mem_allV.2 ⟨i, h1, h2, h4⟩))
theorem tot_pos {x : Inst} {S : Nat} (hne : Vne x) (hS : S / pw x.orders.length = 0) (h0 : S ≠ 0) : 0 < totU x S x.orders.length := by
  have : ∃ i, S.testBit i = true := by
    refine Classical.byContradiction fun hno => h0 (Nat.eq_of_testBit_eq fun i => ?_)
    cases h : S.testBit i with
    | false => simp
    | true => exact absurd ⟨i, h⟩ hno
  obtain ⟨i, hi⟩ := this
  have hlt := bit_lt hS hi
  obtain ⟨v, hv⟩ := List.exists_mem_of_ne_nil _ (hne i hlt)
  have hm : v ∈ allV x S x.orders.length := mem_allV.2 ⟨i, hlt, hi, hv⟩
  have := List.length_pos_of_mem hm
  rwa [allV_len] at this

/-- the specification's list -/
def ext (nx : List Vis → List Vis) : Nat → List Vis → List (List Vis) → List (List Vis)
  | 0, l, outs => if 8192 < outs.length then outs else outs ++ [l]
  | f + 1, l, outs => if 8192 < outs.length then outs else (nx l).foldl (fun acc v => ext nx f (l ++ [v]) acc) outs
theorem ext_big {nx f l outs} (h : 8192 < outs.length) : ext nx f l outs = outs := by
  cases f <;> rw [ext, if_pos h]
theorem ext_len {nx} : ∀ (f : Nat) (l : List Vis) (outs : List (List Vis)), outs.length ≤ 8193 → (ext nx f l outs).length ≤ 8193
  | 0, l, outs, h => by
    rw [ext]; split
    · exact h
    · simp; omega
  | f + 1, l, outs, h => by
    rw [ext]; split
    · exact h
    · have key : ∀ (r : List Vis) (acc : List (List Vis)), acc.length ≤ 8193 → (r.foldl (fun acc v => ext nx f (l ++ [v]) acc) acc).length ≤ 8193 := by
        intro r
        induction r with
        | nil => intro acc h; exact h
        | cons v r ih => intro acc h; exact ih _ (ext_len f _ _ h)
      exact key _ _ h
def WE (w : List (List Vis) × Bool) (e : List (List Vis)) : Prop := (w.2 = true ∧ e = w.1 ∧ e.length ≤ 8192) ∨ (w.2 = false ∧ 8192 < e.length)
theorem walk_ext {nx} : ∀ (f : Nat) (l : List Vis) (outs : List (List Vis)), outs.length ≤ 8192 → WE (walk nx f l outs) (ext nx f l outs)
  | 0, l, outs, h => by
    rw [walk, ext, if_neg (by omega)]
    by_cases h2 : outs.length + 1 ≤ 8192
    · exact .inl ⟨by simp; omega, rfl, by simp; omega⟩
    · exact .inr ⟨by simp; omega, by simp; omega⟩
  | f + 1, l, outs, h => by
    have hw : walk nx (f + 1) l outs = (nx l).foldl (stepW nx f l) (outs, true) := rfl
    rw [hw, ext, if_neg (by omega)]
    have key : ∀ (r : List Vis) (w : List (List Vis) × Bool) (e : List (List Vis)), WE w e → WE (r.foldl (stepW nx f l) w) (r.foldl (fun acc v => ext nx f (l ++ [v]) acc) e) := by
      intro r
      induction r with
      | nil => intro w e h; exact h
      | cons v r ih =>
        intro w e h
        refine ih _ _ ?_
        rcases h with ⟨h1, h2, h3⟩ | ⟨h1, h2⟩
        · rw [stepW, if_pos h1, h2]
          exact walk_ext f _ _ (by rw [← h2]; exact h3)
        · rw [stepW, if_neg (by rw [h1]; simp)]
          show WE w (ext nx f (l ++ [v]) e)
          rw [ext_big h2]
          exact .inr ⟨h1, h2⟩
    exact key _ _ _ (.inl ⟨rfl, rfl, h⟩)
end Go.Proofs.Ytlbhefiehkmhjaa.K
