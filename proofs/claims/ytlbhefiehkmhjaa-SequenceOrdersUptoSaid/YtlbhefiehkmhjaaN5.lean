/- Plain mathematics of sequences: the order of sequences; the list of all of them. -/
import Derived.Test.YtlbhefiehkmhjaaN4
set_option linter.unusedVariables false
set_option linter.unusedSimpArgs false
namespace Go.Proofs.Ytlbhefiehkmhjaa.K
open Go Go.AM Go.Proofs

def vk (v : Vis) : Int := 2 * v.order + dn v
theorem dn_cases (v : Vis) : dn v = 0 ∨ dn v = 1 := by unfold dn; split <;> simp
theorem cmpI_lt {a b : Int} : cmpI a b < 0 ↔ a < b := by unfold cmpI; split <;> (try split) <;> omega
theorem cmpI_gt {a b : Int} : 0 < cmpI a b ↔ b < a := by unfold cmpI; split <;> (try split) <;> omega
theorem cmpV_lt {a b : Vis} : cmpV a b < 0 ↔ vk a < vk b := by
  have h1 := dn_cases a
  have h2 := dn_cases b
  unfold cmpV vk
  split
  · rename_i h; rw [cmpI_zero] at h; rw [cmpI_lt]; omega
  · rename_i h; rw [cmpI_zero] at h; rw [cmpI_lt]; omega
theorem cmpV_gt {a b : Vis} : 0 < cmpV a b ↔ vk b < vk a := by
  have h1 := dn_cases a
  have h2 := dn_cases b
  unfold cmpV vk
  split
  · rename_i h; rw [cmpI_zero] at h; rw [cmpI_gt]; omega
  · rename_i h; rw [cmpI_zero] at h; rw [cmpI_gt]; omega

theorem lex_anti : ∀ (a b : List Vis), lexC b a < 0 ↔ 0 < lexC a b
  | [], [] => by simp [lexC]
  | [], _ :: _ => by simp [lexC]
  | _ :: _, [] => by simp [lexC]
  | a :: r, b :: s => by
    have ih := lex_anti r s
    simp only [lexC]
    by_cases h : cmpV a b = 0
    · have e := cmpV_zero.1 h
      subst e
      rw [if_pos h, if_pos h]; exact ih
    · have h2 : ¬ cmpV b a = 0 := fun e => h (by rw [cmpV_zero] at e ⊢; exact e.symm)
      rw [if_neg h, if_neg h2, cmpV_lt, cmpV_gt]
theorem lex_zero : ∀ (a b : List Vis), lexC a b = 0 ↔ a = b
  | [], [] => by simp [lexC]
  | [], _ :: _ => by simp [lexC]
  | _ :: _, [] => by simp [lexC]
  | a :: r, b :: s => by
    have ih := lex_zero r s
    simp only [lexC]
    by_cases h : cmpV a b = 0
    · have e := cmpV_zero.1 h
      subst e
      rw [if_pos h, ih]; simp
    · rw [if_neg h]
      have : a ≠ b := fun e => h (cmpV_zero.2 e)
      simp [h, this]
theorem lex_trans : ∀ (a b c : List Vis), lexC a b < 0 → lexC b c < 0 → lexC a c < 0
  | [], [], _, h, _ => by simp [lexC] at h
  | [], _ :: _, [], _, h => by simp [lexC] at h
  | [], _ :: _, _ :: _, _, _ => by simp [lexC]
  | _ :: _, [], _, h, _ => by simp [lexC] at h
  | _ :: _, _ :: _, [], _, h => by simp [lexC] at h
  | a :: r, b :: s, c :: t, h1, h2 => by
    simp only [lexC] at h1 h2 ⊢
    by_cases e1 : cmpV a b = 0
    · have e := cmpV_zero.1 e1
      subst e
      rw [if_pos e1] at h1
      by_cases e2 : cmpV a c = 0
      · rw [if_pos e2] at h2 ⊢
        exact lex_trans r s t h1 h2
      · rw [if_neg e2] at h2 ⊢; exact h2
    · rw [if_neg e1] at h1
      by_cases e2 : cmpV b c = 0
      · have e := cmpV_zero.1 e2
        subst e
        rw [if_neg e1]; exact h1
      · rw [if_neg e2] at h2
        rw [cmpV_lt] at h1 h2
        have h3 : cmpV a c < 0 := cmpV_lt.2 (by omega)
        rw [if_neg (by omega)]; exact h3

/-- all that can be made of visits -/
def seqs (nx : List Vis → List Vis) : Nat → List Vis → List (List Vis)
  | 0, l => [l]
  | f + 1, l => (nx l).flatMap fun v => seqs nx f (l ++ [v])
theorem walk_seqs {nx} : ∀ (f : Nat) (l : List Vis) (outs : List (List Vis)), outs.length ≤ 8192 → (walk nx f l outs).2 = decide (outs.length + (seqs nx f l).length ≤ 8192) ∧ ((walk nx f l outs).2 = true → (walk nx f l outs).1 = outs ++ seqs nx f l)
  | 0, l, outs, h => by simp [walk, seqs]
  | f + 1, l, outs, h => by
    have hw : walk nx (f + 1) l outs = (nx l).foldl (stepW nx f l) (outs, true) := rfl
    rw [hw, seqs]
    have key : ∀ (r : List Vis) (acc : List (List Vis)), acc.length ≤ 8192 → (r.foldl (stepW nx f l) (acc, true)).2 = decide (acc.length + (r.flatMap fun v => seqs nx f (l ++ [v])).length ≤ 8192) ∧ ((r.foldl (stepW nx f l) (acc, true)).2 = true → (r.foldl (stepW nx f l) (acc, true)).1 = acc ++ r.flatMap fun v => seqs nx f (l ++ [v])) := by
      intro r
      induction r with
      | nil => intro acc h; simp [h]
      | cons v r ih =>
        intro acc h
        obtain ⟨h1, h2⟩ := walk_seqs (nx := nx) f (l ++ [v]) acc h
        have hl := walk_len (nx := nx) f (l ++ [v]) acc h
        rw [List.foldl_cons, stepW, if_pos rfl, List.flatMap_cons, List.length_append]
        simp only
        generalize hW : walk nx f (l ++ [v]) acc = W at h1 h2 hl ⊢
        by_cases h3 : W.2 = true
        · have h4 := h2 h3
          have h5 := hl h3
          have e : W = (W.1, true) := by rw [← h3]
          rw [e]
          obtain ⟨h6, h7⟩ := ih W.1 h5
          rw [h6]
          refine ⟨by rw [h4, List.length_append, Nat.add_assoc], fun h8 => ?_⟩
          rw [h7 (by rw [h6]; exact h8), h4, List.append_assoc]
        · have h4 : W.2 = false := by simpa using h3
          rw [stepW_stop _ _ h4, h4]
          rw [h4] at h1
          have h5 := of_decide_eq_false h1.symm
          refine ⟨?_, by simp⟩
          rw [eq_comm, decide_eq_false_iff_not]
          omega
    exact key _ _ h

theorem seqs_gr {x : Inst} {S : Nat} : ∀ (f : Nat) (l m : List Vis), Gr x S l → m ∈ seqs (fun l => nextU x S l x.orders.length) f l → Gr x S m ∧ m.length = l.length + f
  | 0, l, m, h, hm => by simp [seqs] at hm; subst hm; exact ⟨h, rfl⟩
  | f + 1, l, m, h, hm => by
    rw [seqs, List.mem_flatMap] at hm
    obtain ⟨v, hv, hm⟩ := hm
    have := seqs_gr f _ m (.snoc h hv) hm
    exact ⟨this.1, by rw [this.2]; simp; omega⟩
theorem gr_seqs {x : Inst} {S : Nat} {m : List Vis} (h : Gr x S m) : ∀ (f k : Nat), m.length = k + f → m ∈ seqs (fun l => nextU x S l x.orders.length) f (m.take k)
  | 0, k, hl => by rw [seqs]; have : m.take k = m := List.take_of_length_le (by omega); rw [this]; simp
  | f + 1, k, hl => by
    have hk : k < m.length := by omega
    rw [seqs, List.mem_flatMap]
    refine ⟨nth m k, h.at k hk, ?_⟩
    have e : m.take k ++ [nth m k] = m.take (k + 1) := by rw [List.take_succ_eq_append_getElem hk, nth_get hk]
    rw [e]
    exact gr_seqs h f (k + 1) (by omega)

theorem seqs_pre {nx} : ∀ (f : Nat) (l m : List Vis), m ∈ seqs nx f l → ∃ r, m = l ++ r
  | 0, l, m, hm => by simp [seqs] at hm; exact ⟨[], by simp [hm]⟩
  | f + 1, l, m, hm => by
    rw [seqs, List.mem_flatMap] at hm
    obtain ⟨v, _, hm⟩ := hm
    obtain ⟨r, e⟩ := seqs_pre f _ m hm
    exact ⟨v :: r, by rw [e]; simp⟩
theorem lex_pre : ∀ (l a b : List Vis), lexC (l ++ a) (l ++ b) = lexC a b
  | [], _, _ => rfl
  | v :: l, a, b => by
    simp only [List.cons_append, lexC]
    rw [if_pos (cmpV_zero.2 rfl)]; exact lex_pre l a b
theorem seqs_asc {nx : List Vis → List Vis} (hn : ∀ l, (nx l).Pairwise fun v w => vk v < vk w) : ∀ (f : Nat) (l : List Vis), (seqs nx f l).Pairwise fun a b => lexC a b < 0
  | 0, l => by simp [seqs]
  | f + 1, l => by
    rw [seqs, List.pairwise_flatMap]
    refine ⟨fun v _ => seqs_asc hn f _, (hn l).imp fun {v w} h a ha b hb => ?_⟩
    obtain ⟨r, rfl⟩ := seqs_pre f _ a ha
    obtain ⟨s, rfl⟩ := seqs_pre f _ b hb
    rw [List.append_assoc, List.append_assoc, lex_pre]
    simp only [List.singleton_append, lexC]
    have h2 : cmpV v w < 0 := cmpV_lt.2 h
    rw [if_neg (by omega)]; exact h2
theorem nextU_asc (x : Inst) (S : Nat) (l : List Vis) (k : Nat) : (nextU x S l k).Pairwise fun v w => vk v < vk w := by
  rw [nextU, List.pairwise_flatMap]
  have hm : ∀ i, ∀ v ∈ nextO x S l i, v ∈ visO x.orders i := fun i v hv => by
    rw [nextO] at hv
    split at hv
    · exact (List.mem_filter.1 hv).1
    · simp at hv
  constructor
  · intro i _
    rw [nextO]
    split
    · refine List.Pairwise.filter _ ?_
      rcases visO_cases x.orders i with e | e | e | e <;> rw [e] <;> simp [vk, dn] <;> omega
    · simp
  · refine (List.pairwise_lt_range (n := k)).imp fun {i j} hij v hv w hw => ?_
    have h1 := visO_order (hm i v hv)
    have h2 := visO_order (hm j w hw)
    have h3 := dn_cases v
    have h4 := dn_cases w
    unfold vk; omega
end Go.Proofs.Ytlbhefiehkmhjaa.K
