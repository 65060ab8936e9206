/- Plain mathematics of sequences: how many there are. -/
import Derived.Test.YtlbhefiehkmhjaaN5
set_option linter.unusedVariables false
set_option linter.unusedSimpArgs false
namespace Go.Proofs.Ytlbhefiehkmhjaa.K
open Go Go.AM Go.Proofs

/-- the orders of f visits, c of each kind left -/
def cntS (f : List Nat → Nat) (c : List Nat) : List Nat → Nat
  | [] => 0
  | i :: r => (if 0 < c.getD i 0 then f (c.set i (c.getD i 0 - 1)) else 0) + cntS f c r
def cnt : Nat → List Nat → Nat
  | 0, _ => 1
  | f + 1, c => cntS (cnt f) c (List.range c.length)

/-- the visits of an order that are still to come -/
def rem1 (x : Inst) (S : Nat) (l : List Vis) (i : Nat) : Nat := if S.testBit i = true then ((visO x.orders i).filter fun v => decide (v ∉ l)).length else 0
def remv (x : Inst) (S : Nat) (l : List Vis) (n : Nat) : List Nat := (List.range n).map (rem1 x S l)
theorem remv_get {x S l n i} (h : i < n) : (remv x S l n).getD i 0 = rem1 x S l i := by
  rw [List.getD_eq_getElem?_getD, remv, List.getElem?_map, List.getElem?_range h]; rfl

theorem nextO_one (x : Inst) (S : Nat) (l : List Vis) (i : Nat) : (nextO x S l i).length ≤ 1 := by
  rw [nextO]
  split
  · have hb : ∀ v w, v ∈ visO x.orders i → w ∈ visO x.orders i → v = ⟨i, false⟩ → w = ⟨i, true⟩ → ¬ (readyB x l v = true ∧ readyB x l w = true) := by
      rintro v w hv hw rfl rfl ⟨h1, h2⟩
      exact ((readyB_iff hv).1 h1).1 (((readyB_iff hw).1 h2).2.1 rfl hv)
    rcases visO_cases x.orders i with e | e | e | e
    · rw [e]; simp
    · rw [e]; exact Nat.le_trans (List.length_filter_le _ _) (by simp)
    · rw [e]; exact Nat.le_trans (List.length_filter_le _ _) (by simp)
    · have := hb ⟨i, false⟩ ⟨i, true⟩ (by rw [e]; simp) (by rw [e]; simp) rfl rfl
      rw [e]
      simp only [List.filter_cons, List.filter_nil]
      by_cases h1 : readyB x l ⟨i, false⟩ = true
      · have h2 : ¬ readyB x l ⟨i, true⟩ = true := fun h2 => this ⟨h1, h2⟩
        simp [h1, h2]
      · simp [h1]; split <;> simp
  · simp
theorem filter_one {α : Type} [DecidableEq α] {own : List α} (hd : own.Nodup) {v : α} (hv : v ∈ own) {l : List α} (hl : v ∉ l) : (own.filter fun w => decide (w ∉ l)).length = (own.filter fun w => decide (w ∉ l ++ [v])).length + 1 := by
  induction own with
  | nil => simp at hv
  | cons a own ih =>
    rw [List.nodup_cons] at hd
    rcases List.mem_cons.1 hv with rfl | hv
    · have e : (own.filter fun w => decide (w ∉ l)) = own.filter fun w => decide (w ∉ l ++ [v]) := by
        apply List.filter_congr
        intro w hw
        have : w ≠ v := fun e => hd.1 (e ▸ hw)
        simp [this]
      simp only [List.filter_cons, e]
      simp [hl]
    · have ha : a ≠ v := fun e => hd.1 (e ▸ hv)
      have := ih hd.2 hv
      simp only [List.filter_cons]
      by_cases h : a ∈ l
      · simp [h]; simpa using this
      · simp [h, ha]; simpa using this
theorem remv_step {x : Inst} {S : Nat} {l : List Vis} {v : Vis} {i n : Nat} (hi : i < n) (hb : S.testBit i = true) (hv : v ∈ visO x.orders i) (hl : v ∉ l) : 0 < rem1 x S l i ∧ remv x S (l ++ [v]) n = (remv x S l n).set i (rem1 x S l i - 1) := by
  have h1 : rem1 x S l i = rem1 x S (l ++ [v]) i + 1 := by
    rw [rem1, rem1, if_pos hb, if_pos hb]; exact filter_one (visO_nodup _ _) hv hl
  refine ⟨by omega, ?_⟩
  apply List.ext_getElem (by simp [remv])
  intro j h2 h3
  rw [List.getElem_set]
  simp only [remv, List.getElem_map, List.getElem_range]
  split
  · rename_i e; subst e; omega
  · rename_i e
    have : ∀ w ∈ visO x.orders j, (decide (w ∉ l ++ [v])) = decide (w ∉ l) := fun w hw => by
      have : w ≠ v := fun e2 => by
        have := visO_order hw
        have := visO_order hv
        rw [e2] at *
        omega
      simp [this]
    rw [rem1, rem1, List.filter_congr this]

theorem seqs_cnt {x : Inst} {S : Nat} : ∀ (f : Nat) (l : List Vis), (seqs (fun l => nextU x S l x.orders.length) f l).length ≤ cnt f (remv x S l x.orders.length)
  | 0, l => by simp [seqs, cnt]
  | f + 1, l => by
    rw [seqs, cnt]
    have key : ∀ r : List Nat, (∀ i ∈ r, i < x.orders.length) → ((r.flatMap (nextO x S l)).flatMap fun v => seqs (fun l => nextU x S l x.orders.length) f (l ++ [v])).length ≤ cntS (cnt f) (remv x S l x.orders.length) r := by
      intro r
      induction r with
      | nil => intro _; simp
      | cons i r ih =>
        intro hr
        have h1 := ih fun j hj => hr j (by simp [hj])
        have hi := hr i (by simp)
        rw [List.flatMap_cons, List.flatMap_append, List.length_append, cntS, remv_get hi]
        refine Nat.add_le_add ?_ h1
        have hone := nextO_one x S l i
        match hm : nextO x S l i with
        | [] => simp
        | [v] =>
          have hv : v ∈ nextU x S l x.orders.length := by
            rw [nextU, List.mem_flatMap]; exact ⟨i, by simpa using hi, by rw [hm]; simp⟩
          have hv2 : v ∈ nextO x S l i := by rw [hm]; simp
          rw [nextO] at hv2
          split at hv2
          · rename_i hc
            obtain ⟨h2, h3⟩ := List.mem_filter.1 hv2
            obtain ⟨h4, h5⟩ := remv_step (n := x.orders.length) hi hc.1 h2 ((readyB_iff h2).1 h3).1
            rw [if_pos h4, ← h5]
            simpa using seqs_cnt f (l ++ [v])
          · simp at hv2
        | v :: w :: t => rw [hm] at hone; simp at hone
    have := key (List.range x.orders.length) (by simp)
    rw [show (remv x S l x.orders.length).length = x.orders.length from by simp [remv]]
    exact this

def small (k : Nat) : List (List Nat) := match k with
  | 0 => [[]]
  | k + 1 => (small k).flatMap fun c => [0 :: c, 1 :: c, 2 :: c]
theorem small_mem : ∀ (c : List Nat), (∀ a ∈ c, a ≤ 2) → c ∈ small c.length
  | [], _ => by simp [small]
  | a :: c, h => by
    have := small_mem c fun b hb => h b (by simp [hb])
    have ha := h a (by simp)
    rw [List.length_cons, small, List.mem_flatMap]
    refine ⟨c, this, ?_⟩
    match a, ha with
    | 0, _ => simp
    | 1, _ => simp
    | 2, _ => simp
theorem small_ok : ∀ k, k ≤ 4 → ∀ c ∈ small k, cnt c.sum c ≤ 8192 := by
  have : ((List.range 5).all fun k => (small k).all fun c => decide (cnt c.sum c ≤ 8192)) = true := by decide +kernel
  intro k hk c hc
  rw [List.all_eq_true] at this
  have h2 := this k (by simp; omega)
  rw [List.all_eq_true] at h2
  simpa using h2 c hc
theorem seqs_few {x : Inst} {S : Nat} (hn : x.orders.length ≤ 4) : (seqs (fun l => nextU x S l x.orders.length) (totU x S x.orders.length) []).length ≤ 8192 := by
  refine Nat.le_trans (seqs_cnt _ _) ?_
  have e : totU x S x.orders.length = (remv x S [] x.orders.length).sum := by
    rw [totU, remv]
    congr 1
    apply List.map_congr_left
    intro i _
    rw [rem1]
    split
    · rw [List.filter_eq_self.2 (fun v _ => by simp)]
    · rfl
  rw [e]
  have hl : (remv x S [] x.orders.length).length = x.orders.length := by simp [remv]
  refine small_ok x.orders.length hn _ ?_
  have := small_mem (remv x S [] x.orders.length) (fun a ha => by
    rw [remv, List.mem_map] at ha
    obtain ⟨i, _, rfl⟩ := ha
    rw [rem1]
    split
    · exact Nat.le_trans (List.length_filter_le _ _) (visO_len _ _)
    · omega)
  rwa [hl] at this
end Go.Proofs.Ytlbhefiehkmhjaa.K
