/- Declarations that the closing texts need, part 15: joined by tools/slim.py. -/
import Derived.Test.YtngonbhfbpnkcaaGreatDoorZ14
import Derived.Shelf.Strings.Search1
set_option linter.unusedVariables false
set_option linter.unusedSimpArgs false
namespace Go.Proofs.YtngonbhfbpnkcaaGreatDoor.K
open Go Go.AM Go.Proofs Go.Shelf
set_option maxRecDepth 8000
set_option maxHeartbeats 8000000
theorem rv_str {F H ι w s v} (h : RV F H ι w (.p (.str s)) v) : v = .string ⟨s.toArray⟩ := by cases h with | p _ _ h => exact h.str_inv
theorem rv_int {F H ι w k n v} (h : RV F H ι w (.p (.int k n)) v) : v = .int k n := by cases h with | p _ _ h => exact h.int_inv
theorem acalls_two {P : Program} {g : FuncId} (hg : IsFun P g) {a b y : PV} {u v r : Value} (ha : ∀ {F H ι w x}, RV F H ι w (.p a) x → x = u) (hb : ∀ {F H ι w x}, RV F H ι w (.p b) x → x = v) (hy : ∀ {X w}, RP X w y r)
  (h : ∀ w, Calls P g #[u, v] w fun e w' => e = .returned r ∧ w' = w) (H : List AM.Obj) : ACalls P g [.p a, .p b] H fun x H' => x = .p y ∧ H' = H := by
 refine ⟨hg, fun F ι w vs hr hv => ?_⟩
 obtain ⟨h1, h2⟩ := hv
 have e0 := ha (h2 0 _ rfl)
 have e1 := hb (h2 1 _ rfl)
 have hvs : vs = #[u, v] := by
  apply Array.ext
  ·simpa using h1
  ·intro i h3 h4
   have : i = 0 ∨ i = 1 := by simp at h4; omega
   rcases this with rfl | rfl
   ·have : vs.getD 0 undef = vs[0] := by simp [Array.getD, h3]
    rw [← this, e0]; rfl
   ·have : vs.getD 1 undef = vs[1] := by simp [Array.getD, h3]
    rw [← this, e1]; rfl
 rw [hvs]
 refine (h w).mono ?_
 rintro e w' ⟨rfl, rfl⟩
 exact ⟨_, _, ι, _, rfl, ⟨rfl, rfl⟩, Good.refl hr, .p _ _ hy⟩
def renIB : Ren := ⟨fun | 217 => 232 | 266 => 263 | x => x, fun | 3 => 3 | 5 => 5 | 9 => 9 | x => x, fun x => x⟩
theorem layIB : Lays.n217 Tryz.prog renIB := {
 mixed := mixed,
 f217 := Tryz.func232.trans (congrArg some (by kernel_rfl)),
 f266 := Tryz.func263.trans (congrArg some (by kernel_rfl)),
 t3 := Tryz.underlying3, a3 := Tryz.isAgg3, z3 := Tryz.sizeOf3, v3 := Tryz.zeroValue3,
 t5 := Tryz.underlying5, a5 := Tryz.isAgg5, z5 := Tryz.sizeOf5, v5 := Tryz.zeroValue5,
 t9 := Tryz.underlying9, a9 := Tryz.isAgg9, z9 := Tryz.sizeOf9, v9 := Tryz.zeroValue9 }
theorem indexByte_c (s : List UInt8) (c : Int) : ACalls Tryz.prog 232 [.p (.str s), .p (.int .u8 c)] [] fun y H' => y = .p (.int .i64 (Lib.indexByte s c.toNat.toUInt8)) ∧ H' = [] :=
 acalls_two isF232 rv_str rv_int (.int _ _) (fun w => Any.stringslite_IndexByte layIB ⟨s.toArray⟩ c w) []
theorem sIndexByte_c (s : List UInt8) (c : Int) : ACalls Tryz.prog 179 [.p (.str s), .p (.int .u8 c)] [] fun y H' => y = .p (.int .i64 (Lib.indexByte s c.toNat.toUInt8)) ∧ H' = [] := by
 refine acalls_pure (fn := Tryz.f179) Tryz.func179 rfl isF179 ?_
 simp (disch := omega) only [Tryz.f179, go_sem, seval]
 refine (indexByte_c s c).use ?_
 simp (disch := omega) only [go_sem, seval]
end Go.Proofs.YtngonbhfbpnkcaaGreatDoor.K
set_option linter.unusedVariables false
set_option linter.unusedSimpArgs false
namespace Go.Proofs.YtngonbhfbpnkcaaGreatDoor.K
open Go Go.AM Go.Proofs
set_option maxRecDepth 8000
set_option maxHeartbeats 8000000
def strE (s : List UInt8) : PV := .str s
@[go_sem] theorem strE_eq (s : List UInt8) : strE s = .str s := Eq.trans rfl rfl
def plainS (s : List UInt8) : Prop := ∀ b ∈ s, b.toNat ≠ 34
def chrB (b : UInt8) : Bool := decide (32 < b.toNat) && decide (b.toNat ≤ 126) && decide (b.toNat ≠ 34)
def wordS (s : List UInt8) : Bool := decide (s ≠ []) && s.all chrB
def ixS (s : List UInt8) : Nat := if Lib.indexByte s 32 < 0 then s.length else (Lib.indexByte s 32).toNat
theorem u8_lt (b : UInt8) : b.toNat < 256 := b.toNat_lt
theorem word_c (s : List UInt8) (hs : s.length ≤ 1048576) : ACalls Tryz.prog 180 [.p (.str s)] [] fun y H' => y = .p (.bool (wordS s)) ∧ H' = [] := by
 refine acalls_pure (fn := Tryz.f180) Tryz.func180 rfl isF180 ?_
 simp (disch := omega) only [Tryz.f180, go_sem, seval]
 refine awp_for [0, 5] (fun k : Nat => [(6, .p (.int .i64 k))]) (fun _ => []) (fun k => k ≤ s.length ∧ ∀ j, j < k → chrB (nth s j) = true) (fun k => s.length - k) 0 (by simp) (Weak.mk ?_) ?_
 ·simp (disch := omega) only [go_sem, seval]
 ·rintro k ⟨hk, hno⟩
  simp (disch := omega) only [go_sem, seval]
  refine acond_b (fun h1 => ?_) (fun h1 => ?_) <;> (try simp only [decide_eq_true_eq, decide_eq_false_iff_not] at h1) <;> simp (disch := omega) only [Sh.out h1, go_sem, seval]
  ·have hk2 : k < s.length := by omega
   have bad : chrB (nth s k) = false → wordS s = false := fun h => by
    rw [wordS, Bool.and_eq_false_iff]
    right
    rw [List.all_eq_false]
    exact ⟨_, nth_in hk2, by rw [h]; simp⟩
   refine aguard_f (fun h2 => ?_) (fun h2 => ?_) <;> (try simp only [decide_eq_true_eq, decide_eq_false_iff_not] at h2) <;> simp (disch := omega) only [Sh.out h2, go_sem, seval]
   ·rw [bad (by unfold chrB; rw [decide_eq_false (show ¬ 32 < (nth s k).toNat by omega)]; rfl)]
   ·refine aguard_f (fun h3 => ?_) (fun h3 => ?_) <;> (try simp only [decide_eq_true_eq, decide_eq_false_iff_not] at h3) <;> simp (disch := omega) only [Sh.out h3, go_sem, seval]
    ·rw [bad (by unfold chrB; rw [decide_eq_false (show ¬ (nth s k).toNat ≤ 126 by omega)]; simp)]
    ·refine acond_b (fun h4 => ?_) (fun h4 => ?_) <;> (try simp only [decide_eq_true_eq, decide_eq_false_iff_not] at h4) <;> simp (disch := omega) only [Sh.out h4, go_sem, seval]
     ·rw [bad (by unfold chrB; rw [decide_eq_false (show ¬ (nth s k).toNat ≠ 34 by omega)]; simp)]
     ·exact ⟨k + 1, ⟨by omega, upto_iff.2 ⟨hno, by unfold chrB; simp; omega⟩⟩, by omega, Weak.mk (by simp (disch := omega) only [go_sem, seval])⟩
  ·have hall : s.all chrB = true := by
    rw [List.all_eq_true]
    intro b hb
    obtain ⟨j, hj, rfl⟩ := List.mem_iff_getElem.1 hb
    rw [← nth_get hj]; exact hno j (by omega)
   rw [wordS, hall, Bool.and_true]
theorem ixB_lt (c : UInt8) : ∀ s : List UInt8, -1 ≤ Lib.indexByte s c ∧ Lib.indexByte s c < s.length
 | [] => by simp [Lib.indexByte]
 | b :: l => by
  have ih := ixB_lt c l
  simp only [Lib.indexByte, List.length_cons]
  split
  ·omega
  ·split <;> omega
theorem ixS_le (s : List UInt8) : ixS s ≤ s.length := by
 have := ixB_lt 32 s
 unfold ixS
 split <;> omega
def partN (s : List UInt8) : Nat := if wordS (s.take (ixS s)) = true then ixS s else 0
theorem part_c (s : List UInt8) (hs : s.length ≤ 1048576) (hq : ¬ (0 < s.length ∧ (nth s 0).toNat = 34)) : ACalls Tryz.prog 127 [.p (.str s)] [] fun y H' => y = .p (.int .i64 (partN s : Nat)) ∧ H' = [] := by
 refine acalls_pure (fn := Tryz.f127) Tryz.func127 rfl isF127 ?_
 simp (disch := omega) only [Tryz.f127, go_sem, seval]
 have hb := ixB_lt 32 s
 have hl := ixS_le s
 have ci := sIndexByte_c s 32
 rw [show (32 : Int).toNat.toUInt8 = 32 from rfl] at ci
 have hl1 : s = [] ∨ 0 < s.length := by cases s <;> simp
 rcases hl1 with he | hl1
 ·subst he
  refine aguard_t (fun h1 => ?_) (fun h1 => ?_) <;> (try simp only [decide_eq_true_eq, decide_eq_false_iff_not] at h1) <;> simp (disch := omega) only [Sh.out h1, go_sem, seval]
  ·exact absurd trivial h1
  ·rw [show Lib.indexByte [] 32 = -1 from rfl] at ci
   refine (ci).use ?_
   simp (disch := omega) only [go_sem, seval]
   refine (word_c [] (by simp)).use ?_
   simp (disch := omega) only [go_sem, seval]
   have e : partN [] = 0 := rfl
   have e2 : wordS [] = false := rfl
   rw [e]
   simp (disch := omega) only [e2, go_sem, seval]
 ·refine aguard_t (fun h1 => ?_) (fun h1 => ?_) <;> (try simp only [decide_eq_true_eq, decide_eq_false_iff_not] at h1) <;> simp (disch := omega) only [Sh.out h1, go_sem, seval]
  ·refine acond_b (fun h2 => ?_) (fun h2 => ?_) <;> (try simp only [decide_eq_true_eq, decide_eq_false_iff_not] at h2) <;> simp (disch := omega) only [Sh.out h2, go_sem, seval]
   ·exact absurd ⟨hl1, by omega⟩ hq
   ·refine (ci).use ?_
    simp (disch := omega) only [go_sem, seval]
    refine acond_b (fun h3 => ?_) (fun h3 => ?_) <;> (try simp only [decide_eq_true_eq, decide_eq_false_iff_not] at h3) <;> simp (disch := omega) only [Sh.out h3, go_sem, seval]
    ·have e : s.take (ixS s) = s := by rw [show ixS s = s.length by rw [ixS, if_pos h3], List.take_length]
     have en : ixS s = s.length := by rw [ixS, if_pos h3]
     rw [List.take_length]
     refine (word_c s hs).use ?_
     simp (disch := omega) only [go_sem, seval]
     cases hw : wordS s with
     | true =>
      have ep : partN s = s.length := by rw [partN, e, if_pos hw, en]
      rw [ep]
      simp (disch := omega) only [hw, go_sem, seval]
     | false =>
      have ep : partN s = 0 := by rw [partN, e, if_neg (by rw [hw]; simp)]
      rw [ep]
      simp (disch := omega) only [hw, go_sem, seval]
    ·have e2 : (ixS s : Int) = Lib.indexByte s 32 := by rw [ixS, if_neg h3]; omega
     rw [← e2]
     simp (disch := omega) only [go_sem, seval]
     have ep : ∀ b, wordS (s.take (ixS s)) = b → partN s = if b = true then ixS s else 0 := fun b hb => by rw [partN, hb]
     generalize ixS s = n at *
     refine (word_c (s.take n) (by rw [List.length_take]; omega)).use ?_
     simp (disch := omega) only [go_sem, seval]
     cases hw : wordS (s.take n) with
     | true =>
      rw [ep true hw]
      simp (disch := omega) only [hw, go_sem, seval]
     | false =>
      rw [ep false hw]
      simp (disch := omega) only [hw, Bool.false_eq_true, go_sem, seval]
  ·exact absurd (List.length_pos_iff.1 hl1) (by simpa using h1)
end Go.Proofs.YtngonbhfbpnkcaaGreatDoor.K
set_option linter.unusedVariables false
set_option linter.unusedSimpArgs false
namespace Go.Proofs.YtngonbhfbpnkcaaGreatDoor.K
open Go Go.AM Go.Proofs
set_option maxRecDepth 8000
set_option maxHeartbeats 8000000
def wrdF : Nat → List UInt8 → Option (List (List UInt8))
 | _, [] => some []
 | 0, _ :: _ => none
 | n + 1, b :: l =>
  if partN (b :: l) = 0 then none
  else if partN (b :: l) = (b :: l).length then some [b :: l]
  else if (nth (b :: l) (partN (b :: l))).toNat ≠ 32 ∨ partN (b :: l) + 1 = (b :: l).length then none
  else (wrdF n ((b :: l).drop (partN (b :: l) + 1))).map fun r => (b :: l).take (partN (b :: l)) :: r
theorem wrdF_step {n : Nat} {s : List UInt8} (h : 0 < s.length) : wrdF (n + 1) s = if partN s = 0 then none else if partN s = s.length then some [s] else if (nth s (partN s)).toNat ≠ 32 ∨ partN s + 1 = s.length then none else (wrdF n (s.drop (partN s + 1))).map fun r => s.take (partN s) :: r := by
 cases s with
 | nil => simp at h
 | cons b l => rfl
def wrdV (o : Option (List (List UInt8))) : V := match o with
 | some l => .tup [.p (.list false (l.map strE)), .p (.int .i64 0)]
 | none => .tup [.p (.list true []), .p (.int .i64 3)]
theorem partN_le (s : List UInt8) : partN s ≤ s.length := by
 have := ixS_le s
 unfold partN
 split <;> omega
theorem words_c (s : List UInt8) (hs : s.length ≤ 1048576) (hq : plainS s) : ACalls Tryz.prog 69 [.p (.str s)] [] fun y H' => y = wrdV (wrdF s.length s) ∧ H' = [] := by
 refine acalls_weak [7, 12] (fn := Tryz.f69) Tryz.func69 rfl isF69 ?_
 simp (disch := omega) only [Tryz.f69, go_sem, seval]
 refine awp_forC [7, 12] [] (fun q : Nat × List UInt8 × List (List UInt8) => [(0, .p (.str q.2.1)), (4, .sl 0 0 q.2.2.length q.2.2.length)]) (fun q => [.elems 1 (q.2.2.map strE)])
  (fun q => q.2.1.length ≤ q.1 ∧ q.1 ≤ s.length ∧ q.2.2.length + q.2.1.length ≤ s.length ∧ plainS q.2.1 ∧ wrdF s.length s = (wrdF q.1 q.2.1).map fun r => q.2.2 ++ r) (fun q => q.2.1.length) (s.length, s, []) (by simpa using hq) (Weak.ofNil 4 1 rfl (by simp) (Weak.mk ?_)) ?_
 ·simp (disch := omega) only [List.map_nil, List.length_nil, go_sem, seval]
 ·rintro ⟨n, r, o⟩ ⟨h1, h2, h3, h4, h5⟩
  simp only at h1 h2 h3 h4 h5
  simp (disch := omega) only [go_sem, seval]
  have hrl : r = [] ∨ 0 < r.length := by cases r <;> simp
  rcases hrl with he | hrl
  ·subst he
   have e5 : wrdF s.length s = some o := by rw [h5]; cases n <;> simp [wrdF]
   rw [e5]
   refine acond_b (fun h6 => ?_) (fun h6 => ?_) <;> (try simp only [decide_eq_true_eq, decide_eq_false_iff_not] at h6) <;> simp (disch := omega) only [Sh.out h6, go_sem, seval]
   ·exact absurd trivial h6
   ·refine awp_weak (Weak.fz (o := 0) (by rfl)) ?_
    refine awp_sound [] _ _ _ _ ?_
    simp (disch := omega) only [List.map_cons, List.map_nil, List.set_cons_succ, List.set_cons_zero, go_sem, seval]
    exact ⟨wrdV (some o), [], Weak.mk (by simp (disch := omega) only [wrdV, go_sem, seval]), rfl, rfl⟩
  ·refine acond_b (fun h6 => ?_) (fun h6 => ?_) <;> (try simp only [decide_eq_true_eq, decide_eq_false_iff_not] at h6) <;> simp (disch := omega) only [Sh.out h6, go_sem, seval]
   ·have hp := partN_le r
    have hq0 : ¬ (0 < r.length ∧ (nth r 0).toNat = 34) := fun h => h4 _ (nth_in hrl) h.2
    obtain ⟨m, rfl⟩ : ∃ m, n = m + 1 := ⟨n - 1, by omega⟩
    rw [wrdF_step hrl] at h5
    refine (part_c r (by omega) hq0).use ?_
    simp (disch := omega) only [go_sem, seval]
    generalize partN r = k at *
    refine acond_b (fun h7 => ?_) (fun h7 => ?_) <;> (try simp only [decide_eq_true_eq, decide_eq_false_iff_not] at h7) <;> simp (disch := omega) only [Sh.out h7, go_sem, seval]
    ·have h7' : k = 0 := by omega
     have e5 : wrdF s.length s = none := by rw [h5, if_pos h7']; rfl
     rw [e5]
     exact ⟨wrdV none, [], Weak.mk (by simp (disch := omega) only [wrdV, go_sem, seval]), rfl, rfl⟩
    ·have h7' : ¬ k = 0 := by omega
     rw [if_neg h7'] at h5
     refine acond_b (fun h8 => ?_) (fun h8 => ?_) <;> (try simp only [decide_eq_true_eq, decide_eq_false_iff_not] at h8) <;> simp (disch := omega) only [Sh.out h8, go_sem, seval]
     ·have h8' : k = r.length := by omega
      have e5 : wrdF s.length s = some (o ++ [r]) := by rw [h5, if_pos h8']; rfl
      rw [e5]
      refine awp_join [] (fun _ : Unit => [(2, .sl 0 0 (o ++ [r]).length (o ++ [r]).length), (3, .p (.int .i64 0))]) (fun _ => [.elems 1 ((o ++ [r]).map strE)]) (fun _ => True) ?_ ?_
      ·simp (disch := omega) only [go_sem, seval]
       exact ⟨(), Weak.mk (by simp (disch := omega) only [List.map_append, List.map_cons, List.map_nil, List.length_append, List.length_cons, List.length_nil, go_sem, seval])⟩
      ·intro _ _
       refine awp_weak (Weak.fz (o := 0) (by rfl)) ?_
       refine awp_sound [] _ _ _ _ ?_
       simp (disch := omega) only [List.map_cons, List.map_nil, List.set_cons_succ, List.set_cons_zero, go_sem, seval]
       exact ⟨wrdV (some (o ++ [r])), [], Weak.mk (by simp (disch := omega) only [wrdV, List.map_append, List.map_cons, List.map_nil, go_sem, seval]), rfl, rfl⟩
     ·have h8' : ¬ k = r.length := by omega
      rw [if_neg h8'] at h5
      have hk : k < r.length := by omega
      refine aguard_f (fun h9 => ?_) (fun h9 => ?_) <;> (try simp only [decide_eq_true_eq, decide_eq_false_iff_not] at h9) <;> simp (disch := omega) only [Sh.out h9, go_sem, seval]
      ·rw [if_pos (.inl (by omega))] at h5
       rw [h5]
       exact ⟨wrdV none, [], Weak.mk (by simp (disch := omega) only [wrdV, go_sem, seval]), rfl, rfl⟩
      ·refine acond_b (fun h10 => ?_) (fun h10 => ?_) <;> (try simp only [decide_eq_true_eq, decide_eq_false_iff_not] at h10) <;> simp (disch := omega) only [Sh.out h10, go_sem, seval]
       ·rw [if_pos (.inr (by omega))] at h5
        rw [h5]
        exact ⟨wrdV none, [], Weak.mk (by simp (disch := omega) only [wrdV, go_sem, seval]), rfl, rfl⟩
       ·rw [if_neg (by omega)] at h5
        refine ⟨(m, r.drop (k + 1), o ++ [r.take k]), ⟨?_, ?_, ?_, ?_, ?_⟩, ?_, Weak.mk ?_⟩
        ·simp only [List.length_drop]; omega
        ·simp only; omega
        ·simp only [List.length_append, List.length_drop, List.length_cons, List.length_nil]; omega
        ·exact fun b hb => h4 b (List.mem_of_mem_drop hb)
        ·rw [h5]
         cases wrdF m (r.drop (k + 1)) <;> simp
        ·simp only [List.length_drop]; omega
        ·simp (disch := omega) only [List.map_append, List.map_cons, List.map_nil, List.length_append, List.length_cons, List.length_nil, go_sem, seval]
         rw [List.take_length]
   ·exact absurd (List.length_pos_iff.1 hrl) (by simpa using h6)
end Go.Proofs.YtngonbhfbpnkcaaGreatDoor.K
set_option linter.unusedVariables false
set_option linter.unusedSimpArgs false
namespace Go.Proofs.YtngonbhfbpnkcaaGreatDoor.K
open Go Go.AM Go.Proofs
set_option maxRecDepth 8000
set_option maxHeartbeats 8000000
theorem u8_back (c : UInt8) : ((c.toNat : Nat) : Int).toNat.toUInt8 = c := by simp
theorem index1_c (s : List UInt8) (c : UInt8) (hs : s.length ≤ 1048576) : ACalls Tryz.prog 173 [.p (.str s), .p (.str [c])] [] fun y H' => y = .p (.int .i64 (Lib.indexByte s c)) ∧ H' = [] := by
 have ci := indexByte_c s ((c.toNat : Nat) : Int)
 rw [u8_back] at ci
 have hc1 : [c].length = 1 := rfl
 have hc2 : nth [c] 0 = c := rfl
 refine acalls_pure (fn := Tryz.f173) Tryz.func173 rfl isF173 ?_
 simp (disch := omega) only [Tryz.f173, go_sem, seval]
 refine acond_b (fun h1 => ?_) (fun h1 => ?_) <;> (try simp only [decide_eq_true_eq, decide_eq_false_iff_not] at h1) <;> simp (disch := omega) only [Sh.out h1, go_sem, seval]
 ·have e : Lib.indexByte s c = 0 := by rw [← h1]; simp [Lib.indexByte]
  rw [e]
 ·simp (disch := omega) only [hc2, Int.toNat_zero, go_sem, seval]
  refine (ci).use ?_
  simp (disch := omega) only [go_sem, seval]
def cutS (s : List UInt8) (c : UInt8) : List UInt8 × List UInt8 × Bool := if 0 ≤ Lib.indexByte s c then (s.take (Lib.indexByte s c).toNat, s.drop ((Lib.indexByte s c).toNat + 1), true) else (s, [], false)
theorem cutL_c (s : List UInt8) (c : UInt8) (hs : s.length ≤ 1048576) : ACalls Tryz.prog 119 [.p (.str s), .p (.str [c])] [] fun y H' => y = .tup [.p (.str (cutS s c).1), .p (.str (cutS s c).2.1), .p (.bool (cutS s c).2.2)] ∧ H' = [] := by
 refine acalls_weak [] (fn := Tryz.f119) Tryz.func119 rfl isF119 ?_
 simp (disch := omega) only [Tryz.f119, go_sem, seval]
 refine (index1_c s c hs).use ?_
 simp (disch := omega) only [go_sem, seval]
 have hb := ixB_lt c s
 unfold cutS
 generalize Lib.indexByte s c = n at *
 refine acond_b (fun h1 => ?_) (fun h1 => ?_) <;> (try simp only [decide_eq_true_eq, decide_eq_false_iff_not] at h1) <;> simp (disch := omega) only [Sh.out h1, go_sem, seval]
 ·rw [if_pos h1]
  refine awp_drawnA mixed (by kernel_rfl) (by kernel_rfl) ?_
  simp (disch := omega) only [go_sem, seval]
  rw [List.take_length, show (n + 1).toNat = n.toNat + 1 by omega]
  exact ⟨_, _, Weak.mk (by simp (disch := omega) only [go_sem, seval]), rfl, rfl⟩
 ·exact ⟨_, _, Weak.mk (by simp (disch := omega) only [go_sem, seval]), rfl, rfl⟩
theorem cut_c (s : List UInt8) (c : UInt8) (hs : s.length ≤ 1048576) : ACalls Tryz.prog 59 [.p (.str s), .p (.str [c])] [] fun y H' => y = .tup [.p (.str (cutS s c).1), .p (.str (cutS s c).2.1), .p (.bool (cutS s c).2.2)] ∧ H' = [] := by
 refine acalls_weak [] (fn := Tryz.f59) Tryz.func59 rfl isF59 ?_
 simp (disch := omega) only [Tryz.f59, go_sem, seval]
 refine useT3' (cutL_c s c hs) ?_
 simp (disch := omega) only [go_sem, seval]
 exact ⟨_, _, Weak.mk (by simp (disch := omega) only [go_sem, seval]), rfl, rfl⟩
def trimM (s : List UInt8) : List UInt8 := if s.take 1 = [45] then s.drop 1 else s
theorem hasM_c (s : List UInt8) (hs : s.length ≤ 1048576) : ACalls Tryz.prog 270 [.p (.str s), .p (.str [45])] [] fun y H' => y = .p (.bool (decide (s.take 1 = [45]))) ∧ H' = [] := by
 refine acalls_pure (fn := Tryz.f270) Tryz.func270 rfl isF270 ?_
 simp (disch := omega) only [Tryz.f270, go_sem, seval]
 refine aguard_t (fun h1 => ?_) (fun h1 => ?_) <;> (try simp only [decide_eq_true_eq, decide_eq_false_iff_not] at h1) <;> simp (disch := omega) only [Sh.out h1, go_sem, seval]
 have hs0 : s = [] := List.eq_nil_of_length_eq_zero (by omega)
 subst hs0
 simp
theorem trimP_c (s : List UInt8) (hs : s.length ≤ 1048576) : ACalls Tryz.prog 181 [.p (.str s), .p (.str [45])] [] fun y H' => y = .p (.str (trimM s)) ∧ H' = [] := by
 have c1 : ACalls Tryz.prog 239 [.p (.str s), .p (.str [45])] [] fun y H' => y = .p (.str (trimM s)) ∧ H' = [] := by
  refine acalls_pure (fn := Tryz.f239) Tryz.func239 rfl isF239 ?_
  simp (disch := omega) only [Tryz.f239, go_sem, seval]
  refine (hasM_c s hs).use ?_
  simp (disch := omega) only [go_sem, seval]
  have hl : s.take 1 = [45] → 1 ≤ s.length := fun h => by cases s with | nil => simp at h | cons => simp
  refine acond_b (fun h1 => ?_) (fun h1 => ?_) <;> (try simp only [decide_eq_true_eq, decide_eq_false_iff_not] at h1) <;> simp (disch := omega) only [Sh.out h1, go_sem, seval]
  ·have hl := hl h1
   rw [trimM, if_pos h1]
   simp (disch := omega) only [go_sem, seval]
   rw [List.take_length]
  ·rw [trimM, if_neg h1]
 refine acalls_pure (fn := Tryz.f181) Tryz.func181 rfl isF181 ?_
 simp (disch := omega) only [Tryz.f181, go_sem, seval]
 refine (c1).use ?_
 simp (disch := omega) only [go_sem, seval]
theorem tdigit_c (c : Int) (hc : 0 ≤ c ∧ c < 256) : ACalls Tryz.prog 182 [.p (.int .u8 c)] [] fun y H' => y = .p (.bool (decide (48 ≤ c) && decide (c ≤ 57))) ∧ H' = [] := by
 refine acalls_pure (fn := Tryz.f182) Tryz.func182 rfl isF182 ?_
 simp (disch := omega) only [Tryz.f182, go_sem, seval]
 by_cases h1 : 48 ≤ c
 ·simp (disch := omega) only [h1, go_sem, seval]
 ·simp (disch := omega) only [h1, Bool.false_eq_true, go_sem, seval]
end Go.Proofs.YtngonbhfbpnkcaaGreatDoor.K
