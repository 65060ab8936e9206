/- Declarations that the closing texts need, part 16: joined by tools/slim.py. -/
import Derived.Test.YtngonbhfbpnkcaaGreatDoorZ15
import Derived.Lib.UnsafeStr
import Derived.Shelf.Strconv.Atoi
set_option linter.unusedVariables false
set_option linter.unusedSimpArgs false
namespace Go.Proofs.YtngonbhfbpnkcaaGreatDoor.K
open Go Go.AM Go.Proofs Go.Shelf Go.RowKit
set_option maxRecDepth 8000
set_option maxHeartbeats 8000000
theorem good_below {F : Nat → Prop} {w w' : World} (hF : ∀ b, F b → b < w.heap.size) (h : Below w.heap.size w w') : Go.AM.Good F [] [] w [] [] w' :=
 ⟨⟨rfl, fun b hb => by have := hF b hb; have := h.size; omega, fun i j b hi => by simp at hi, fun i b hi => by simp at hi, fun o cs ho => by simp at ho, fun o S xs ho => by simp at ho, fun o es ho => by simp at ho, fun o T E r bs ho => by simp at ho⟩,
  h.os, h.tape, h.output, fun b c t hb => .inr ⟨c, by rw [h.block b (Array.getElem?_eq_some_iff.1 hb).1]; exact hb, rfl⟩, h.size, fun b hb _ => h.block b hb, fun _ _ h => h, fun o ob ho => by simp at ho⟩
theorem acalls_str {P : Program} {g : FuncId} (hg : IsFun P g) {s : List UInt8} {y : V} {r : Value} (hy : ∀ {F ι w}, RV F [] ι w y r)
  (h : ∀ w, Calls P g #[.string ⟨s.toArray⟩] w fun e w' => e = .returned r ∧ Below w.heap.size w w') : ACalls P g [.p (.str s)] [] fun x H' => x = y ∧ H' = [] := by
 refine ⟨hg, fun F ι w vs hr hv => ?_⟩
 obtain ⟨h1, h2⟩ := hv
 have e0 := rv_str (h2 0 _ rfl)
 have hvs : vs = #[.string ⟨s.toArray⟩] := by
  apply Array.ext
  ·simpa using h1
  ·intro i h3 h4
   have : i = 0 := by simp at h4; omega
   subst this
   have : vs.getD 0 undef = vs[0] := by simp [Array.getD, h3]
   rw [← this, e0]; rfl
 rw [hvs]
 have hι : ι = [] := List.eq_nil_of_length_eq_zero hr.len
 subst hι
 refine (h w).mono ?_
 rintro e w' ⟨rfl, hb⟩
 exact ⟨_, _, [], _, rfl, ⟨rfl, rfl⟩, good_below hr.fin hb, hy⟩
theorem atoi_c (s : List UInt8) (n : Int) (hs : s.length ≤ 18) (h : Lib.atoi s = some n) : ACalls Tryz.prog 183 [.p (.str s)] [] fun y H' => y = .tup [.p (.int .i64 n), .p .nili] ∧ H' = [] := by
 refine acalls_str isF183 (r := .tuple #[.int .i64 n, .nilIface]) ?_ fun w => ?_
 ·intro F ι w
  refine .tup _ _ rfl fun j c hj => ?_
  match j, hj with
  | 0, hj => simp at hj; subst hj; exact .p _ _ (.int _ _)
  | 1, hj => simp at hj; subst hj; exact .p _ _ .nili
  | j + 2, hj => simp at hj
 ·refine (Any.strconv_Atoi layAtoi ⟨s.toArray⟩ n (by show s.toArray.size ≤ 18; simpa using hs) h w).mono ?_
  rintro e w' ⟨rfl, t, rfl⟩
  refine ⟨rfl, ?_⟩
  unfold Lib.bytesWorld
  exact Lib.below_freeze ((Below.drew (Below.refl _ w)).alloc (Nat.le_refl _) _) (Nat.le_refl _) 1
end Go.Proofs.YtngonbhfbpnkcaaGreatDoor.K
