/- Declarations that the closing texts need, part 16: joined by tools/slim.py. -/
import Derived.Test.YtngonbhfbpnkcaaGreatDoorY15
import Derived.Lib.UnsafeStr
import Derived.Shelf.Strconv.Atoi
set_option linter.unusedVariables false
set_option linter.unusedSimpArgs false
namespace Go.Proofs.YtngonbhfbpnkcaaGreatDoor.K
open Go Go.AM Go.Proofs Go.Shelf Go.RowKit
set_option maxRecDepth 8000
set_option maxHeartbeats 8000000
theorem good_below {F : Nat → Prop} {w w' : World} (hF : ∀ b, F b → b < w.heap.size) (h : Below w.heap.size w w') : Go.AM.Good F [] [] w [] [] w' :=
 ⟨⟨rfl, fun b hb => by have := hF b hb; have := h.size; omega, fun i j b hi => by simp at hi, fun i b hi => by simp at hi, fun o cs ho => by simp at ho, fun o S xs ho => by simp at ho, fun o es ho => by simp at ho, fun o T E r bs ho => by simp at ho⟩,
  h.os, h.tape, h.output, fun b c t hb => .inr ⟨c, by rw [h.block b (Array.getElem?_eq_some_iff.1 hb).1]; exact hb, rfl⟩, h.size, fun b hb _ => h.block b hb, fun _ _ h => h, fun o ob ho => by simp at ho⟩
end Go.Proofs.YtngonbhfbpnkcaaGreatDoor.K
