/- Declarations that the closing texts need, part 15: joined by tools/slim.py. -/
import Derived.Test.YtngonbhfbpnkcaaGreatDoorY14
import Derived.Shelf.Strings.Search1
set_option linter.unusedVariables false
set_option linter.unusedSimpArgs false
namespace Go.Proofs.YtngonbhfbpnkcaaGreatDoor.K
open Go Go.AM Go.Proofs Go.Shelf
set_option maxRecDepth 8000
set_option maxHeartbeats 8000000
theorem rv_str {F H ι w s v} (h : RV F H ι w (.p (.str s)) v) : v = .string ⟨s.toArray⟩ := by cases h with | p _ _ h => exact h.str_inv
end Go.Proofs.YtngonbhfbpnkcaaGreatDoor.K
set_option linter.unusedVariables false
set_option linter.unusedSimpArgs false
namespace Go.Proofs.YtngonbhfbpnkcaaGreatDoor.K
open Go Go.AM Go.Proofs
set_option maxRecDepth 8000
set_option maxHeartbeats 8000000
def strE (s : List UInt8) : PV := .str s
@[go_sem] theorem strE_eq (s : List UInt8) : strE s = .str s := Eq.trans rfl rfl
end Go.Proofs.YtngonbhfbpnkcaaGreatDoor.K
