/- Declarations that the closing texts need, part 6: joined by tools/slim.py. -/
import Derived.Test.YtiigdaohjanidaaGreatDoorP5
import Derived.Shelf.Spec.SlicesGrow
set_option linter.unusedVariables false
set_option maxRecDepth 100000
namespace Go.Proofs.YtiigdaohjanidaaGreatDoor.K
open Go Go.Shelf Go.Proofs
def sortGrowR_ren : Go.Shelf.Ren:=⟨fun | 4=>146 | n=>n,fun | 22=>30 | 25=>49 | 3=>3 | 4=>4 | 9=>9 | 20=>20 | 0=>0 | n=>n,fun | n=>n⟩
theorem HT : Go.Proofs.Lays8.n4 Tryz.prog sortGrowR_ren:= {
 mixed:=Ze,
 f4:=⟨Tryz.f146.name,by decide,Tryz.func146.trans (Z5 some Ze)⟩,
 t0:=Tryz.underlying0,
 a0:=Tryz.isAgg0,
 z0:=Tryz.sizeOf0,
 v0:=Tryz.zeroValue0,
 t3:=Tryz.underlying3,
 a3:=Tryz.isAgg3,
 z3:=Tryz.sizeOf3,
 v3:=Tryz.zeroValue3,
 t4:=Tryz.underlying4,
 a4:=Tryz.isAgg4,
 z4:=Tryz.sizeOf4,
 v4:=Tryz.zeroValue4,
 t9:=Tryz.underlying9,
 a9:=Tryz.isAgg9,
 z9:=Tryz.sizeOf9,
 v9:=Tryz.zeroValue9,
 t20:=Tryz.underlying20,
 a20:=Tryz.isAgg20,
 z20:=Tryz.sizeOf20,
 v20:=Tryz.zeroValue20,
 t22:=Tryz.underlying30,
 a22:=Tryz.isAgg30,
 z22:=Tryz.sizeOf30,
 v22:=Tryz.zeroValue30 }
end Go.Proofs.YtiigdaohjanidaaGreatDoor.K
