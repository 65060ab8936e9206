/- Declarations that the closing texts need, part 18: joined by tools/slim.py. -/
import Derived.Test.YtiigdaohjanidaaGreatDoorZ17
set_option linter.unusedVariables false
set_option linter.unusedSimpArgs false
namespace Go.Proofs.YtiigdaohjanidaaGreatDoor.K
open Go Go.AM Go.Proofs
set_option maxRecDepth 100000
def rF : List V:= [.p (.agg [.list false [.str [72,117,98]],.list true [],.list false [.agg [.str [97],.int .i64 (1),.int .i64 (0),.int .i64 (0),.list false [.int .i64 (5)],.int .i64 (0),.int .i64 (0),.int .i64 (0),.int .i64 (100),.int .i64 (50),.int .i64 (0),.int .i64 (0),.int .i64 (0),.int .i64 (0)]],.list false [.agg [.str [111],.list false [.int .i64 (1)],.int .i64 (-1),.int .i64 (0),.int .i64 (0),.int .i64 (0),.int .i64 (0),.int .i64 (0),.int .i64 (90),.int .i64 (0),.int .i64 (0),.int .i64 (50),.int .i64 (1),.int .i64 (-1),.int .i64 (-1),.bool false]],.list true [],.list true []]),.p (.agg [.list false [.agg [.int .i64 (0),.int .i64 (7),.list true [],.list false [.agg [.int .i64 (0),.bool true]]]],.list true []])]
def rR : V:= .p (.int .i64 (0))
theorem ZfR : ACalls Tryz.prog 67 rF [] fun y H'=>y=rR/\H'= []:=YA { kp:= [251,58,312,91],lh:= [101,251,193],fa:= [25,63,147,64,237,164,28],lb:=true,kn:=CHk14 } 60 mixed Zd rL
def CHk15 : List (FuncId×List V×V):=(67,rF,rR)::CHk14
theorem rM : KnL Tryz.prog CHk15:=KnL.cons ZfR rfl (fun n=>rfl) rL
def rG : List V:= [.p (.agg [.list false [.str [72,117,98]],.list true [],.list false [.agg [.str [97],.int .i64 (1),.int .i64 (0),.int .i64 (0),.list false [.int .i64 (5)],.int .i64 (0),.int .i64 (0),.int .i64 (0),.int .i64 (100),.int .i64 (50),.int .i64 (0),.int .i64 (0),.int .i64 (0),.int .i64 (0)]],.list false [.agg [.str [111],.list false [.int .i64 (1)],.int .i64 (-1),.int .i64 (0),.int .i64 (0),.int .i64 (0),.int .i64 (0),.int .i64 (0),.int .i64 (90),.int .i64 (0),.int .i64 (0),.int .i64 (50),.int .i64 (1),.int .i64 (-1),.int .i64 (-1),.bool false]],.list true [],.list true []]),.p (.agg [.list false [.agg [.int .i64 (0),.int .i64 (7),.list true [],.list false [.agg [.int .i64 (0),.bool true]]]],.list true []]),.p (.list true []),.p (.int .i64 (8))]
def rS : V:= .p (.int .i64 (32))
theorem ZfS : ACalls Tryz.prog 28 rG [] fun y H'=>y=rS/\H'= []:=YA { kp:= [251,58,312,91],lh:= [101,251,193],fa:= [25,63,147,64,237,164,28],lb:=true,kn:=CHk15 } 60 mixed Zd rM
def CHk16 : List (FuncId×List V×V):=(28,rG,rS)::CHk15
theorem Zfu : KnL Tryz.prog CHk16:=KnL.cons ZfS rfl (fun n=>rfl) rM
theorem Rt : PC 21 [] (.bool true) :=
 iJ { kp:= [251,58,312,91],lh:= [101,251,193],fa:= [25,63,147,64,237,164,28],lb:=true,kn:=CHk16 } 60 mixed Zd Zfu
end Go.Proofs.YtiigdaohjanidaaGreatDoor.K
