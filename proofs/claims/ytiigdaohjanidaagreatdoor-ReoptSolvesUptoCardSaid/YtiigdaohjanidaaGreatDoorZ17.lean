/- Declarations that the closing texts need, part 17: joined by tools/slim.py. -/
import Derived.Test.YtiigdaohjanidaaGreatDoorZ16
set_option linter.unusedVariables false
set_option linter.unusedSimpArgs false
namespace Go.Proofs.YtiigdaohjanidaaGreatDoor.K
open Go Go.AM Go.Proofs
set_option maxRecDepth 100000
def rD : List V:= [.p (.agg [.list false [.str [72,117,98]],.list true [],.list false [.agg [.str [97],.int .i64 (1),.int .i64 (0),.int .i64 (0),.list false [.int .i64 (5)],.int .i64 (0),.int .i64 (0),.int .i64 (0),.int .i64 (100),.int .i64 (50),.int .i64 (0),.int .i64 (0),.int .i64 (0),.int .i64 (0)]],.list false [.agg [.str [111],.list false [.int .i64 (1)],.int .i64 (-1),.int .i64 (0),.int .i64 (0),.int .i64 (0),.int .i64 (0),.int .i64 (0),.int .i64 (90),.int .i64 (0),.int .i64 (0),.int .i64 (50),.int .i64 (1),.int .i64 (-1),.int .i64 (-1),.bool false]],.list true [],.list true []]),.p (.list false [.agg [.int .i64 (0),.int .i64 (1),.int .i64 (0),.int .i64 (0),.int .i64 (7),.list true [],.list false [.agg [.int .i64 (0),.bool true]]]])]
def rP : V:= .tup [.p (.agg [.list false [.agg [.int .i64 (0),.int .i64 (7),.list true [],.list false [.agg [.int .i64 (0),.bool true]]]],.list true []]),.p (.int .i64 (0)),.p (.int .i64 (0))]
theorem ZfP : ACalls Tryz.prog 64 rD [] fun y H'=>y=rP/\H'= []:=YA { kp:= [251,58,312,91],lh:= [101,251,193],fa:= [25,63,147,64,237,164,28],lb:=true,kn:=CHk12 } 60 mixed Zd rJ
def CHk13 : List (FuncId×List V×V):=(64,rD,rP)::CHk12
theorem rK : KnL Tryz.prog CHk13:=KnL.cons ZfP rfl (fun n=>rfl) rJ
def rE : List V:= [.p (.agg [.list false [.str [72,117,98]],.list true [],.list false [.agg [.str [97],.int .i64 (1),.int .i64 (0),.int .i64 (0),.list false [.int .i64 (5)],.int .i64 (0),.int .i64 (0),.int .i64 (0),.int .i64 (100),.int .i64 (50),.int .i64 (0),.int .i64 (0),.int .i64 (0),.int .i64 (0)]],.list false [.agg [.str [111],.list false [.int .i64 (1)],.int .i64 (-1),.int .i64 (0),.int .i64 (0),.int .i64 (0),.int .i64 (0),.int .i64 (0),.int .i64 (90),.int .i64 (0),.int .i64 (0),.int .i64 (50),.int .i64 (1),.int .i64 (-1),.int .i64 (-1),.bool false]],.list true [],.list true []]),.p (.agg [.list true [],.list true []]),.p (.list true []),.p (.int .i64 (7))]
def rQ : V:= .tup [.p (.agg [.list false [.agg [.int .i64 (0),.int .i64 (7),.list true [],.list false [.agg [.int .i64 (0),.bool true]]]],.list true []]),.p (.int .i64 (0)),.p (.int .i64 (0))]
theorem ZfQ : ACalls Tryz.prog 25 rE [] fun y H'=>y=rQ/\H'= []:=YA { kp:= [251,58,312,91],lh:= [101,251,193],fa:= [25,63,147,64,237,164,28],lb:=true,kn:=CHk13 } 60 mixed Zd rK
def CHk14 : List (FuncId×List V×V):=(25,rE,rQ)::CHk13
theorem rL : KnL Tryz.prog CHk14:=KnL.cons ZfQ rfl (fun n=>rfl) rK
end Go.Proofs.YtiigdaohjanidaaGreatDoor.K
