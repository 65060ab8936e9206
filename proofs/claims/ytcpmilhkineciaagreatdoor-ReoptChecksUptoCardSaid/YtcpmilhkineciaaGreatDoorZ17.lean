/- Declarations that the closing texts need, part 17: joined by tools/slim.py. -/
import Derived.Test.YtcpmilhkineciaaGreatDoorZ16
set_option linter.unusedVariables false
set_option linter.unusedSimpArgs false
namespace Go.Proofs.YtcpmilhkineciaaGreatDoor.K
open Go Go.AM Go.Proofs
set_option maxRecDepth 100000
def Zl4 : List V:= [.p (.agg [.list false [.str [72,117,98]],.list true [],.list false [.agg [.str [97],.int .i64 (1),.int .i64 (0),.int .i64 (0),.list false [.int .i64 (5)],.int .i64 (0),.int .i64 (0),.int .i64 (0),.int .i64 (100),.int .i64 (50),.int .i64 (0),.int .i64 (0),.int .i64 (0),.int .i64 (0)]],.list false [.agg [.str [111],.list false [.int .i64 (1)],.int .i64 (-1),.int .i64 (0),.int .i64 (0),.int .i64 (0),.int .i64 (0),.int .i64 (0),.int .i64 (90),.int .i64 (0),.int .i64 (0),.int .i64 (50),.int .i64 (1),.int .i64 (-1),.int .i64 (-1),.bool false]],.list true [],.list true []]),.p (.list false [.agg [.int .i64 (0),.int .i64 (1),.int .i64 (0),.int .i64 (0),.int .i64 (7),.list true [],.list false [.agg [.int .i64 (0),.bool true]]]])]
def ZoS : V:= .tup [.p (.agg [.list false [.agg [.int .i64 (0),.int .i64 (7),.list true [],.list false [.agg [.int .i64 (0),.bool true]]]],.list true []]),.p (.int .i64 (0)),.p (.int .i64 (0))]
theorem Zv5 : ACalls Tryz.prog 65 Zl4 [] fun y H'=>y=ZoS/\H'= []:=X1 { kp:= [252,59,313,92],lh:= [102,252,194],fa:= [26,64,148,65,238,165,29],lb:=true,kn:=CHk12 } 60 Zp (by kernel_rfl) ZqF
def CHk13 : List (FuncId×List V×V):=(65,Zl4,ZoS)::CHk12
theorem Znh : KnL Tryz.prog CHk13:=KnL.cons Zv5 rfl (fun n=>rfl) ZqF
def ZqB : List V:= [.p (.agg [.list false [.str [72,117,98]],.list true [],.list false [.agg [.str [97],.int .i64 (1),.int .i64 (0),.int .i64 (0),.list false [.int .i64 (5)],.int .i64 (0),.int .i64 (0),.int .i64 (0),.int .i64 (100),.int .i64 (50),.int .i64 (0),.int .i64 (0),.int .i64 (0),.int .i64 (0)]],.list false [.agg [.str [111],.list false [.int .i64 (1)],.int .i64 (-1),.int .i64 (0),.int .i64 (0),.int .i64 (0),.int .i64 (0),.int .i64 (0),.int .i64 (90),.int .i64 (0),.int .i64 (0),.int .i64 (50),.int .i64 (1),.int .i64 (-1),.int .i64 (-1),.bool false]],.list true [],.list true []]),.p (.agg [.list true [],.list true []]),.p (.list true []),.p (.int .i64 (7))]
def ZpP : V:= .tup [.p (.agg [.list false [.agg [.int .i64 (0),.int .i64 (7),.list true [],.list false [.agg [.int .i64 (0),.bool true]]]],.list true []]),.p (.int .i64 (0)),.p (.int .i64 (0))]
theorem ZwE : ACalls Tryz.prog 26 ZqB [] fun y H'=>y=ZpP/\H'= []:=X1 { kp:= [252,59,313,92],lh:= [102,252,194],fa:= [26,64,148,65,238,165,29],lb:=true,kn:=CHk13 } 60 Zp (by kernel_rfl) Znh
def CHk14 : List (FuncId×List V×V):=(26,ZqB,ZpP)::CHk13
theorem Zq8 : KnL Tryz.prog CHk14:=KnL.cons ZwE rfl (fun n=>rfl) Znh
end Go.Proofs.YtcpmilhkineciaaGreatDoor.K
