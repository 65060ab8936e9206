/- Declarations that the closing texts need, part 13: joined by tools/slim.py. -/
import Derived.Test.YtgknhiknjimdpaaGreatDoorZ12
set_option linter.unusedVariables false
set_option linter.unusedSimpArgs false
namespace Go.Proofs.YtgknhiknjimdpaaGreatDoor.K
open Go Go.AM Go.Proofs
set_option maxRecDepth 100000
def Znp : List V:= [.p (.agg [.list false [.str [72,117,98]],.list true [],.list false [.agg [.str [97],.int .i64 (1),.int .i64 (0),.int .i64 (0),.list false [.int .i64 (5)],.int .i64 (0),.int .i64 (0),.int .i64 (0),.int .i64 (100),.int .i64 (50),.int .i64 (0),.int .i64 (0),.int .i64 (0),.int .i64 (0)]],.list false [.agg [.str [111],.list false [.int .i64 (1)],.int .i64 (-1),.int .i64 (0),.int .i64 (0),.int .i64 (0),.int .i64 (0),.int .i64 (0),.int .i64 (90),.int .i64 (0),.int .i64 (0),.int .i64 (50),.int .i64 (1),.int .i64 (-1),.int .i64 (-1),.bool false]],.list true [],.list true []]),.p (.agg [.int .i64 (0),.int .i64 (0),.list true [],.list false [.agg [.int .i64 (0),.bool true]]])]
def Zor : V:= .tup [.p (.agg [.bool false,.int .i64 (0),.list false [.agg [.int .i64 (0),.int .i64 (0),.int .i64 (0),.bool false]],.int .i64 (0),.int .i64 (0)]),.p (.int .i64 (0))]
theorem ZpB : ACalls Tryz.prog 173 Znp [] fun y H'=>y=Zor/\H'= []:=ZP { kp:= [67,225,36,17],lh:= [80],fa:= [35,126,158],kn:=CSk2 } 60 mixed (by kernel_rfl) ZnV
def CSk3 : List (FuncId×List V×V):=(173,Znp,Zor)::CSk2
theorem Zng : KnL Tryz.prog CSk3:=KnL.cons ZpB rfl (fun n=>rfl) ZnV
def Znx : List V:= [.p (.agg [.list false [.str [72,117,98]],.list true [],.list false [.agg [.str [97],.int .i64 (1),.int .i64 (0),.int .i64 (0),.list false [.int .i64 (5)],.int .i64 (0),.int .i64 (0),.int .i64 (0),.int .i64 (100),.int .i64 (50),.int .i64 (0),.int .i64 (0),.int .i64 (0),.int .i64 (0)]],.list false [.agg [.str [111],.list false [.int .i64 (1)],.int .i64 (-1),.int .i64 (0),.int .i64 (0),.int .i64 (0),.int .i64 (0),.int .i64 (0),.int .i64 (90),.int .i64 (0),.int .i64 (0),.int .i64 (50),.int .i64 (1),.int .i64 (-1),.int .i64 (-1),.bool false]],.list true [],.list true []]),.p (.agg [.int .i64 (0),.int .i64 (0),.list true [],.list false [.agg [.int .i64 (0),.bool true]]])]
def ZoU : V:= .tup [.p (.agg [.bool false,.int .i64 (0),.list false [.agg [.int .i64 (0),.int .i64 (0),.int .i64 (0),.bool false]],.int .i64 (0),.int .i64 (0)]),.p (.agg [.int .i64 (0),.int .i64 (0),.int .i64 (0),.int .i64 (0)]),.p (.int .i64 (0))]
theorem Zpu : ACalls Tryz.prog 158 Znx [] fun y H'=>y=ZoU/\H'= []:=ZP { kp:= [67,225,36,17],lh:= [80],fa:= [35,126,158],kn:=CSk3 } 60 mixed (by kernel_rfl) Zng
def CSk4 : List (FuncId×List V×V):=(158,Znx,ZoU)::CSk3
theorem ZnZ : KnL Tryz.prog CSk4:=KnL.cons Zpu rfl (fun n=>rfl) Zng
def Znr : List V:= [.p (.agg [.list false [.str [72,117,98]],.list true [],.list false [.agg [.str [97],.int .i64 (1),.int .i64 (0),.int .i64 (0),.list false [.int .i64 (5)],.int .i64 (0),.int .i64 (0),.int .i64 (0),.int .i64 (100),.int .i64 (50),.int .i64 (0),.int .i64 (0),.int .i64 (0),.int .i64 (0)]],.list false [.agg [.str [111],.list false [.int .i64 (1)],.int .i64 (-1),.int .i64 (0),.int .i64 (0),.int .i64 (0),.int .i64 (0),.int .i64 (0),.int .i64 (90),.int .i64 (0),.int .i64 (0),.int .i64 (50),.int .i64 (1),.int .i64 (-1),.int .i64 (-1),.bool false]],.list true [],.list true []]),.p (.agg [.int .i64 (0),.int .i64 (0),.list true [],.list false [.agg [.int .i64 (0),.bool true]]])]
def Zo8 : V:= .tup [.p (.int .i64 (0)),.p (.int .i64 (0))]
theorem Zp7 : ACalls Tryz.prog 126 Znr [] fun y H'=>y=Zo8/\H'= []:=ZP { kp:= [67,225,36,17],lh:= [80],fa:= [35,126,158],kn:=CSk4 } 60 mixed (by kernel_rfl) ZnZ
def CSk5 : List (FuncId×List V×V):=(126,Znr,Zo8)::CSk4
theorem Zn8 : KnL Tryz.prog CSk5:=KnL.cons Zp7 rfl (fun n=>rfl) ZnZ
end Go.Proofs.YtgknhiknjimdpaaGreatDoor.K
