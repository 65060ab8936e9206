/- Declarations that the closing texts need, part 16: joined by tools/slim.py. -/
import Derived.Test.YtgknhiknjimdpaaGreatDoorZ15
set_option linter.unusedVariables false
set_option linter.unusedSimpArgs false
namespace Go.Proofs.YtgknhiknjimdpaaGreatDoor.K
open Go Go.AM Go.Proofs
set_option maxRecDepth 100000
def ZfI : List V:= [.p (.agg [.list false [.str [72,117,98]],.list true [],.list false [.agg [.str [97],.int .i64 (1),.int .i64 (0),.int .i64 (0),.list false [.int .i64 (5)],.int .i64 (0),.int .i64 (0),.int .i64 (0),.int .i64 (100),.int .i64 (50),.int .i64 (0),.int .i64 (0),.int .i64 (0),.int .i64 (0)]],.list false [.agg [.str [111],.list false [.int .i64 (1)],.int .i64 (-1),.int .i64 (0),.int .i64 (0),.int .i64 (0),.int .i64 (0),.int .i64 (0),.int .i64 (90),.int .i64 (0),.int .i64 (0),.int .i64 (50),.int .i64 (1),.int .i64 (0),.int .i64 (-1),.bool false]],.list true [],.list true []]),.p (.agg [.int .i64 (0),.int .i64 (0),.list true [],.list false [.agg [.int .i64 (0),.bool true]]])]
def Zgh : V:= .tup [.p (.agg [.bool false,.int .i64 (0),.list false [.agg [.int .i64 (0),.int .i64 (0),.int .i64 (0),.bool false]],.int .i64 (0),.int .i64 (0)]),.p (.int .i64 (0))]
theorem ZlP : ACalls Tryz.prog 173 ZfI [] fun y H'=>y=Zgh/\H'= []:=ZP { kp:= [67,225,36,17],lh:= [80],fa:= [35,126,158],kn:=CSk12 } 60 mixed (by kernel_rfl) Zgw
def CSk13 : List (FuncId×List V×V):=(173,ZfI,Zgh)::CSk12
theorem Zgz : KnL Tryz.prog CSk13:=KnL.cons ZlP rfl (fun n=>rfl) Zgw
def Zgg : List V:= [.p (.agg [.list false [.str [72,117,98]],.list true [],.list false [.agg [.str [97],.int .i64 (1),.int .i64 (0),.int .i64 (0),.list false [.int .i64 (5)],.int .i64 (0),.int .i64 (0),.int .i64 (0),.int .i64 (100),.int .i64 (50),.int .i64 (0),.int .i64 (0),.int .i64 (0),.int .i64 (0)]],.list false [.agg [.str [111],.list false [.int .i64 (1)],.int .i64 (-1),.int .i64 (0),.int .i64 (0),.int .i64 (0),.int .i64 (0),.int .i64 (0),.int .i64 (90),.int .i64 (0),.int .i64 (0),.int .i64 (50),.int .i64 (1),.int .i64 (0),.int .i64 (-1),.bool false]],.list true [],.list true []]),.p (.agg [.int .i64 (0),.int .i64 (0),.list true [],.list false [.agg [.int .i64 (0),.bool true]]])]
def ZgG : V:= .tup [.p (.agg [.bool false,.int .i64 (0),.list false [.agg [.int .i64 (0),.int .i64 (0),.int .i64 (0),.bool false]],.int .i64 (0),.int .i64 (0)]),.p (.agg [.int .i64 (0),.int .i64 (0),.int .i64 (0),.int .i64 (0)]),.p (.int .i64 (0))]
theorem Zmo : ACalls Tryz.prog 158 Zgg [] fun y H'=>y=ZgG/\H'= []:=ZP { kp:= [67,225,36,17],lh:= [80],fa:= [35,126,158],kn:=CSk13 } 60 mixed (by kernel_rfl) Zgz
def CSk14 : List (FuncId×List V×V):=(158,Zgg,ZgG)::CSk13
theorem Zia : KnL Tryz.prog CSk14:=KnL.cons Zmo rfl (fun n=>rfl) Zgz
def ZhA : List V:= [.p (.agg [.list false [.str [72,117,98]],.list true [],.list false [.agg [.str [97],.int .i64 (1),.int .i64 (0),.int .i64 (0),.list false [.int .i64 (5)],.int .i64 (0),.int .i64 (0),.int .i64 (0),.int .i64 (100),.int .i64 (50),.int .i64 (0),.int .i64 (0),.int .i64 (0),.int .i64 (0)]],.list false [.agg [.str [111],.list false [.int .i64 (1)],.int .i64 (-1),.int .i64 (0),.int .i64 (0),.int .i64 (0),.int .i64 (0),.int .i64 (0),.int .i64 (90),.int .i64 (0),.int .i64 (0),.int .i64 (50),.int .i64 (1),.int .i64 (0),.int .i64 (-1),.bool false]],.list true [],.list true []]),.p (.agg [.int .i64 (0),.int .i64 (0),.list true [],.list false [.agg [.int .i64 (0),.bool true]]])]
def ZhL : V:= .tup [.p (.int .i64 (0)),.p (.int .i64 (0))]
theorem ZmP : ACalls Tryz.prog 126 ZhA [] fun y H'=>y=ZhL/\H'= []:=ZP { kp:= [67,225,36,17],lh:= [80],fa:= [35,126,158],kn:=CSk14 } 60 mixed (by kernel_rfl) Zia
def CSk15 : List (FuncId×List V×V):=(126,ZhA,ZhL)::CSk14
theorem Zik : KnL Tryz.prog CSk15:=KnL.cons ZmP rfl (fun n=>rfl) Zia
end Go.Proofs.YtgknhiknjimdpaaGreatDoor.K
