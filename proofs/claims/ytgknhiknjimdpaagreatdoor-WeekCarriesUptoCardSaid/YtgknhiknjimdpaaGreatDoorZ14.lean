/- Declarations that the closing texts need, part 14: joined by tools/slim.py. -/
import Derived.Test.YtgknhiknjimdpaaGreatDoorZ13
set_option linter.unusedVariables false
set_option linter.unusedSimpArgs false
namespace Go.Proofs.YtgknhiknjimdpaaGreatDoor.K
open Go Go.AM Go.Proofs
set_option maxRecDepth 100000
def ZnI : List V:= [.p (.agg [.list false [.str [72,117,98]],.list true [],.list false [.agg [.str [97],.int .i64 (1),.int .i64 (0),.int .i64 (0),.list false [.int .i64 (5)],.int .i64 (0),.int .i64 (0),.int .i64 (0),.int .i64 (100),.int .i64 (50),.int .i64 (0),.int .i64 (0),.int .i64 (0),.int .i64 (0)]],.list false [.agg [.str [111],.list false [.int .i64 (1)],.int .i64 (-1),.int .i64 (0),.int .i64 (0),.int .i64 (0),.int .i64 (0),.int .i64 (0),.int .i64 (90),.int .i64 (0),.int .i64 (0),.int .i64 (50),.int .i64 (1),.int .i64 (-1),.int .i64 (-1),.bool false]],.list true [],.list true []]),.p (.int .i64 (0)),.p (.int .i64 (1))]
def Zno : V:= .tup [.p (.agg [.int .i64 (0),.int .i64 (1),.int .i64 (0),.int .i64 (0),.int .i64 (0),.list true [],.list false [.agg [.int .i64 (0),.bool true]]]),.p (.int .i64 (0))]
theorem ZpG : ACalls Tryz.prog 77 ZnI [] fun y H'=>y=Zno/\H'= []:=ZP { kp:= [67,225,36,17],lh:= [80],fa:= [35,126,158],kn:=CSk5 } 60 mixed (by kernel_rfl) Zn8
def CSk6 : List (FuncId×List V×V):=(77,ZnI,Zno)::CSk5
theorem Zn5 : KnL Tryz.prog CSk6:=KnL.cons ZpG rfl (fun n=>rfl) Zn8
def Znv : List V:= [.p (.agg [.list false [.str [72,117,98]],.list true [],.list false [.agg [.str [97],.int .i64 (1),.int .i64 (0),.int .i64 (0),.list false [.int .i64 (5)],.int .i64 (0),.int .i64 (0),.int .i64 (0),.int .i64 (100),.int .i64 (50),.int .i64 (0),.int .i64 (0),.int .i64 (0),.int .i64 (0)]],.list false [.agg [.str [111],.list false [.int .i64 (1)],.int .i64 (-1),.int .i64 (0),.int .i64 (0),.int .i64 (0),.int .i64 (0),.int .i64 (0),.int .i64 (90),.int .i64 (0),.int .i64 (0),.int .i64 (50),.int .i64 (1),.int .i64 (-1),.int .i64 (-1),.bool false]],.list true [],.list true []])]
def Zo6 : V:= .tup [.p (.list false [.agg [.int .i64 (0),.int .i64 (1),.int .i64 (0),.int .i64 (0),.int .i64 (0),.list true [],.list false [.agg [.int .i64 (0),.bool true]]]]),.p (.int .i64 (0))]
theorem Zp6 : ACalls Tryz.prog 55 Znv [] fun y H'=>y=Zo6/\H'= []:=ZP { kp:= [67,225,36,17],lh:= [80],fa:= [35,126,158],kn:=CSk6 } 60 mixed (by kernel_rfl) Zn5
def CSk7 : List (FuncId×List V×V):=(55,Znv,Zo6)::CSk6
theorem ZnC : KnL Tryz.prog CSk7:=KnL.cons Zp6 rfl (fun n=>rfl) Zn5
def ZnX : List V:= [.p (.list false [.agg [.int .i64 (0),.int .i64 (1),.int .i64 (0),.int .i64 (0),.int .i64 (0),.list true [],.list false [.agg [.int .i64 (0),.bool true]]]])]
def ZoL : V:= .p (.list false [.agg [.int .i64 (0),.int .i64 (1),.int .i64 (0),.int .i64 (0),.int .i64 (0),.list true [],.list false [.agg [.int .i64 (0),.bool true]]]])
theorem Zpe : ACalls Tryz.prog 102 ZnX [] fun y H'=>y=ZoL/\H'= []:=ZP { kp:= [67,225,36,17],lh:= [80],fa:= [35,126,158],kn:=CSk7 } 60 mixed (by kernel_rfl) ZnC
def CSk8 : List (FuncId×List V×V):=(102,ZnX,ZoL)::CSk7
theorem ZnG : KnL Tryz.prog CSk8:=KnL.cons Zpe rfl (fun n=>rfl) ZnC
end Go.Proofs.YtgknhiknjimdpaaGreatDoor.K
