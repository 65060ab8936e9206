/- Declarations that the closing texts need, part 12: joined by tools/slim.py. -/
import Derived.Test.YtgknhiknjimdpaaGreatDoorZ11
set_option linter.unusedVariables false
set_option linter.unusedSimpArgs false
namespace Go.Proofs.YtgknhiknjimdpaaGreatDoor.K
open Go Go.AM Go.Proofs
set_option maxRecDepth 100000
def CSk0 : List (FuncId×List V×V):= []
theorem Zni : KnL Tryz.prog CSk0:=fun k hk=>by cases hk
def ZoE : List V:= [.p (.agg [.list false [.str [72,117,98]],.list true [],.list false [.agg [.str [97],.int .i64 (1),.int .i64 (0),.int .i64 (0),.list false [.int .i64 (5)],.int .i64 (0),.int .i64 (0),.int .i64 (0),.int .i64 (100),.int .i64 (50),.int .i64 (0),.int .i64 (0),.int .i64 (0),.int .i64 (0)]],.list false [.agg [.str [111],.list false [.int .i64 (1)],.int .i64 (-1),.int .i64 (0),.int .i64 (0),.int .i64 (0),.int .i64 (0),.int .i64 (0),.int .i64 (90),.int .i64 (0),.int .i64 (0),.int .i64 (50),.int .i64 (1),.int .i64 (-1),.int .i64 (-1),.bool false]],.list true [],.list true []]),.p (.agg [.int .i64 (0),.int .i64 (0),.list true [],.list false [.agg [.int .i64 (0),.bool true]]])]
def Zo0 : V:= .p (.int .i64 (0))
theorem Zps : ACalls Tryz.prog 170 ZoE [] fun y H'=>y=Zo0/\H'= []:=ZP { kp:= [67,225,36,17],lh:= [80],fa:= [35,126,158],kn:=CSk0 } 60 mixed (by kernel_rfl) Zni
def CSk1 : List (FuncId×List V×V):=(170,ZoE,Zo0)::CSk0
theorem ZoB : KnL Tryz.prog CSk1:=KnL.cons Zps rfl (fun n=>rfl) Zni
def Zop : List V:= [.p (.agg [.str [97],.int .i64 (1),.int .i64 (0),.int .i64 (0),.list false [.int .i64 (5)],.int .i64 (0),.int .i64 (0),.int .i64 (0),.int .i64 (100),.int .i64 (50),.int .i64 (0),.int .i64 (0),.int .i64 (0),.int .i64 (0)]),.p (.int .i64 (0))]
def Znk : V:= .p (.bool true)
theorem ZpH : ACalls Tryz.prog 191 Zop [] fun y H'=>y=Znk/\H'= []:=ZP { kp:= [67,225,36,17],lh:= [80],fa:= [35,126,158],kn:=CSk1 } 60 mixed (by kernel_rfl) ZoB
def CSk2 : List (FuncId×List V×V):=(191,Zop,Znk)::CSk1
theorem ZnV : KnL Tryz.prog CSk2:=KnL.cons ZpH rfl (fun n=>rfl) ZoB
end Go.Proofs.YtgknhiknjimdpaaGreatDoor.K
