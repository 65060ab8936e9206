/- Declarations that the closing texts need, part 12: joined by tools/slim.py. -/
import Derived.Test.YtiigdaohjanidaaGreatDoorY11
set_option linter.unusedVariables false
set_option linter.unusedSimpArgs false
namespace Go.Proofs.YtiigdaohjanidaaGreatDoor.K
open Go Go.AM Go.Proofs
set_option maxRecDepth 100000
def CTk0 : List (FuncId×List V×V):= []
theorem Ze2 : KnL Tryz.prog CTk0:=fun k hk=>by cases hk
def ZeS : List V:= [.p (.agg [.list false [.str [72,117,98]],.list true [],.list false [.agg [.str [97],.int .i64 (1),.int .i64 (0),.int .i64 (0),.list false [.int .i64 (5)],.int .i64 (0),.int .i64 (0),.int .i64 (0),.int .i64 (100),.int .i64 (50),.int .i64 (0),.int .i64 (0),.int .i64 (0),.int .i64 (0)]],.list false [.agg [.str [111],.list false [.int .i64 (1)],.int .i64 (-1),.int .i64 (0),.int .i64 (0),.int .i64 (0),.int .i64 (0),.int .i64 (0),.int .i64 (90),.int .i64 (0),.int .i64 (0),.int .i64 (50),.int .i64 (1),.int .i64 (-1),.int .i64 (-1),.bool false]],.list true [],.list true []]),.p (.agg [.int .i64 (0),.int .i64 (0),.list true [],.list false [.agg [.int .i64 (0),.bool true]]])]
def Zfd : V:= .p (.int .i64 (0))
theorem Zlp : ACalls Tryz.prog 218 ZeS [] fun y H'=>y=Zfd/\H'= []:=X4 { kp:= [58,312,91,35],lh:= [101],fa:= [37,237,164],kn:=CTk0 } 60 mixed Zd Ze2
def CTk1 : List (FuncId×List V×V):=(218,ZeS,Zfd)::CTk0
theorem Ze3 : KnL Tryz.prog CTk1:=KnL.cons Zlp rfl (fun n=>rfl) Ze2
def ZeT : List V:= [.p (.agg [.str [97],.int .i64 (1),.int .i64 (0),.int .i64 (0),.list false [.int .i64 (5)],.int .i64 (0),.int .i64 (0),.int .i64 (0),.int .i64 (100),.int .i64 (50),.int .i64 (0),.int .i64 (0),.int .i64 (0),.int .i64 (0)]),.p (.int .i64 (0))]
def Zfe : V:= .p (.bool true)
theorem Zlq : ACalls Tryz.prog 264 ZeT [] fun y H'=>y=Zfe/\H'= []:=X4 { kp:= [58,312,91,35],lh:= [101],fa:= [37,237,164],kn:=CTk1 } 60 mixed Zd Ze3
def CTk2 : List (FuncId×List V×V):=(264,ZeT,Zfe)::CTk1
theorem Ze5 : KnL Tryz.prog CTk2:=KnL.cons Zlq rfl (fun n=>rfl) Ze3
end Go.Proofs.YtiigdaohjanidaaGreatDoor.K
