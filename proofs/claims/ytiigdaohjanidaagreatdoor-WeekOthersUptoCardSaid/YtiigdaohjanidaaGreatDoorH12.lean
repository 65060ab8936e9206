/- Declarations that the closing texts need, part 12: joined by tools/slim.py. -/
import Derived.Test.YtiigdaohjanidaaGreatDoorH11
set_option linter.unusedVariables false
set_option linter.unusedSimpArgs false
namespace Go.Proofs.YtiigdaohjanidaaGreatDoor.K
open Go Go.AM Go.Proofs
set_option maxRecDepth 100000
def CTk0 : List (FuncId×List V×V):= []
theorem ZeU : KnL Tryz.prog CTk0:=fun k hk=>by cases hk
def ZeK : List V:= [.p (.agg [.list false [.str [72,117,98]],.list true [],.list false [.agg [.str [97],.int .i64 (1),.int .i64 (0),.int .i64 (0),.list false [.int .i64 (5)],.int .i64 (0),.int .i64 (0),.int .i64 (0),.int .i64 (100),.int .i64 (50),.int .i64 (0),.int .i64 (0),.int .i64 (0),.int .i64 (0)]],.list false [.agg [.str [111],.list false [.int .i64 (1)],.int .i64 (-1),.int .i64 (0),.int .i64 (0),.int .i64 (0),.int .i64 (0),.int .i64 (0),.int .i64 (90),.int .i64 (0),.int .i64 (0),.int .i64 (50),.int .i64 (1),.int .i64 (-1),.int .i64 (-1),.bool false]],.list true [],.list true []]),.p (.agg [.int .i64 (0),.int .i64 (0),.list true [],.list false [.agg [.int .i64 (0),.bool true]]])]
def Ze5 : V:= .p (.int .i64 (0))
theorem Zk5 : ACalls Tryz.prog 218 ZeK [] fun y H'=>y=Ze5/\H'= []:=X4 { kp:= [58,312,91,35],lh:= [101],fa:= [37,237,164],kn:=CTk0 } 60 mixed Zd ZeU
def CTk1 : List (FuncId×List V×V):=(218,ZeK,Ze5)::CTk0
theorem ZeV : KnL Tryz.prog CTk1:=KnL.cons Zk5 rfl (fun n=>rfl) ZeU
def ZeL : List V:= [.p (.agg [.str [97],.int .i64 (1),.int .i64 (0),.int .i64 (0),.list false [.int .i64 (5)],.int .i64 (0),.int .i64 (0),.int .i64 (0),.int .i64 (100),.int .i64 (50),.int .i64 (0),.int .i64 (0),.int .i64 (0),.int .i64 (0)]),.p (.int .i64 (0))]
def Ze6 : V:= .p (.bool true)
theorem Zk6 : ACalls Tryz.prog 264 ZeL [] fun y H'=>y=Ze6/\H'= []:=X4 { kp:= [58,312,91,35],lh:= [101],fa:= [37,237,164],kn:=CTk1 } 60 mixed Zd ZeV
def CTk2 : List (FuncId×List V×V):=(264,ZeL,Ze6)::CTk1
theorem ZeX : KnL Tryz.prog CTk2:=KnL.cons Zk6 rfl (fun n=>rfl) ZeV
end Go.Proofs.YtiigdaohjanidaaGreatDoor.K
