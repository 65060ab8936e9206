/- Declarations that the closing texts need, part 14: joined by tools/slim.py. -/
import Derived.Test.YtbdmjphjnniogaaGreatDoorZ13
set_option linter.unusedVariables false
set_option linter.unusedSimpArgs false
namespace Go.Proofs.YtbdmjphjnniogaaGreatDoor.K
open Go Go.AM Go.Proofs
set_option maxRecDepth 100000
def ZyX : List V:= [.p (.agg [.list false [.str [72,117,98]],.list true [],.list false [.agg [.str [97],.int .i64 (1),.int .i64 (0),.int .i64 (0),.list false [.int .i64 (5)],.int .i64 (0),.int .i64 (0),.int .i64 (0),.int .i64 (100),.int .i64 (50),.int .i64 (0),.int .i64 (0),.int .i64 (0),.int .i64 (0)]],.list false [.agg [.str [111],.list false [.int .i64 (1)],.int .i64 (-1),.int .i64 (0),.int .i64 (0),.int .i64 (0),.int .i64 (0),.int .i64 (0),.int .i64 (90),.int .i64 (0),.int .i64 (0),.int .i64 (50),.int .i64 (1),.int .i64 (-1),.int .i64 (-1),.bool false]],.list true [],.list true []]),.p (.int .i64 (0)),.p (.int .i64 (1))]
def Zyx : V:= .tup [.p (.agg [.int .i64 (0),.int .i64 (1),.int .i64 (0),.int .i64 (0),.int .i64 (0),.list true [],.list false [.agg [.int .i64 (0),.bool true]]]),.p (.int .i64 (0))]
theorem Zzv : ACalls Tryz.prog 151 ZyX [] fun y H'=>y=Zyx/\H'= []:=Xk { kp:= [88,247,66,63],lh:= [96],fa:= [65,228,70],kn:=CTk5 } 60 Zm (by kernel_rfl) Zx0
def CTk6 : List (FuncId×List V×V):=(151,ZyX,Zyx)::CTk5
theorem Zxq : KnL Tryz.prog CTk6:=KnL.cons Zzv rfl (fun n=>rfl) Zx0
def Zxy : List V:= [.p (.agg [.list false [.str [72,117,98]],.list true [],.list false [.agg [.str [97],.int .i64 (1),.int .i64 (0),.int .i64 (0),.list false [.int .i64 (5)],.int .i64 (0),.int .i64 (0),.int .i64 (0),.int .i64 (100),.int .i64 (50),.int .i64 (0),.int .i64 (0),.int .i64 (0),.int .i64 (0)]],.list false [.agg [.str [111],.list false [.int .i64 (1)],.int .i64 (-1),.int .i64 (0),.int .i64 (0),.int .i64 (0),.int .i64 (0),.int .i64 (0),.int .i64 (90),.int .i64 (0),.int .i64 (0),.int .i64 (50),.int .i64 (1),.int .i64 (-1),.int .i64 (-1),.bool false]],.list true [],.list true []])]
def Zw6 : V:= .tup [.p (.list false [.agg [.int .i64 (0),.int .i64 (1),.int .i64 (0),.int .i64 (0),.int .i64 (0),.list true [],.list false [.agg [.int .i64 (0),.bool true]]]]),.p (.int .i64 (0))]
theorem ZzY : ACalls Tryz.prog 108 Zxy [] fun y H'=>y=Zw6/\H'= []:=Xk { kp:= [88,247,66,63],lh:= [96],fa:= [65,228,70],kn:=CTk6 } 60 Zm (by kernel_rfl) Zxq
def CTk7 : List (FuncId×List V×V):=(108,Zxy,Zw6)::CTk6
theorem ZyE : KnL Tryz.prog CTk7:=KnL.cons ZzY rfl (fun n=>rfl) Zxq
def ZxK : List V:= [.p (.list false [.agg [.int .i64 (0),.int .i64 (1),.int .i64 (0),.int .i64 (0),.int .i64 (0),.list true [],.list false [.agg [.int .i64 (0),.bool true]]]])]
def ZyA : V:= .p (.list false [.agg [.int .i64 (0),.int .i64 (1),.int .i64 (0),.int .i64 (0),.int .i64 (0),.list true [],.list false [.agg [.int .i64 (0),.bool true]]]])
theorem ZzO : ACalls Tryz.prog 139 ZxK [] fun y H'=>y=ZyA/\H'= []:=Xk { kp:= [88,247,66,63],lh:= [96],fa:= [65,228,70],kn:=CTk7 } 60 Zm (by kernel_rfl) ZyE
def CTk8 : List (FuncId×List V×V):=(139,ZxK,ZyA)::CTk7
theorem Zxc : KnL Tryz.prog CTk8:=KnL.cons ZzO rfl (fun n=>rfl) ZyE
end Go.Proofs.YtbdmjphjnniogaaGreatDoor.K
