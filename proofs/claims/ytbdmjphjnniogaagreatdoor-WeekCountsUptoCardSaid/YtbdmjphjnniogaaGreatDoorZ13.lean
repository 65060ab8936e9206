/- Declarations that the closing texts need, part 13: joined by tools/slim.py. -/
import Derived.Test.YtbdmjphjnniogaaGreatDoorZ12
set_option linter.unusedVariables false
set_option linter.unusedSimpArgs false
namespace Go.Proofs.YtbdmjphjnniogaaGreatDoor.K
open Go Go.AM Go.Proofs
set_option maxRecDepth 100000
def Zzj : List V:= [.p (.agg [.list false [.str [72,117,98]],.list true [],.list false [.agg [.str [97],.int .i64 (1),.int .i64 (0),.int .i64 (0),.list false [.int .i64 (5)],.int .i64 (0),.int .i64 (0),.int .i64 (0),.int .i64 (100),.int .i64 (50),.int .i64 (0),.int .i64 (0),.int .i64 (0),.int .i64 (0)]],.list false [.agg [.str [111],.list false [.int .i64 (1)],.int .i64 (-1),.int .i64 (0),.int .i64 (0),.int .i64 (0),.int .i64 (0),.int .i64 (0),.int .i64 (90),.int .i64 (0),.int .i64 (0),.int .i64 (50),.int .i64 (1),.int .i64 (-1),.int .i64 (-1),.bool false]],.list true [],.list true []]),.p (.agg [.int .i64 (0),.int .i64 (0),.list true [],.list false [.agg [.int .i64 (0),.bool true]]])]
def Zyo : V:= .tup [.p (.agg [.bool false,.int .i64 (0),.list false [.agg [.int .i64 (0),.int .i64 (0),.int .i64 (0),.bool false]],.int .i64 (0),.int .i64 (0)]),.p (.int .i64 (0))]
theorem ZAA : ACalls Tryz.prog 113 Zzj [] fun y H'=>y=Zyo/\H'= []:=Xk { kp:= [88,247,66,63],lh:= [96],fa:= [65,228,70],kn:=CTk2 } 60 Zm (by kernel_rfl) Zxl
def CTk3 : List (FuncId×List V×V):=(113,Zzj,Zyo)::CTk2
theorem Zy1 : KnL Tryz.prog CTk3:=KnL.cons ZAA rfl (fun n=>rfl) Zxl
def Zy9 : List V:= [.p (.agg [.list false [.str [72,117,98]],.list true [],.list false [.agg [.str [97],.int .i64 (1),.int .i64 (0),.int .i64 (0),.list false [.int .i64 (5)],.int .i64 (0),.int .i64 (0),.int .i64 (0),.int .i64 (100),.int .i64 (50),.int .i64 (0),.int .i64 (0),.int .i64 (0),.int .i64 (0)]],.list false [.agg [.str [111],.list false [.int .i64 (1)],.int .i64 (-1),.int .i64 (0),.int .i64 (0),.int .i64 (0),.int .i64 (0),.int .i64 (0),.int .i64 (90),.int .i64 (0),.int .i64 (0),.int .i64 (50),.int .i64 (1),.int .i64 (-1),.int .i64 (-1),.bool false]],.list true [],.list true []]),.p (.agg [.int .i64 (0),.int .i64 (0),.list true [],.list false [.agg [.int .i64 (0),.bool true]]])]
def Zy4 : V:= .tup [.p (.agg [.bool false,.int .i64 (0),.list false [.agg [.int .i64 (0),.int .i64 (0),.int .i64 (0),.bool false]],.int .i64 (0),.int .i64 (0)]),.p (.agg [.int .i64 (0),.int .i64 (0),.int .i64 (0),.int .i64 (0)]),.p (.int .i64 (0))]
theorem ZAx : ACalls Tryz.prog 70 Zy9 [] fun y H'=>y=Zy4/\H'= []:=Xk { kp:= [88,247,66,63],lh:= [96],fa:= [65,228,70],kn:=CTk3 } 60 Zm (by kernel_rfl) Zy1
def CTk4 : List (FuncId×List V×V):=(70,Zy9,Zy4)::CTk3
theorem ZxJ : KnL Tryz.prog CTk4:=KnL.cons ZAx rfl (fun n=>rfl) Zy1
def Zzo : List V:= [.p (.agg [.list false [.str [72,117,98]],.list true [],.list false [.agg [.str [97],.int .i64 (1),.int .i64 (0),.int .i64 (0),.list false [.int .i64 (5)],.int .i64 (0),.int .i64 (0),.int .i64 (0),.int .i64 (100),.int .i64 (50),.int .i64 (0),.int .i64 (0),.int .i64 (0),.int .i64 (0)]],.list false [.agg [.str [111],.list false [.int .i64 (1)],.int .i64 (-1),.int .i64 (0),.int .i64 (0),.int .i64 (0),.int .i64 (0),.int .i64 (0),.int .i64 (90),.int .i64 (0),.int .i64 (0),.int .i64 (50),.int .i64 (1),.int .i64 (-1),.int .i64 (-1),.bool false]],.list true [],.list true []]),.p (.agg [.int .i64 (0),.int .i64 (0),.list true [],.list false [.agg [.int .i64 (0),.bool true]]])]
def ZxF : V:= .tup [.p (.int .i64 (0)),.p (.int .i64 (0))]
theorem ZzQ : ACalls Tryz.prog 228 Zzo [] fun y H'=>y=ZxF/\H'= []:=Xk { kp:= [88,247,66,63],lh:= [96],fa:= [65,228,70],kn:=CTk4 } 60 Zm (by kernel_rfl) ZxJ
def CTk5 : List (FuncId×List V×V):=(228,Zzo,ZxF)::CTk4
theorem Zx0 : KnL Tryz.prog CTk5:=KnL.cons ZzQ rfl (fun n=>rfl) ZxJ
end Go.Proofs.YtbdmjphjnniogaaGreatDoor.K
