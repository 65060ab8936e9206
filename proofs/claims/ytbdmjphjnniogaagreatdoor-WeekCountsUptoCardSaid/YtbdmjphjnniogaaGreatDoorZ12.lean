/- Declarations that the closing texts need, part 12: joined by tools/slim.py. -/
import Derived.Test.YtbdmjphjnniogaaGreatDoorZ11
set_option linter.unusedVariables false
set_option linter.unusedSimpArgs false
namespace Go.Proofs.YtbdmjphjnniogaaGreatDoor.K
open Go Go.AM Go.Proofs
set_option maxRecDepth 100000
def CTk0 : List (FuncId×List V×V):= []
theorem Zyz : KnL Tryz.prog CTk0:=fun k hk=>by cases hk
def Zy8 : List V:= [.p (.agg [.list false [.str [72,117,98]],.list true [],.list false [.agg [.str [97],.int .i64 (1),.int .i64 (0),.int .i64 (0),.list false [.int .i64 (5)],.int .i64 (0),.int .i64 (0),.int .i64 (0),.int .i64 (100),.int .i64 (50),.int .i64 (0),.int .i64 (0),.int .i64 (0),.int .i64 (0)]],.list false [.agg [.str [111],.list false [.int .i64 (1)],.int .i64 (-1),.int .i64 (0),.int .i64 (0),.int .i64 (0),.int .i64 (0),.int .i64 (0),.int .i64 (90),.int .i64 (0),.int .i64 (0),.int .i64 (50),.int .i64 (1),.int .i64 (-1),.int .i64 (-1),.bool false]],.list true [],.list true []]),.p (.agg [.int .i64 (0),.int .i64 (0),.list true [],.list false [.agg [.int .i64 (0),.bool true]]])]
def ZxE : V:= .p (.int .i64 (0))
theorem Zz1 : ACalls Tryz.prog 110 Zy8 [] fun y H'=>y=ZxE/\H'= []:=Xk { kp:= [88,247,66,63],lh:= [96],fa:= [65,228,70],kn:=CTk0 } 60 Zm (by kernel_rfl) Zyz
def CTk1 : List (FuncId×List V×V):=(110,Zy8,ZxE)::CTk0
theorem Zxz : KnL Tryz.prog CTk1:=KnL.cons Zz1 rfl (fun n=>rfl) Zyz
def ZxZ : List V:= [.p (.agg [.str [97],.int .i64 (1),.int .i64 (0),.int .i64 (0),.list false [.int .i64 (5)],.int .i64 (0),.int .i64 (0),.int .i64 (0),.int .i64 (100),.int .i64 (50),.int .i64 (0),.int .i64 (0),.int .i64 (0),.int .i64 (0)]),.p (.int .i64 (0))]
def ZxA : V:= .p (.bool true)
theorem Zz0 : ACalls Tryz.prog 160 ZxZ [] fun y H'=>y=ZxA/\H'= []:=Xk { kp:= [88,247,66,63],lh:= [96],fa:= [65,228,70],kn:=CTk1 } 60 Zm (by kernel_rfl) Zxz
def CTk2 : List (FuncId×List V×V):=(160,ZxZ,ZxA)::CTk1
theorem Zxl : KnL Tryz.prog CTk2:=KnL.cons Zz0 rfl (fun n=>rfl) Zxz
end Go.Proofs.YtbdmjphjnniogaaGreatDoor.K
