/- Declarations that the closing texts need, part 16: joined by tools/slim.py. -/
import Derived.Test.YtbdmjphjnniogaaGreatDoorZ15
set_option linter.unusedVariables false
set_option linter.unusedSimpArgs false
namespace Go.Proofs.YtbdmjphjnniogaaGreatDoor.K
open Go Go.AM Go.Proofs
set_option maxRecDepth 100000
def Zm3 : List V:= [.p (.agg [.list false [.str [72,117,98]],.list true [],.list false [.agg [.str [97],.int .i64 (1),.int .i64 (0),.int .i64 (0),.list false [.int .i64 (5)],.int .i64 (0),.int .i64 (0),.int .i64 (0),.int .i64 (100),.int .i64 (50),.int .i64 (0),.int .i64 (0),.int .i64 (0),.int .i64 (0)]],.list false [.agg [.str [111],.list false [.int .i64 (1)],.int .i64 (-1),.int .i64 (0),.int .i64 (0),.int .i64 (0),.int .i64 (0),.int .i64 (0),.int .i64 (90),.int .i64 (0),.int .i64 (0),.int .i64 (50),.int .i64 (1),.int .i64 (0),.int .i64 (-1),.bool false]],.list true [],.list true []]),.p (.agg [.int .i64 (0),.int .i64 (0),.list true [],.list false [.agg [.int .i64 (0),.bool true]]])]
def Zoi : V:= .tup [.p (.agg [.bool false,.int .i64 (0),.list false [.agg [.int .i64 (0),.int .i64 (0),.int .i64 (0),.bool false]],.int .i64 (0),.int .i64 (0)]),.p (.int .i64 (0))]
theorem Zum : ACalls Tryz.prog 113 Zm3 [] fun y H'=>y=Zoi/\H'= []:=Xk { kp:= [88,247,66,63],lh:= [96],fa:= [65,228,70],kn:=CTk12 } 60 Zm (by kernel_rfl) ZnU
def CTk13 : List (FuncId×List V×V):=(113,Zm3,Zoi)::CTk12
theorem Zmm : KnL Tryz.prog CTk13:=KnL.cons Zum rfl (fun n=>rfl) ZnU
def Zp0 : List V:= [.p (.agg [.list false [.str [72,117,98]],.list true [],.list false [.agg [.str [97],.int .i64 (1),.int .i64 (0),.int .i64 (0),.list false [.int .i64 (5)],.int .i64 (0),.int .i64 (0),.int .i64 (0),.int .i64 (100),.int .i64 (50),.int .i64 (0),.int .i64 (0),.int .i64 (0),.int .i64 (0)]],.list false [.agg [.str [111],.list false [.int .i64 (1)],.int .i64 (-1),.int .i64 (0),.int .i64 (0),.int .i64 (0),.int .i64 (0),.int .i64 (0),.int .i64 (90),.int .i64 (0),.int .i64 (0),.int .i64 (50),.int .i64 (1),.int .i64 (0),.int .i64 (-1),.bool false]],.list true [],.list true []]),.p (.agg [.int .i64 (0),.int .i64 (0),.list true [],.list false [.agg [.int .i64 (0),.bool true]]])]
def Zra : V:= .tup [.p (.agg [.bool false,.int .i64 (0),.list false [.agg [.int .i64 (0),.int .i64 (0),.int .i64 (0),.bool false]],.int .i64 (0),.int .i64 (0)]),.p (.agg [.int .i64 (0),.int .i64 (0),.int .i64 (0),.int .i64 (0)]),.p (.int .i64 (0))]
theorem Zvo : ACalls Tryz.prog 70 Zp0 [] fun y H'=>y=Zra/\H'= []:=Xk { kp:= [88,247,66,63],lh:= [96],fa:= [65,228,70],kn:=CTk13 } 60 Zm (by kernel_rfl) Zmm
def CTk14 : List (FuncId×List V×V):=(70,Zp0,Zra)::CTk13
theorem Zo2 : KnL Tryz.prog CTk14:=KnL.cons Zvo rfl (fun n=>rfl) Zmm
def Zoc : List V:= [.p (.agg [.list false [.str [72,117,98]],.list true [],.list false [.agg [.str [97],.int .i64 (1),.int .i64 (0),.int .i64 (0),.list false [.int .i64 (5)],.int .i64 (0),.int .i64 (0),.int .i64 (0),.int .i64 (100),.int .i64 (50),.int .i64 (0),.int .i64 (0),.int .i64 (0),.int .i64 (0)]],.list false [.agg [.str [111],.list false [.int .i64 (1)],.int .i64 (-1),.int .i64 (0),.int .i64 (0),.int .i64 (0),.int .i64 (0),.int .i64 (0),.int .i64 (90),.int .i64 (0),.int .i64 (0),.int .i64 (50),.int .i64 (1),.int .i64 (0),.int .i64 (-1),.bool false]],.list true [],.list true []]),.p (.agg [.int .i64 (0),.int .i64 (0),.list true [],.list false [.agg [.int .i64 (0),.bool true]]])]
def ZnV : V:= .tup [.p (.int .i64 (0)),.p (.int .i64 (0))]
theorem ZwZ : ACalls Tryz.prog 228 Zoc [] fun y H'=>y=ZnV/\H'= []:=Xk { kp:= [88,247,66,63],lh:= [96],fa:= [65,228,70],kn:=CTk14 } 60 Zm (by kernel_rfl) Zo2
def CTk15 : List (FuncId×List V×V):=(228,Zoc,ZnV)::CTk14
theorem ZoV : KnL Tryz.prog CTk15:=KnL.cons ZwZ rfl (fun n=>rfl) Zo2
end Go.Proofs.YtbdmjphjnniogaaGreatDoor.K
