/- Declarations that the closing texts need, part 17: joined by tools/slim.py. -/
import Derived.Test.YtbdmjphjnniogaaGreatDoorZ16
set_option linter.unusedVariables false
set_option linter.unusedSimpArgs false
namespace Go.Proofs.YtbdmjphjnniogaaGreatDoor.K
open Go Go.AM Go.Proofs
set_option maxRecDepth 100000
def Zo6 : List V:= [.p (.agg [.list false [.str [72,117,98]],.list true [],.list false [.agg [.str [97],.int .i64 (1),.int .i64 (0),.int .i64 (0),.list false [.int .i64 (5)],.int .i64 (0),.int .i64 (0),.int .i64 (0),.int .i64 (100),.int .i64 (50),.int .i64 (0),.int .i64 (0),.int .i64 (0),.int .i64 (0)]],.list false [.agg [.str [111],.list false [.int .i64 (1)],.int .i64 (-1),.int .i64 (0),.int .i64 (0),.int .i64 (0),.int .i64 (0),.int .i64 (0),.int .i64 (90),.int .i64 (0),.int .i64 (0),.int .i64 (50),.int .i64 (1),.int .i64 (0),.int .i64 (-1),.bool false]],.list true [],.list true []]),.p (.int .i64 (0)),.p (.int .i64 (1))]
def Zmk : V:= .tup [.p (.agg [.int .i64 (0),.int .i64 (1),.int .i64 (0),.int .i64 (0),.int .i64 (0),.list true [],.list false [.agg [.int .i64 (0),.bool true]]]),.p (.int .i64 (0))]
theorem ZwM : ACalls Tryz.prog 151 Zo6 [] fun y H'=>y=Zmk/\H'= []:=Xk { kp:= [88,247,66,63],lh:= [96],fa:= [65,228,70],kn:=CTk15 } 60 Zm (by kernel_rfl) ZoV
def CTk16 : List (FuncId×List V×V):=(151,Zo6,Zmk)::CTk15
theorem ZnH : KnL Tryz.prog CTk16:=KnL.cons ZwM rfl (fun n=>rfl) ZoV
def ZqL : List V:= [.p (.agg [.list false [.str [72,117,98]],.list true [],.list false [.agg [.str [97],.int .i64 (1),.int .i64 (0),.int .i64 (0),.list false [.int .i64 (5)],.int .i64 (0),.int .i64 (0),.int .i64 (0),.int .i64 (100),.int .i64 (50),.int .i64 (0),.int .i64 (0),.int .i64 (0),.int .i64 (0)]],.list false [.agg [.str [111],.list false [.int .i64 (1)],.int .i64 (-1),.int .i64 (0),.int .i64 (0),.int .i64 (0),.int .i64 (0),.int .i64 (0),.int .i64 (90),.int .i64 (0),.int .i64 (0),.int .i64 (50),.int .i64 (1),.int .i64 (0),.int .i64 (-1),.bool false]],.list true [],.list true []])]
def Zqy : V:= .tup [.p (.list false [.agg [.int .i64 (0),.int .i64 (1),.int .i64 (0),.int .i64 (0),.int .i64 (0),.list true [],.list false [.agg [.int .i64 (0),.bool true]]]]),.p (.int .i64 (0))]
theorem Zuo : ACalls Tryz.prog 108 ZqL [] fun y H'=>y=Zqy/\H'= []:=Xk { kp:= [88,247,66,63],lh:= [96],fa:= [65,228,70],kn:=CTk16 } 60 Zm (by kernel_rfl) ZnH
def CTk17 : List (FuncId×List V×V):=(108,ZqL,Zqy)::CTk16
theorem Zrp : KnL Tryz.prog CTk17:=KnL.cons Zuo rfl (fun n=>rfl) ZnH
def Zo3 : List V:= [.p (.agg [.list false [.str [72,117,98]],.list true [],.list false [.agg [.str [97],.int .i64 (1),.int .i64 (0),.int .i64 (0),.list false [.int .i64 (5)],.int .i64 (0),.int .i64 (0),.int .i64 (0),.int .i64 (100),.int .i64 (50),.int .i64 (0),.int .i64 (0),.int .i64 (0),.int .i64 (0)]],.list false [.agg [.str [111],.list false [.int .i64 (1)],.int .i64 (-1),.int .i64 (0),.int .i64 (0),.int .i64 (0),.int .i64 (0),.int .i64 (0),.int .i64 (90),.int .i64 (0),.int .i64 (0),.int .i64 (50),.int .i64 (1),.int .i64 (0),.int .i64 (-1),.bool false]],.list true [],.list true []]),.p (.list false [.agg [.int .i64 (0),.int .i64 (1),.int .i64 (0),.int .i64 (0),.int .i64 (0),.list true [],.list false [.agg [.int .i64 (0),.bool true]]]])]
def ZqT : V:= .tup [.p (.agg [.list false [.agg [.int .i64 (0),.int .i64 (0),.list true [],.list false [.agg [.int .i64 (0),.bool true]]]],.list true []]),.p (.int .i64 (0)),.p (.int .i64 (0))]
theorem ZvS : ACalls Tryz.prog 50 Zo3 [] fun y H'=>y=ZqT/\H'= []:=Xk { kp:= [88,247,66,63],lh:= [96],fa:= [65,228,70],kn:=CTk17 } 60 Zm (by kernel_rfl) Zrp
def CTk18 : List (FuncId×List V×V):=(50,Zo3,ZqT)::CTk17
theorem Zri : KnL Tryz.prog CTk18:=KnL.cons ZvS rfl (fun n=>rfl) Zrp
def Zrj : List V:= [.p (.agg [.list false [.str [72,117,98]],.list true [],.list false [.agg [.str [97],.int .i64 (1),.int .i64 (0),.int .i64 (0),.list false [.int .i64 (5)],.int .i64 (0),.int .i64 (0),.int .i64 (0),.int .i64 (100),.int .i64 (50),.int .i64 (0),.int .i64 (0),.int .i64 (0),.int .i64 (0)]],.list false [.agg [.str [111],.list false [.int .i64 (1)],.int .i64 (-1),.int .i64 (0),.int .i64 (0),.int .i64 (0),.int .i64 (0),.int .i64 (0),.int .i64 (90),.int .i64 (0),.int .i64 (0),.int .i64 (50),.int .i64 (1),.int .i64 (0),.int .i64 (-1),.bool false]],.list true [],.list true []])]
def Zoo : V:= .tup [.p (.agg [.list false [.agg [.int .i64 (0),.int .i64 (0),.list true [],.list false [.agg [.int .i64 (0),.bool true]]]],.list true []]),.p (.int .i64 (0)),.p (.int .i64 (0))]
theorem Zu4 : ACalls Tryz.prog 65 Zrj [] fun y H'=>y=Zoo/\H'= []:=Xk { kp:= [88,247,66,63],lh:= [96],fa:= [65,228,70],kn:=CTk18 } 60 Zm (by kernel_rfl) Zri
def CTk19 : List (FuncId×List V×V):=(65,Zrj,Zoo)::CTk18
theorem ZvV : KnL Tryz.prog CTk19:=KnL.cons Zu4 rfl (fun n=>rfl) Zri
theorem Zft : PC 12 [] (.bool true) :=
 Zht { kp:= [88,247,66,63],lh:= [96],fa:= [65,228,70],kn:=CTk19 } 60 Zm (by kernel_rfl) ZvV
end Go.Proofs.YtbdmjphjnniogaaGreatDoor.K
