/- Declarations that the closing texts need, part 19: joined by tools/slim.py. -/
import Derived.Test.YtiigdaohjanidaaGreatDoorP18
set_option linter.unusedVariables false
set_option linter.unusedSimpArgs false
namespace Go.Proofs.YtiigdaohjanidaaGreatDoor.K
open Go Go.AM Go.Proofs
set_option maxRecDepth 100000
def uG : List V:= [.p (.agg [.list false [.str [72,117,98]],.list true [],.list false [.agg [.str [97],.int .i64 (1),.int .i64 (0),.int .i64 (0),.list false [.int .i64 (5)],.int .i64 (0),.int .i64 (0),.int .i64 (0),.int .i64 (100),.int .i64 (50),.int .i64 (0),.int .i64 (0),.int .i64 (0),.int .i64 (0)]],.list false [.agg [.str [111],.list false [.int .i64 (1)],.int .i64 (-1),.int .i64 (0),.int .i64 (0),.int .i64 (0),.int .i64 (0),.int .i64 (0),.int .i64 (90),.int .i64 (0),.int .i64 (0),.int .i64 (50),.int .i64 (1),.int .i64 (-1),.int .i64 (-1),.bool false]],.list true [],.list true []]),.p (.agg [.list false [.agg [.int .i64 (0),.int .i64 (7),.list true [],.list false [.agg [.int .i64 (0),.bool true]]]],.list true []])]
def uS : V:= .p (.int .i64 (0))
theorem ZgY : ACalls Tryz.prog 67 uG [] fun y H'=>y=uS/\H'= []:=YJ { kp:= [251,58,312,91],lh:= [101,251,193],fa:= [25,63,147,64,237,164,28],lb:=true,kn:=CHk14 } 60 mixed Ze uM
def CHk15 : List (FuncId×List V×V):=(67,uG,uS)::CHk14
theorem uN : KnL Tryz.prog CHk15:=KnL.cons ZgY rfl (fun n=>rfl) uM
def uH : List V:= [.p (.agg [.list false [.str [72,117,98]],.list true [],.list false [.agg [.str [97],.int .i64 (1),.int .i64 (0),.int .i64 (0),.list false [.int .i64 (5)],.int .i64 (0),.int .i64 (0),.int .i64 (0),.int .i64 (100),.int .i64 (50),.int .i64 (0),.int .i64 (0),.int .i64 (0),.int .i64 (0)]],.list false [.agg [.str [111],.list false [.int .i64 (1)],.int .i64 (-1),.int .i64 (0),.int .i64 (0),.int .i64 (0),.int .i64 (0),.int .i64 (0),.int .i64 (90),.int .i64 (0),.int .i64 (0),.int .i64 (50),.int .i64 (1),.int .i64 (-1),.int .i64 (-1),.bool false]],.list true [],.list true []]),.p (.agg [.list false [.agg [.int .i64 (0),.int .i64 (7),.list true [],.list false [.agg [.int .i64 (0),.bool true]]]],.list true []]),.p (.list true []),.p (.int .i64 (8))]
def uT : V:= .p (.int .i64 (32))
theorem ZgZ : ACalls Tryz.prog 28 uH [] fun y H'=>y=uT/\H'= []:=YJ { kp:= [251,58,312,91],lh:= [101,251,193],fa:= [25,63,147,64,237,164,28],lb:=true,kn:=CHk15 } 60 mixed Ze uN
def CHk16 : List (FuncId×List V×V):=(28,uH,uT)::CHk15
theorem ZgB : KnL Tryz.prog CHk16:=KnL.cons ZgZ rfl (fun n=>rfl) uN
theorem SN : PC 21 [] (.bool true) :=
 lS { kp:= [251,58,312,91],lh:= [101,251,193],fa:= [25,63,147,64,237,164,28],lb:=true,kn:=CHk16 } 60 mixed Ze ZgB
end Go.Proofs.YtiigdaohjanidaaGreatDoor.K
