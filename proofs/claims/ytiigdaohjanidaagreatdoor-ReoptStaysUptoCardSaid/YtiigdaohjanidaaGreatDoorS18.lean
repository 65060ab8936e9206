/- Declarations that the closing texts need, part 18: joined by tools/slim.py. -/
import Derived.Test.YtiigdaohjanidaaGreatDoorS17
set_option linter.unusedVariables false
set_option linter.unusedSimpArgs false
namespace Go.Proofs.YtiigdaohjanidaaGreatDoor.K
open Go Go.AM Go.Proofs
set_option maxRecDepth 100000
def oL : List V:= [.p (.agg [.list false [.str [72,117,98]],.list true [],.list false [.agg [.str [97],.int .i64 (1),.int .i64 (0),.int .i64 (0),.list false [.int .i64 (5)],.int .i64 (0),.int .i64 (0),.int .i64 (0),.int .i64 (100),.int .i64 (50),.int .i64 (0),.int .i64 (0),.int .i64 (0),.int .i64 (0)]],.list false [.agg [.str [111],.list false [.int .i64 (1)],.int .i64 (-1),.int .i64 (0),.int .i64 (0),.int .i64 (0),.int .i64 (0),.int .i64 (0),.int .i64 (90),.int .i64 (0),.int .i64 (0),.int .i64 (50),.int .i64 (1),.int .i64 (-1),.int .i64 (-1),.bool false]],.list true [],.list true []]),.p (.agg [.list false [.agg [.int .i64 (0),.int .i64 (7),.list true [],.list false [.agg [.int .i64 (0),.bool true]]]],.list true []])]
def oY : V:= .p (.int .i64 (0))
theorem Zeh : ACalls Tryz.prog 67 oL [] fun y H'=>y=oY/\H'= []:=Ys { kp:= [251,58,312,91],lh:= [101,251,193],fa:= [25,63,147,64,237,164,28],lb:=true,kn:=CHk14 } 60 mixed Ze oS
def CHk15 : List (FuncId×List V×V):=(67,oL,oY)::CHk14
theorem oT : KnL Tryz.prog CHk15:=KnL.cons Zeh rfl (fun n=>rfl) oS
def oM : List V:= [.p (.agg [.list false [.str [72,117,98]],.list true [],.list false [.agg [.str [97],.int .i64 (1),.int .i64 (0),.int .i64 (0),.list false [.int .i64 (5)],.int .i64 (0),.int .i64 (0),.int .i64 (0),.int .i64 (100),.int .i64 (50),.int .i64 (0),.int .i64 (0),.int .i64 (0),.int .i64 (0)]],.list false [.agg [.str [111],.list false [.int .i64 (1)],.int .i64 (-1),.int .i64 (0),.int .i64 (0),.int .i64 (0),.int .i64 (0),.int .i64 (0),.int .i64 (90),.int .i64 (0),.int .i64 (0),.int .i64 (50),.int .i64 (1),.int .i64 (-1),.int .i64 (-1),.bool false]],.list true [],.list true []]),.p (.agg [.list false [.agg [.int .i64 (0),.int .i64 (7),.list true [],.list false [.agg [.int .i64 (0),.bool true]]]],.list true []]),.p (.list true []),.p (.int .i64 (8))]
def oZ : V:= .p (.int .i64 (32))
theorem Zei : ACalls Tryz.prog 28 oM [] fun y H'=>y=oZ/\H'= []:=Ys { kp:= [251,58,312,91],lh:= [101,251,193],fa:= [25,63,147,64,237,164,28],lb:=true,kn:=CHk15 } 60 mixed Ze oT
def CHk16 : List (FuncId×List V×V):=(28,oM,oZ)::CHk15
theorem ZdU : KnL Tryz.prog CHk16:=KnL.cons Zei rfl (fun n=>rfl) oT
theorem PI : PC 21 [] (.bool true) :=
 fJ { kp:= [251,58,312,91],lh:= [101,251,193],fa:= [25,63,147,64,237,164,28],lb:=true,kn:=CHk16 } 60 mixed Ze ZdU
end Go.Proofs.YtiigdaohjanidaaGreatDoor.K
