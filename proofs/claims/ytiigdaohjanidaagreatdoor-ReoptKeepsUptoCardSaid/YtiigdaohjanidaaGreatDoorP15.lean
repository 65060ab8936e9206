/- Declarations that the closing texts need, part 15: joined by tools/slim.py. -/
import Derived.Test.YtiigdaohjanidaaGreatDoorP14
set_option linter.unusedVariables false
set_option linter.unusedSimpArgs false
namespace Go.Proofs.YtiigdaohjanidaaGreatDoor.K
open Go Go.AM Go.Proofs
set_option maxRecDepth 100000
def Zgs : List V:= [.p (.agg [.str [97],.int .i64 (1),.int .i64 (0),.int .i64 (0),.list false [.int .i64 (5)],.int .i64 (0),.int .i64 (0),.int .i64 (0),.int .i64 (100),.int .i64 (50),.int .i64 (0),.int .i64 (0),.int .i64 (0),.int .i64 (0)]),.p (.int .i64 (0))]
def ZgN : V:= .p (.bool true)
theorem Znf : ACalls Tryz.prog 264 Zgs [] fun y H'=>y=ZgN/\H'= []:=YJ { kp:= [251,58,312,91],lh:= [101,251,193],fa:= [25,63,147,64,237,164,28],lb:=true,kn:=CHk3 } 60 mixed Ze ZgD
def CHk4 : List (FuncId×List V×V):=(264,Zgs,ZgN)::CHk3
theorem ZgE : KnL Tryz.prog CHk4:=KnL.cons Znf rfl (fun n=>rfl) ZgD
def Zgt : List V:= [.p (.agg [.list false [.str [72,117,98]],.list true [],.list false [.agg [.str [97],.int .i64 (1),.int .i64 (0),.int .i64 (0),.list false [.int .i64 (5)],.int .i64 (0),.int .i64 (0),.int .i64 (0),.int .i64 (100),.int .i64 (50),.int .i64 (0),.int .i64 (0),.int .i64 (0),.int .i64 (0)]],.list false [.agg [.str [111],.list false [.int .i64 (1)],.int .i64 (-1),.int .i64 (0),.int .i64 (0),.int .i64 (0),.int .i64 (0),.int .i64 (0),.int .i64 (90),.int .i64 (0),.int .i64 (0),.int .i64 (50),.int .i64 (1),.int .i64 (-1),.int .i64 (-1),.bool false]],.list true [],.list true []]),.p (.agg [.int .i64 (0),.int .i64 (7),.list true [],.list false [.agg [.int .i64 (0),.bool true]]])]
def ZgO : V:= .p (.int .i64 (0))
theorem Zng : ACalls Tryz.prog 220 Zgt [] fun y H'=>y=ZgO/\H'= []:=YJ { kp:= [251,58,312,91],lh:= [101,251,193],fa:= [25,63,147,64,237,164,28],lb:=true,kn:=CHk4 } 60 mixed Ze ZgE
def CHk5 : List (FuncId×List V×V):=(220,Zgt,ZgO)::CHk4
theorem ZgF : KnL Tryz.prog CHk5:=KnL.cons Zng rfl (fun n=>rfl) ZgE
def Zgu : List V:= [.p (.agg [.list false [.str [72,117,98]],.list true [],.list false [.agg [.str [97],.int .i64 (1),.int .i64 (0),.int .i64 (0),.list false [.int .i64 (5)],.int .i64 (0),.int .i64 (0),.int .i64 (0),.int .i64 (100),.int .i64 (50),.int .i64 (0),.int .i64 (0),.int .i64 (0),.int .i64 (0)]],.list false [.agg [.str [111],.list false [.int .i64 (1)],.int .i64 (-1),.int .i64 (0),.int .i64 (0),.int .i64 (0),.int .i64 (0),.int .i64 (0),.int .i64 (90),.int .i64 (0),.int .i64 (0),.int .i64 (50),.int .i64 (1),.int .i64 (-1),.int .i64 (-1),.bool false]],.list true [],.list true []]),.p (.agg [.int .i64 (0),.int .i64 (7),.list true [],.list false [.agg [.int .i64 (0),.bool true]]])]
def ZgP : V:= .tup [.p (.agg [.bool false,.int .i64 (7),.list false [.agg [.int .i64 (7),.int .i64 (7),.int .i64 (7),.bool false]],.int .i64 (7),.int .i64 (0)]),.p (.int .i64 (0))]
theorem Znh : ACalls Tryz.prog 221 Zgu [] fun y H'=>y=ZgP/\H'= []:=YJ { kp:= [251,58,312,91],lh:= [101,251,193],fa:= [25,63,147,64,237,164,28],lb:=true,kn:=CHk5 } 60 mixed Ze ZgF
def CHk6 : List (FuncId×List V×V):=(221,Zgu,ZgP)::CHk5
theorem ZgG : KnL Tryz.prog CHk6:=KnL.cons Znh rfl (fun n=>rfl) ZgF
end Go.Proofs.YtiigdaohjanidaaGreatDoor.K
