/- Declarations that the closing texts need, part 14: joined by tools/slim.py. -/
import Derived.Test.YtiigdaohjanidaaGreatDoorS13
set_option linter.unusedVariables false
set_option linter.unusedSimpArgs false
namespace Go.Proofs.YtiigdaohjanidaaGreatDoor.K
open Go Go.AM Go.Proofs
set_option maxRecDepth 100000
def ZdL : List V:= [.p (.agg [.str [97],.int .i64 (1),.int .i64 (0),.int .i64 (0),.list false [.int .i64 (5)],.int .i64 (0),.int .i64 (0),.int .i64 (0),.int .i64 (100),.int .i64 (50),.int .i64 (0),.int .i64 (0),.int .i64 (0),.int .i64 (0)]),.p (.int .i64 (0))]
def Zd6 : V:= .p (.bool true)
theorem Zkm : ACalls Tryz.prog 264 ZdL [] fun y H'=>y=Zd6/\H'= []:=Ys { kp:= [251,58,312,91],lh:= [101,251,193],fa:= [25,63,147,64,237,164,28],lb:=true,kn:=CHk3 } 60 mixed Ze ZdW
def CHk4 : List (FuncId×List V×V):=(264,ZdL,Zd6)::CHk3
theorem ZdX : KnL Tryz.prog CHk4:=KnL.cons Zkm rfl (fun n=>rfl) ZdW
def ZdM : List V:= [.p (.agg [.list false [.str [72,117,98]],.list true [],.list false [.agg [.str [97],.int .i64 (1),.int .i64 (0),.int .i64 (0),.list false [.int .i64 (5)],.int .i64 (0),.int .i64 (0),.int .i64 (0),.int .i64 (100),.int .i64 (50),.int .i64 (0),.int .i64 (0),.int .i64 (0),.int .i64 (0)]],.list false [.agg [.str [111],.list false [.int .i64 (1)],.int .i64 (-1),.int .i64 (0),.int .i64 (0),.int .i64 (0),.int .i64 (0),.int .i64 (0),.int .i64 (90),.int .i64 (0),.int .i64 (0),.int .i64 (50),.int .i64 (1),.int .i64 (-1),.int .i64 (-1),.bool false]],.list true [],.list true []]),.p (.agg [.int .i64 (0),.int .i64 (7),.list true [],.list false [.agg [.int .i64 (0),.bool true]]])]
def Zd7 : V:= .p (.int .i64 (0))
theorem Zkn : ACalls Tryz.prog 220 ZdM [] fun y H'=>y=Zd7/\H'= []:=Ys { kp:= [251,58,312,91],lh:= [101,251,193],fa:= [25,63,147,64,237,164,28],lb:=true,kn:=CHk4 } 60 mixed Ze ZdX
def CHk5 : List (FuncId×List V×V):=(220,ZdM,Zd7)::CHk4
theorem ZdY : KnL Tryz.prog CHk5:=KnL.cons Zkn rfl (fun n=>rfl) ZdX
def ZdN : List V:= [.p (.agg [.list false [.str [72,117,98]],.list true [],.list false [.agg [.str [97],.int .i64 (1),.int .i64 (0),.int .i64 (0),.list false [.int .i64 (5)],.int .i64 (0),.int .i64 (0),.int .i64 (0),.int .i64 (100),.int .i64 (50),.int .i64 (0),.int .i64 (0),.int .i64 (0),.int .i64 (0)]],.list false [.agg [.str [111],.list false [.int .i64 (1)],.int .i64 (-1),.int .i64 (0),.int .i64 (0),.int .i64 (0),.int .i64 (0),.int .i64 (0),.int .i64 (90),.int .i64 (0),.int .i64 (0),.int .i64 (50),.int .i64 (1),.int .i64 (-1),.int .i64 (-1),.bool false]],.list true [],.list true []]),.p (.agg [.int .i64 (0),.int .i64 (7),.list true [],.list false [.agg [.int .i64 (0),.bool true]]])]
def Zd8 : V:= .tup [.p (.agg [.bool false,.int .i64 (7),.list false [.agg [.int .i64 (7),.int .i64 (7),.int .i64 (7),.bool false]],.int .i64 (7),.int .i64 (0)]),.p (.int .i64 (0))]
theorem Zko : ACalls Tryz.prog 221 ZdN [] fun y H'=>y=Zd8/\H'= []:=Ys { kp:= [251,58,312,91],lh:= [101,251,193],fa:= [25,63,147,64,237,164,28],lb:=true,kn:=CHk5 } 60 mixed Ze ZdY
def CHk6 : List (FuncId×List V×V):=(221,ZdN,Zd8)::CHk5
theorem ZdZ : KnL Tryz.prog CHk6:=KnL.cons Zko rfl (fun n=>rfl) ZdY
end Go.Proofs.YtiigdaohjanidaaGreatDoor.K
