/- Declarations that the closing texts need, part 15: joined by tools/slim.py. -/
import Derived.Test.YtiigdaohjanidaaGreatDoorS14
set_option linter.unusedVariables false
set_option linter.unusedSimpArgs false
namespace Go.Proofs.YtiigdaohjanidaaGreatDoor.K
open Go Go.AM Go.Proofs
set_option maxRecDepth 100000
def ZdO : List V:= [.p (.agg [.list false [.str [72,117,98]],.list true [],.list false [.agg [.str [97],.int .i64 (1),.int .i64 (0),.int .i64 (0),.list false [.int .i64 (5)],.int .i64 (0),.int .i64 (0),.int .i64 (0),.int .i64 (100),.int .i64 (50),.int .i64 (0),.int .i64 (0),.int .i64 (0),.int .i64 (0)]],.list false [.agg [.str [111],.list false [.int .i64 (1)],.int .i64 (-1),.int .i64 (0),.int .i64 (0),.int .i64 (0),.int .i64 (0),.int .i64 (0),.int .i64 (90),.int .i64 (0),.int .i64 (0),.int .i64 (50),.int .i64 (1),.int .i64 (-1),.int .i64 (-1),.bool false]],.list true [],.list true []]),.p (.agg [.int .i64 (0),.int .i64 (7),.list true [],.list false [.agg [.int .i64 (0),.bool true]]])]
def Zd9 : V:= .tup [.p (.agg [.bool false,.int .i64 (7),.list false [.agg [.int .i64 (7),.int .i64 (7),.int .i64 (7),.bool false]],.int .i64 (7),.int .i64 (0)]),.p (.agg [.int .i64 (0),.int .i64 (0),.int .i64 (0),.int .i64 (0)]),.p (.int .i64 (0))]
theorem Zkp : ACalls Tryz.prog 164 ZdO [] fun y H'=>y=Zd9/\H'= []:=Ys { kp:= [251,58,312,91],lh:= [101,251,193],fa:= [25,63,147,64,237,164,28],lb:=true,kn:=CHk6 } 60 mixed Ze ZdZ
def CHk7 : List (FuncId×List V×V):=(164,ZdO,Zd9)::CHk6
theorem Zd0 : KnL Tryz.prog CHk7:=KnL.cons Zkp rfl (fun n=>rfl) ZdZ
def ZdP : List V:= [.p (.agg [.list false [.str [72,117,98]],.list true [],.list false [.agg [.str [97],.int .i64 (1),.int .i64 (0),.int .i64 (0),.list false [.int .i64 (5)],.int .i64 (0),.int .i64 (0),.int .i64 (0),.int .i64 (100),.int .i64 (50),.int .i64 (0),.int .i64 (0),.int .i64 (0),.int .i64 (0)]],.list false [.agg [.str [111],.list false [.int .i64 (1)],.int .i64 (-1),.int .i64 (0),.int .i64 (0),.int .i64 (0),.int .i64 (0),.int .i64 (0),.int .i64 (90),.int .i64 (0),.int .i64 (0),.int .i64 (50),.int .i64 (1),.int .i64 (-1),.int .i64 (-1),.bool false]],.list true [],.list true []]),.p (.agg [.int .i64 (0),.int .i64 (7),.list true [],.list false [.agg [.int .i64 (0),.bool true]]])]
def Zea : V:= .tup [.p (.int .i64 (0)),.p (.int .i64 (0))]
theorem Zkq : ACalls Tryz.prog 237 ZdP [] fun y H'=>y=Zea/\H'= []:=Ys { kp:= [251,58,312,91],lh:= [101,251,193],fa:= [25,63,147,64,237,164,28],lb:=true,kn:=CHk7 } 60 mixed Ze Zd0
def CHk8 : List (FuncId×List V×V):=(237,ZdP,Zea)::CHk7
theorem Zd1 : KnL Tryz.prog CHk8:=KnL.cons Zkq rfl (fun n=>rfl) Zd0
def ZdQ : List V:= [.p (.agg [.list false [.str [72,117,98]],.list true [],.list false [.agg [.str [97],.int .i64 (1),.int .i64 (0),.int .i64 (0),.list false [.int .i64 (5)],.int .i64 (0),.int .i64 (0),.int .i64 (0),.int .i64 (100),.int .i64 (50),.int .i64 (0),.int .i64 (0),.int .i64 (0),.int .i64 (0)]],.list false [.agg [.str [111],.list false [.int .i64 (1)],.int .i64 (-1),.int .i64 (0),.int .i64 (0),.int .i64 (0),.int .i64 (0),.int .i64 (0),.int .i64 (90),.int .i64 (0),.int .i64 (0),.int .i64 (50),.int .i64 (1),.int .i64 (-1),.int .i64 (-1),.bool false]],.list true [],.list true []]),.p (.agg [.int .i64 (0),.int .i64 (7),.list true [],.list true []]),.p (.int .i64 (1))]
def Zeb : V:= .tup [.p (.agg [.int .i64 (0),.int .i64 (1),.int .i64 (0),.int .i64 (0),.int .i64 (7),.list true [],.list false [.agg [.int .i64 (0),.bool true]]]),.p (.int .i64 (0))]
theorem Zkr : ACalls Tryz.prog 147 ZdQ [] fun y H'=>y=Zeb/\H'= []:=Ys { kp:= [251,58,312,91],lh:= [101,251,193],fa:= [25,63,147,64,237,164,28],lb:=true,kn:=CHk8 } 60 mixed Ze Zd1
def CHk9 : List (FuncId×List V×V):=(147,ZdQ,Zeb)::CHk8
theorem Zd2 : KnL Tryz.prog CHk9:=KnL.cons Zkr rfl (fun n=>rfl) Zd1
end Go.Proofs.YtiigdaohjanidaaGreatDoor.K
