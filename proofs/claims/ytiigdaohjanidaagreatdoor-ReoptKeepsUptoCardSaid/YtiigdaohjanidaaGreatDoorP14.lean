/- Declarations that the closing texts need, part 14: joined by tools/slim.py. -/
import Derived.Test.YtiigdaohjanidaaGreatDoorP13
set_option linter.unusedVariables false
set_option linter.unusedSimpArgs false
namespace Go.Proofs.YtiigdaohjanidaaGreatDoor.K
open Go Go.AM Go.Proofs
set_option maxRecDepth 100000
def CHk0 : List (FuncId×List V×V):= []
theorem Zgz : KnL Tryz.prog CHk0:=fun k hk=>by cases hk
def Zgp : List V:= [.p (.agg [.list false [.str [72,117,98]],.list true [],.list false [.agg [.str [97],.int .i64 (1),.int .i64 (0),.int .i64 (0),.list false [.int .i64 (5)],.int .i64 (0),.int .i64 (0),.int .i64 (0),.int .i64 (100),.int .i64 (50),.int .i64 (0),.int .i64 (0),.int .i64 (0),.int .i64 (0)]],.list false [.agg [.str [111],.list false [.int .i64 (1)],.int .i64 (-1),.int .i64 (0),.int .i64 (0),.int .i64 (0),.int .i64 (0),.int .i64 (0),.int .i64 (90),.int .i64 (0),.int .i64 (0),.int .i64 (50),.int .i64 (1),.int .i64 (-1),.int .i64 (-1),.bool false]],.list true [],.list true []]),.p (.agg [.list true [],.list true []]),.p (.list true [])]
def ZgK : V:= .tup [.p (.agg [.list false [.str [72,117,98]],.list true [],.list false [.agg [.str [97],.int .i64 (1),.int .i64 (0),.int .i64 (0),.list false [.int .i64 (5)],.int .i64 (0),.int .i64 (0),.int .i64 (0),.int .i64 (100),.int .i64 (50),.int .i64 (0),.int .i64 (0),.int .i64 (0),.int .i64 (0)]],.list false [.agg [.str [111],.list false [.int .i64 (1)],.int .i64 (-1),.int .i64 (0),.int .i64 (0),.int .i64 (0),.int .i64 (0),.int .i64 (0),.int .i64 (90),.int .i64 (0),.int .i64 (0),.int .i64 (50),.int .i64 (1),.int .i64 (-1),.int .i64 (-1),.bool false]],.list true [],.list true []]),.p (.int .i64 (0))]
theorem Znc : ACalls Tryz.prog 22 Zgp [] fun y H'=>y=ZgK/\H'= []:=YJ { kp:= [251,58,312,91],lh:= [101,251,193],fa:= [25,63,147,64,237,164,28],lb:=true,kn:=CHk0 } 60 mixed Ze Zgz
def CHk1 : List (FuncId×List V×V):=(22,Zgp,ZgK)::CHk0
theorem ZgA : KnL Tryz.prog CHk1:=KnL.cons Znc rfl (fun n=>rfl) Zgz
def Zgq : List V:= [.p (.agg [.list false [.str [72,117,98]],.list true [],.list false [.agg [.str [97],.int .i64 (1),.int .i64 (0),.int .i64 (0),.list false [.int .i64 (5)],.int .i64 (0),.int .i64 (0),.int .i64 (0),.int .i64 (100),.int .i64 (50),.int .i64 (0),.int .i64 (0),.int .i64 (0),.int .i64 (0)]],.list false [.agg [.str [111],.list false [.int .i64 (1)],.int .i64 (-1),.int .i64 (0),.int .i64 (0),.int .i64 (0),.int .i64 (0),.int .i64 (0),.int .i64 (90),.int .i64 (0),.int .i64 (0),.int .i64 (50),.int .i64 (1),.int .i64 (-1),.int .i64 (-1),.bool false]],.list true [],.list true []]),.p (.int .i64 (1)),.p (.list true [])]
def ZgL : V:= .p (.list false [.agg [.int .i64 (0),.bool true]])
theorem Znd : ACalls Tryz.prog 240 Zgq [] fun y H'=>y=ZgL/\H'= []:=YJ { kp:= [251,58,312,91],lh:= [101,251,193],fa:= [25,63,147,64,237,164,28],lb:=true,kn:=CHk1 } 60 mixed Ze ZgA
def CHk2 : List (FuncId×List V×V):=(240,Zgq,ZgL)::CHk1
theorem ZgC : KnL Tryz.prog CHk2:=KnL.cons Znd rfl (fun n=>rfl) ZgA
def Zgr : List V:= [.p (.agg [.list false [.str [72,117,98]],.list true [],.list false [.agg [.str [97],.int .i64 (1),.int .i64 (0),.int .i64 (0),.list false [.int .i64 (5)],.int .i64 (0),.int .i64 (0),.int .i64 (0),.int .i64 (100),.int .i64 (50),.int .i64 (0),.int .i64 (0),.int .i64 (0),.int .i64 (0)]],.list false [.agg [.str [111],.list false [.int .i64 (1)],.int .i64 (-1),.int .i64 (0),.int .i64 (0),.int .i64 (0),.int .i64 (0),.int .i64 (0),.int .i64 (90),.int .i64 (0),.int .i64 (0),.int .i64 (50),.int .i64 (1),.int .i64 (-1),.int .i64 (-1),.bool false]],.list true [],.list true []]),.p (.agg [.int .i64 (0),.int .i64 (7),.list true [],.list false [.agg [.int .i64 (0),.bool true]]])]
def ZgM : V:= .p (.int .i64 (0))
theorem Zne : ACalls Tryz.prog 218 Zgr [] fun y H'=>y=ZgM/\H'= []:=YJ { kp:= [251,58,312,91],lh:= [101,251,193],fa:= [25,63,147,64,237,164,28],lb:=true,kn:=CHk2 } 60 mixed Ze ZgC
def CHk3 : List (FuncId×List V×V):=(218,Zgr,ZgM)::CHk2
theorem ZgD : KnL Tryz.prog CHk3:=KnL.cons Zne rfl (fun n=>rfl) ZgC
end Go.Proofs.YtiigdaohjanidaaGreatDoor.K
