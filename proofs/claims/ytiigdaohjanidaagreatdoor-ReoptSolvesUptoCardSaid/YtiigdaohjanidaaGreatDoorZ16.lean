/- Declarations that the closing texts need, part 16: joined by tools/slim.py. -/
import Derived.Test.YtiigdaohjanidaaGreatDoorZ15
set_option linter.unusedVariables false
set_option linter.unusedSimpArgs false
namespace Go.Proofs.YtiigdaohjanidaaGreatDoor.K
open Go Go.AM Go.Proofs
set_option maxRecDepth 100000
def Zfr : List V:= [.p (.agg [.list false [.str [72,117,98]],.list true [],.list false [.agg [.str [97],.int .i64 (1),.int .i64 (0),.int .i64 (0),.list false [.int .i64 (5)],.int .i64 (0),.int .i64 (0),.int .i64 (0),.int .i64 (100),.int .i64 (50),.int .i64 (0),.int .i64 (0),.int .i64 (0),.int .i64 (0)]],.list false [.agg [.str [111],.list false [.int .i64 (1)],.int .i64 (-1),.int .i64 (0),.int .i64 (0),.int .i64 (0),.int .i64 (0),.int .i64 (0),.int .i64 (90),.int .i64 (0),.int .i64 (0),.int .i64 (50),.int .i64 (1),.int .i64 (-1),.int .i64 (-1),.bool false]],.list true [],.list true []]),.p (.agg [.int .i64 (0),.int .i64 (7),.list true [],.list true []]),.p (.int .i64 (0)),.p (.int .i64 (0))]
def ZfM : V:= .p (.list false [.agg [.int .i64 (0),.int .i64 (1),.int .i64 (0),.int .i64 (0),.int .i64 (7),.list true [],.list false [.agg [.int .i64 (0),.bool true]]]])
theorem Zmi : ACalls Tryz.prog 98 Zfr [] fun y H'=>y=ZfM/\H'= []:=YA { kp:= [251,58,312,91],lh:= [101,251,193],fa:= [25,63,147,64,237,164,28],lb:=true,kn:=CHk9 } 60 mixed Zd ZfC
def CHk10 : List (FuncId×List V×V):=(98,Zfr,ZfM)::CHk9
theorem rH : KnL Tryz.prog CHk10:=KnL.cons Zmi rfl (fun n=>rfl) ZfC
def rB : List V:= [.p (.agg [.list false [.str [72,117,98]],.list true [],.list false [.agg [.str [97],.int .i64 (1),.int .i64 (0),.int .i64 (0),.list false [.int .i64 (5)],.int .i64 (0),.int .i64 (0),.int .i64 (0),.int .i64 (100),.int .i64 (50),.int .i64 (0),.int .i64 (0),.int .i64 (0),.int .i64 (0)]],.list false [.agg [.str [111],.list false [.int .i64 (1)],.int .i64 (-1),.int .i64 (0),.int .i64 (0),.int .i64 (0),.int .i64 (0),.int .i64 (0),.int .i64 (90),.int .i64 (0),.int .i64 (0),.int .i64 (50),.int .i64 (1),.int .i64 (-1),.int .i64 (-1),.bool false]],.list true [],.list true []]),.p (.list true []),.p (.int .i64 (7))]
def rN : V:= .tup [.p (.list false [.agg [.int .i64 (0),.int .i64 (1),.int .i64 (0),.int .i64 (0),.int .i64 (7),.list true [],.list false [.agg [.int .i64 (0),.bool true]]]]),.p (.int .i64 (0))]
theorem ZfN : ACalls Tryz.prog 63 rB [] fun y H'=>y=rN/\H'= []:=YA { kp:= [251,58,312,91],lh:= [101,251,193],fa:= [25,63,147,64,237,164,28],lb:=true,kn:=CHk10 } 60 mixed Zd rH
def CHk11 : List (FuncId×List V×V):=(63,rB,rN)::CHk10
theorem rI : KnL Tryz.prog CHk11:=KnL.cons ZfN rfl (fun n=>rfl) rH
def rC : List V:= [.p (.list false [.agg [.int .i64 (0),.int .i64 (1),.int .i64 (0),.int .i64 (0),.int .i64 (7),.list true [],.list false [.agg [.int .i64 (0),.bool true]]]])]
def rO : V:= .p (.list false [.agg [.int .i64 (0),.int .i64 (1),.int .i64 (0),.int .i64 (0),.int .i64 (7),.list true [],.list false [.agg [.int .i64 (0),.bool true]]]])
theorem ZfO : ACalls Tryz.prog 150 rC [] fun y H'=>y=rO/\H'= []:=YA { kp:= [251,58,312,91],lh:= [101,251,193],fa:= [25,63,147,64,237,164,28],lb:=true,kn:=CHk11 } 60 mixed Zd rI
def CHk12 : List (FuncId×List V×V):=(150,rC,rO)::CHk11
theorem rJ : KnL Tryz.prog CHk12:=KnL.cons ZfO rfl (fun n=>rfl) rI
end Go.Proofs.YtiigdaohjanidaaGreatDoor.K
