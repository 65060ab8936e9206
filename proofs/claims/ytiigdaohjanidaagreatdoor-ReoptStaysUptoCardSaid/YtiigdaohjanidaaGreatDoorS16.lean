/- Declarations that the closing texts need, part 16: joined by tools/slim.py. -/
import Derived.Test.YtiigdaohjanidaaGreatDoorS15
set_option linter.unusedVariables false
set_option linter.unusedSimpArgs false
namespace Go.Proofs.YtiigdaohjanidaaGreatDoor.K
open Go Go.AM Go.Proofs
set_option maxRecDepth 100000
def ZdR : List V:= [.p (.agg [.list false [.str [72,117,98]],.list true [],.list false [.agg [.str [97],.int .i64 (1),.int .i64 (0),.int .i64 (0),.list false [.int .i64 (5)],.int .i64 (0),.int .i64 (0),.int .i64 (0),.int .i64 (100),.int .i64 (50),.int .i64 (0),.int .i64 (0),.int .i64 (0),.int .i64 (0)]],.list false [.agg [.str [111],.list false [.int .i64 (1)],.int .i64 (-1),.int .i64 (0),.int .i64 (0),.int .i64 (0),.int .i64 (0),.int .i64 (0),.int .i64 (90),.int .i64 (0),.int .i64 (0),.int .i64 (50),.int .i64 (1),.int .i64 (-1),.int .i64 (-1),.bool false]],.list true [],.list true []]),.p (.agg [.int .i64 (0),.int .i64 (7),.list true [],.list true []]),.p (.int .i64 (0)),.p (.int .i64 (0))]
def Zec : V:= .p (.list false [.agg [.int .i64 (0),.int .i64 (1),.int .i64 (0),.int .i64 (0),.int .i64 (7),.list true [],.list false [.agg [.int .i64 (0),.bool true]]]])
theorem Zks : ACalls Tryz.prog 98 ZdR [] fun y H'=>y=Zec/\H'= []:=Ys { kp:= [251,58,312,91],lh:= [101,251,193],fa:= [25,63,147,64,237,164,28],lb:=true,kn:=CHk9 } 60 mixed Ze Zd2
def CHk10 : List (FuncId×List V×V):=(98,ZdR,Zec)::CHk9
theorem oN : KnL Tryz.prog CHk10:=KnL.cons Zks rfl (fun n=>rfl) Zd2
def oH : List V:= [.p (.agg [.list false [.str [72,117,98]],.list true [],.list false [.agg [.str [97],.int .i64 (1),.int .i64 (0),.int .i64 (0),.list false [.int .i64 (5)],.int .i64 (0),.int .i64 (0),.int .i64 (0),.int .i64 (100),.int .i64 (50),.int .i64 (0),.int .i64 (0),.int .i64 (0),.int .i64 (0)]],.list false [.agg [.str [111],.list false [.int .i64 (1)],.int .i64 (-1),.int .i64 (0),.int .i64 (0),.int .i64 (0),.int .i64 (0),.int .i64 (0),.int .i64 (90),.int .i64 (0),.int .i64 (0),.int .i64 (50),.int .i64 (1),.int .i64 (-1),.int .i64 (-1),.bool false]],.list true [],.list true []]),.p (.list true []),.p (.int .i64 (7))]
def oU : V:= .tup [.p (.list false [.agg [.int .i64 (0),.int .i64 (1),.int .i64 (0),.int .i64 (0),.int .i64 (7),.list true [],.list false [.agg [.int .i64 (0),.bool true]]]]),.p (.int .i64 (0))]
theorem Zed : ACalls Tryz.prog 63 oH [] fun y H'=>y=oU/\H'= []:=Ys { kp:= [251,58,312,91],lh:= [101,251,193],fa:= [25,63,147,64,237,164,28],lb:=true,kn:=CHk10 } 60 mixed Ze oN
def CHk11 : List (FuncId×List V×V):=(63,oH,oU)::CHk10
theorem oO : KnL Tryz.prog CHk11:=KnL.cons Zed rfl (fun n=>rfl) oN
def oI : List V:= [.p (.list false [.agg [.int .i64 (0),.int .i64 (1),.int .i64 (0),.int .i64 (0),.int .i64 (7),.list true [],.list false [.agg [.int .i64 (0),.bool true]]]])]
def oV : V:= .p (.list false [.agg [.int .i64 (0),.int .i64 (1),.int .i64 (0),.int .i64 (0),.int .i64 (7),.list true [],.list false [.agg [.int .i64 (0),.bool true]]]])
theorem Zee : ACalls Tryz.prog 150 oI [] fun y H'=>y=oV/\H'= []:=Ys { kp:= [251,58,312,91],lh:= [101,251,193],fa:= [25,63,147,64,237,164,28],lb:=true,kn:=CHk11 } 60 mixed Ze oO
def CHk12 : List (FuncId×List V×V):=(150,oI,oV)::CHk11
theorem oP : KnL Tryz.prog CHk12:=KnL.cons Zee rfl (fun n=>rfl) oO
end Go.Proofs.YtiigdaohjanidaaGreatDoor.K
