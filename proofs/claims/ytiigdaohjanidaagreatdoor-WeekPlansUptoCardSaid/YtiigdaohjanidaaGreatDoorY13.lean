/- Declarations that the closing texts need, part 13: joined by tools/slim.py. -/
import Derived.Test.YtiigdaohjanidaaGreatDoorY12
set_option linter.unusedVariables false
set_option linter.unusedSimpArgs false
namespace Go.Proofs.YtiigdaohjanidaaGreatDoor.K
open Go Go.AM Go.Proofs
set_option maxRecDepth 100000
def ZeU : List V:= [.p (.agg [.list false [.str [72,117,98]],.list true [],.list false [.agg [.str [97],.int .i64 (1),.int .i64 (0),.int .i64 (0),.list false [.int .i64 (5)],.int .i64 (0),.int .i64 (0),.int .i64 (0),.int .i64 (100),.int .i64 (50),.int .i64 (0),.int .i64 (0),.int .i64 (0),.int .i64 (0)]],.list false [.agg [.str [111],.list false [.int .i64 (1)],.int .i64 (-1),.int .i64 (0),.int .i64 (0),.int .i64 (0),.int .i64 (0),.int .i64 (0),.int .i64 (90),.int .i64 (0),.int .i64 (0),.int .i64 (50),.int .i64 (1),.int .i64 (-1),.int .i64 (-1),.bool false]],.list true [],.list true []]),.p (.agg [.int .i64 (0),.int .i64 (0),.list true [],.list false [.agg [.int .i64 (0),.bool true]]])]
def Zff : V:= .tup [.p (.agg [.bool false,.int .i64 (0),.list false [.agg [.int .i64 (0),.int .i64 (0),.int .i64 (0),.bool false]],.int .i64 (0),.int .i64 (0)]),.p (.int .i64 (0))]
theorem Zlr : ACalls Tryz.prog 221 ZeU [] fun y H'=>y=Zff/\H'= []:=X4 { kp:= [58,312,91,35],lh:= [101],fa:= [37,237,164],kn:=CTk2 } 60 mixed Zd Ze5
def CTk3 : List (FuncId×List V×V):=(221,ZeU,Zff)::CTk2
theorem Ze6 : KnL Tryz.prog CTk3:=KnL.cons Zlr rfl (fun n=>rfl) Ze5
def ZeV : List V:= [.p (.agg [.list false [.str [72,117,98]],.list true [],.list false [.agg [.str [97],.int .i64 (1),.int .i64 (0),.int .i64 (0),.list false [.int .i64 (5)],.int .i64 (0),.int .i64 (0),.int .i64 (0),.int .i64 (100),.int .i64 (50),.int .i64 (0),.int .i64 (0),.int .i64 (0),.int .i64 (0)]],.list false [.agg [.str [111],.list false [.int .i64 (1)],.int .i64 (-1),.int .i64 (0),.int .i64 (0),.int .i64 (0),.int .i64 (0),.int .i64 (0),.int .i64 (90),.int .i64 (0),.int .i64 (0),.int .i64 (50),.int .i64 (1),.int .i64 (-1),.int .i64 (-1),.bool false]],.list true [],.list true []]),.p (.agg [.int .i64 (0),.int .i64 (0),.list true [],.list false [.agg [.int .i64 (0),.bool true]]])]
def Zfg : V:= .tup [.p (.agg [.bool false,.int .i64 (0),.list false [.agg [.int .i64 (0),.int .i64 (0),.int .i64 (0),.bool false]],.int .i64 (0),.int .i64 (0)]),.p (.agg [.int .i64 (0),.int .i64 (0),.int .i64 (0),.int .i64 (0)]),.p (.int .i64 (0))]
theorem Zls : ACalls Tryz.prog 164 ZeV [] fun y H'=>y=Zfg/\H'= []:=X4 { kp:= [58,312,91,35],lh:= [101],fa:= [37,237,164],kn:=CTk3 } 60 mixed Zd Ze6
def CTk4 : List (FuncId×List V×V):=(164,ZeV,Zfg)::CTk3
theorem Ze7 : KnL Tryz.prog CTk4:=KnL.cons Zls rfl (fun n=>rfl) Ze6
def ZeW : List V:= [.p (.agg [.list false [.str [72,117,98]],.list true [],.list false [.agg [.str [97],.int .i64 (1),.int .i64 (0),.int .i64 (0),.list false [.int .i64 (5)],.int .i64 (0),.int .i64 (0),.int .i64 (0),.int .i64 (100),.int .i64 (50),.int .i64 (0),.int .i64 (0),.int .i64 (0),.int .i64 (0)]],.list false [.agg [.str [111],.list false [.int .i64 (1)],.int .i64 (-1),.int .i64 (0),.int .i64 (0),.int .i64 (0),.int .i64 (0),.int .i64 (0),.int .i64 (90),.int .i64 (0),.int .i64 (0),.int .i64 (50),.int .i64 (1),.int .i64 (-1),.int .i64 (-1),.bool false]],.list true [],.list true []]),.p (.agg [.int .i64 (0),.int .i64 (0),.list true [],.list false [.agg [.int .i64 (0),.bool true]]])]
def Zfh : V:= .tup [.p (.int .i64 (0)),.p (.int .i64 (0))]
theorem Zlt : ACalls Tryz.prog 237 ZeW [] fun y H'=>y=Zfh/\H'= []:=X4 { kp:= [58,312,91,35],lh:= [101],fa:= [37,237,164],kn:=CTk4 } 60 mixed Zd Ze7
def CTk5 : List (FuncId×List V×V):=(237,ZeW,Zfh)::CTk4
theorem Ze8 : KnL Tryz.prog CTk5:=KnL.cons Zlt rfl (fun n=>rfl) Ze7
end Go.Proofs.YtiigdaohjanidaaGreatDoor.K
