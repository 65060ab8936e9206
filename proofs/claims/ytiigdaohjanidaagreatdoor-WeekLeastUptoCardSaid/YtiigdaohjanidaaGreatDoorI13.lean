/- Declarations that the closing texts need, part 13: joined by tools/slim.py. -/
import Derived.Test.YtiigdaohjanidaaGreatDoorI12
set_option linter.unusedVariables false
set_option linter.unusedSimpArgs false
namespace Go.Proofs.YtiigdaohjanidaaGreatDoor.K
open Go Go.AM Go.Proofs
set_option maxRecDepth 100000
def Zfc : List V:= [.p (.agg [.list false [.str [72,117,98]],.list true [],.list false [.agg [.str [97],.int .i64 (1),.int .i64 (0),.int .i64 (0),.list false [.int .i64 (5)],.int .i64 (0),.int .i64 (0),.int .i64 (0),.int .i64 (100),.int .i64 (50),.int .i64 (0),.int .i64 (0),.int .i64 (0),.int .i64 (0)]],.list false [.agg [.str [111],.list false [.int .i64 (1)],.int .i64 (-1),.int .i64 (0),.int .i64 (0),.int .i64 (0),.int .i64 (0),.int .i64 (0),.int .i64 (90),.int .i64 (0),.int .i64 (0),.int .i64 (50),.int .i64 (1),.int .i64 (-1),.int .i64 (-1),.bool false]],.list true [],.list true []]),.p (.agg [.int .i64 (0),.int .i64 (0),.list true [],.list false [.agg [.int .i64 (0),.bool true]]])]
def Zfx : V:= .tup [.p (.agg [.bool false,.int .i64 (0),.list false [.agg [.int .i64 (0),.int .i64 (0),.int .i64 (0),.bool false]],.int .i64 (0),.int .i64 (0)]),.p (.int .i64 (0))]
theorem ZlG : ACalls Tryz.prog 221 Zfc [] fun y H'=>y=Zfx/\H'= []:=X9 { kp:= [58,312,91,35],lh:= [101],fa:= [37,237,164],kn:=CTk2 } 60 mixed Zd Zfn
def CTk3 : List (FuncId×List V×V):=(221,Zfc,Zfx)::CTk2
theorem Zfo : KnL Tryz.prog CTk3:=KnL.cons ZlG rfl (fun n=>rfl) Zfn
def Zfd : List V:= [.p (.agg [.list false [.str [72,117,98]],.list true [],.list false [.agg [.str [97],.int .i64 (1),.int .i64 (0),.int .i64 (0),.list false [.int .i64 (5)],.int .i64 (0),.int .i64 (0),.int .i64 (0),.int .i64 (100),.int .i64 (50),.int .i64 (0),.int .i64 (0),.int .i64 (0),.int .i64 (0)]],.list false [.agg [.str [111],.list false [.int .i64 (1)],.int .i64 (-1),.int .i64 (0),.int .i64 (0),.int .i64 (0),.int .i64 (0),.int .i64 (0),.int .i64 (90),.int .i64 (0),.int .i64 (0),.int .i64 (50),.int .i64 (1),.int .i64 (-1),.int .i64 (-1),.bool false]],.list true [],.list true []]),.p (.agg [.int .i64 (0),.int .i64 (0),.list true [],.list false [.agg [.int .i64 (0),.bool true]]])]
def Zfy : V:= .tup [.p (.agg [.bool false,.int .i64 (0),.list false [.agg [.int .i64 (0),.int .i64 (0),.int .i64 (0),.bool false]],.int .i64 (0),.int .i64 (0)]),.p (.agg [.int .i64 (0),.int .i64 (0),.int .i64 (0),.int .i64 (0)]),.p (.int .i64 (0))]
theorem ZlH : ACalls Tryz.prog 164 Zfd [] fun y H'=>y=Zfy/\H'= []:=X9 { kp:= [58,312,91,35],lh:= [101],fa:= [37,237,164],kn:=CTk3 } 60 mixed Zd Zfo
def CTk4 : List (FuncId×List V×V):=(164,Zfd,Zfy)::CTk3
theorem Zfp : KnL Tryz.prog CTk4:=KnL.cons ZlH rfl (fun n=>rfl) Zfo
def Zfe : List V:= [.p (.agg [.list false [.str [72,117,98]],.list true [],.list false [.agg [.str [97],.int .i64 (1),.int .i64 (0),.int .i64 (0),.list false [.int .i64 (5)],.int .i64 (0),.int .i64 (0),.int .i64 (0),.int .i64 (100),.int .i64 (50),.int .i64 (0),.int .i64 (0),.int .i64 (0),.int .i64 (0)]],.list false [.agg [.str [111],.list false [.int .i64 (1)],.int .i64 (-1),.int .i64 (0),.int .i64 (0),.int .i64 (0),.int .i64 (0),.int .i64 (0),.int .i64 (90),.int .i64 (0),.int .i64 (0),.int .i64 (50),.int .i64 (1),.int .i64 (-1),.int .i64 (-1),.bool false]],.list true [],.list true []]),.p (.agg [.int .i64 (0),.int .i64 (0),.list true [],.list false [.agg [.int .i64 (0),.bool true]]])]
def Zfz : V:= .tup [.p (.int .i64 (0)),.p (.int .i64 (0))]
theorem ZlI : ACalls Tryz.prog 237 Zfe [] fun y H'=>y=Zfz/\H'= []:=X9 { kp:= [58,312,91,35],lh:= [101],fa:= [37,237,164],kn:=CTk4 } 60 mixed Zd Zfp
def CTk5 : List (FuncId×List V×V):=(237,Zfe,Zfz)::CTk4
theorem Zfq : KnL Tryz.prog CTk5:=KnL.cons ZlI rfl (fun n=>rfl) Zfp
end Go.Proofs.YtiigdaohjanidaaGreatDoor.K
