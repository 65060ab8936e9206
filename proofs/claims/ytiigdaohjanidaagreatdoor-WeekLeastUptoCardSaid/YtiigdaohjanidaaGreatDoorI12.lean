/- Declarations that the closing texts need, part 12: joined by tools/slim.py. -/
import Derived.Test.YtiigdaohjanidaaGreatDoorI11
set_option linter.unusedVariables false
set_option linter.unusedSimpArgs false
namespace Go.Proofs.YtiigdaohjanidaaGreatDoor.K
open Go Go.AM Go.Proofs
set_option maxRecDepth 100000
def CTk0 : List (FuncId×List V×V):= []
theorem Zfk : KnL Tryz.prog CTk0:=fun k hk=>by cases hk
def Zfa : List V:= [.p (.agg [.list false [.str [72,117,98]],.list true [],.list false [.agg [.str [97],.int .i64 (1),.int .i64 (0),.int .i64 (0),.list false [.int .i64 (5)],.int .i64 (0),.int .i64 (0),.int .i64 (0),.int .i64 (100),.int .i64 (50),.int .i64 (0),.int .i64 (0),.int .i64 (0),.int .i64 (0)]],.list false [.agg [.str [111],.list false [.int .i64 (1)],.int .i64 (-1),.int .i64 (0),.int .i64 (0),.int .i64 (0),.int .i64 (0),.int .i64 (0),.int .i64 (90),.int .i64 (0),.int .i64 (0),.int .i64 (50),.int .i64 (1),.int .i64 (-1),.int .i64 (-1),.bool false]],.list true [],.list true []]),.p (.agg [.int .i64 (0),.int .i64 (0),.list true [],.list false [.agg [.int .i64 (0),.bool true]]])]
def Zfv : V:= .p (.int .i64 (0))
theorem ZlE : ACalls Tryz.prog 218 Zfa [] fun y H'=>y=Zfv/\H'= []:=X9 { kp:= [58,312,91,35],lh:= [101],fa:= [37,237,164],kn:=CTk0 } 60 mixed Zd Zfk
def CTk1 : List (FuncId×List V×V):=(218,Zfa,Zfv)::CTk0
theorem Zfl : KnL Tryz.prog CTk1:=KnL.cons ZlE rfl (fun n=>rfl) Zfk
def Zfb : List V:= [.p (.agg [.str [97],.int .i64 (1),.int .i64 (0),.int .i64 (0),.list false [.int .i64 (5)],.int .i64 (0),.int .i64 (0),.int .i64 (0),.int .i64 (100),.int .i64 (50),.int .i64 (0),.int .i64 (0),.int .i64 (0),.int .i64 (0)]),.p (.int .i64 (0))]
def Zfw : V:= .p (.bool true)
theorem ZlF : ACalls Tryz.prog 264 Zfb [] fun y H'=>y=Zfw/\H'= []:=X9 { kp:= [58,312,91,35],lh:= [101],fa:= [37,237,164],kn:=CTk1 } 60 mixed Zd Zfl
def CTk2 : List (FuncId×List V×V):=(264,Zfb,Zfw)::CTk1
theorem Zfn : KnL Tryz.prog CTk2:=KnL.cons ZlF rfl (fun n=>rfl) Zfl
end Go.Proofs.YtiigdaohjanidaaGreatDoor.K
