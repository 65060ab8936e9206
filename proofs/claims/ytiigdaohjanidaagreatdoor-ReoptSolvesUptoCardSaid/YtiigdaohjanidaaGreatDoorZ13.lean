/- Declarations that the closing texts need, part 13: joined by tools/slim.py. -/
import Derived.Test.YtiigdaohjanidaaGreatDoorZ12
set_option linter.unusedVariables false
set_option linter.unusedSimpArgs false
namespace Go.Proofs.YtiigdaohjanidaaGreatDoor.K
open Go Go.AM Go.Proofs
set_option maxRecDepth 100000
def CHk0 : List (FuncId×List V×V):= []
theorem Zfs : KnL Tryz.prog CHk0:=fun k hk=>by cases hk
def Zfi : List V:= [.p (.agg [.list false [.str [72,117,98]],.list true [],.list false [.agg [.str [97],.int .i64 (1),.int .i64 (0),.int .i64 (0),.list false [.int .i64 (5)],.int .i64 (0),.int .i64 (0),.int .i64 (0),.int .i64 (100),.int .i64 (50),.int .i64 (0),.int .i64 (0),.int .i64 (0),.int .i64 (0)]],.list false [.agg [.str [111],.list false [.int .i64 (1)],.int .i64 (-1),.int .i64 (0),.int .i64 (0),.int .i64 (0),.int .i64 (0),.int .i64 (0),.int .i64 (90),.int .i64 (0),.int .i64 (0),.int .i64 (50),.int .i64 (1),.int .i64 (-1),.int .i64 (-1),.bool false]],.list true [],.list true []]),.p (.agg [.list true [],.list true []]),.p (.list true [])]
def ZfD : V:= .tup [.p (.agg [.list false [.str [72,117,98]],.list true [],.list false [.agg [.str [97],.int .i64 (1),.int .i64 (0),.int .i64 (0),.list false [.int .i64 (5)],.int .i64 (0),.int .i64 (0),.int .i64 (0),.int .i64 (100),.int .i64 (50),.int .i64 (0),.int .i64 (0),.int .i64 (0),.int .i64 (0)]],.list false [.agg [.str [111],.list false [.int .i64 (1)],.int .i64 (-1),.int .i64 (0),.int .i64 (0),.int .i64 (0),.int .i64 (0),.int .i64 (0),.int .i64 (90),.int .i64 (0),.int .i64 (0),.int .i64 (50),.int .i64 (1),.int .i64 (-1),.int .i64 (-1),.bool false]],.list true [],.list true []]),.p (.int .i64 (0))]
theorem Zl9 : ACalls Tryz.prog 22 Zfi [] fun y H'=>y=ZfD/\H'= []:=YA { kp:= [251,58,312,91],lh:= [101,251,193],fa:= [25,63,147,64,237,164,28],lb:=true,kn:=CHk0 } 60 mixed Zd Zfs
def CHk1 : List (FuncId×List V×V):=(22,Zfi,ZfD)::CHk0
theorem Zft : KnL Tryz.prog CHk1:=KnL.cons Zl9 rfl (fun n=>rfl) Zfs
def Zfj : List V:= [.p (.agg [.list false [.str [72,117,98]],.list true [],.list false [.agg [.str [97],.int .i64 (1),.int .i64 (0),.int .i64 (0),.list false [.int .i64 (5)],.int .i64 (0),.int .i64 (0),.int .i64 (0),.int .i64 (100),.int .i64 (50),.int .i64 (0),.int .i64 (0),.int .i64 (0),.int .i64 (0)]],.list false [.agg [.str [111],.list false [.int .i64 (1)],.int .i64 (-1),.int .i64 (0),.int .i64 (0),.int .i64 (0),.int .i64 (0),.int .i64 (0),.int .i64 (90),.int .i64 (0),.int .i64 (0),.int .i64 (50),.int .i64 (1),.int .i64 (-1),.int .i64 (-1),.bool false]],.list true [],.list true []]),.p (.int .i64 (1)),.p (.list true [])]
def ZfE : V:= .p (.list false [.agg [.int .i64 (0),.bool true]])
theorem Zma : ACalls Tryz.prog 240 Zfj [] fun y H'=>y=ZfE/\H'= []:=YA { kp:= [251,58,312,91],lh:= [101,251,193],fa:= [25,63,147,64,237,164,28],lb:=true,kn:=CHk1 } 60 mixed Zd Zft
def CHk2 : List (FuncId×List V×V):=(240,Zfj,ZfE)::CHk1
theorem Zfv : KnL Tryz.prog CHk2:=KnL.cons Zma rfl (fun n=>rfl) Zft
def Zfk : List V:= [.p (.agg [.list false [.str [72,117,98]],.list true [],.list false [.agg [.str [97],.int .i64 (1),.int .i64 (0),.int .i64 (0),.list false [.int .i64 (5)],.int .i64 (0),.int .i64 (0),.int .i64 (0),.int .i64 (100),.int .i64 (50),.int .i64 (0),.int .i64 (0),.int .i64 (0),.int .i64 (0)]],.list false [.agg [.str [111],.list false [.int .i64 (1)],.int .i64 (-1),.int .i64 (0),.int .i64 (0),.int .i64 (0),.int .i64 (0),.int .i64 (0),.int .i64 (90),.int .i64 (0),.int .i64 (0),.int .i64 (50),.int .i64 (1),.int .i64 (-1),.int .i64 (-1),.bool false]],.list true [],.list true []]),.p (.agg [.int .i64 (0),.int .i64 (7),.list true [],.list false [.agg [.int .i64 (0),.bool true]]])]
def ZfF : V:= .p (.int .i64 (0))
theorem Zmb : ACalls Tryz.prog 218 Zfk [] fun y H'=>y=ZfF/\H'= []:=YA { kp:= [251,58,312,91],lh:= [101,251,193],fa:= [25,63,147,64,237,164,28],lb:=true,kn:=CHk2 } 60 mixed Zd Zfv
def CHk3 : List (FuncId×List V×V):=(218,Zfk,ZfF)::CHk2
theorem Zfw : KnL Tryz.prog CHk3:=KnL.cons Zmb rfl (fun n=>rfl) Zfv
end Go.Proofs.YtiigdaohjanidaaGreatDoor.K
