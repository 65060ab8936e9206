/- Declarations that the closing texts need, part 17: joined by tools/slim.py. -/
import Derived.Test.YtiigdaohjanidaaGreatDoorI16
set_option linter.unusedVariables false
set_option linter.unusedSimpArgs false
namespace Go.Proofs.YtiigdaohjanidaaGreatDoor.K
open Go Go.AM Go.Proofs
set_option maxRecDepth 100000
def qT : List V:= [.p (.agg [.list false [.str [72,117,98]],.list true [],.list false [.agg [.str [97],.int .i64 (1),.int .i64 (0),.int .i64 (0),.list false [.int .i64 (5)],.int .i64 (0),.int .i64 (0),.int .i64 (0),.int .i64 (100),.int .i64 (50),.int .i64 (0),.int .i64 (0),.int .i64 (0),.int .i64 (0)]],.list false [.agg [.str [111],.list false [.int .i64 (1)],.int .i64 (-1),.int .i64 (0),.int .i64 (0),.int .i64 (0),.int .i64 (0),.int .i64 (0),.int .i64 (90),.int .i64 (0),.int .i64 (0),.int .i64 (50),.int .i64 (1),.int .i64 (0),.int .i64 (-1),.bool false]],.list true [],.list true []]),.p (.int .i64 (0)),.p (.int .i64 (1))]
def rL : V:= .tup [.p (.agg [.int .i64 (0),.int .i64 (1),.int .i64 (0),.int .i64 (0),.int .i64 (0),.list true [],.list false [.agg [.int .i64 (0),.bool true]]]),.p (.int .i64 (0))]
theorem ZfK : ACalls Tryz.prog 131 qT [] fun y H'=>y=rL/\H'= []:=X9 { kp:= [58,312,91,35],lh:= [101],fa:= [37,237,164],kn:=CTk15 } 60 mixed Zd rC
def CTk16 : List (FuncId×List V×V):=(131,qT,rL)::CTk15
theorem rD : KnL Tryz.prog CTk16:=KnL.cons ZfK rfl (fun n=>rfl) rC
def qU : List V:= [.p (.agg [.list false [.str [72,117,98]],.list true [],.list false [.agg [.str [97],.int .i64 (1),.int .i64 (0),.int .i64 (0),.list false [.int .i64 (5)],.int .i64 (0),.int .i64 (0),.int .i64 (0),.int .i64 (100),.int .i64 (50),.int .i64 (0),.int .i64 (0),.int .i64 (0),.int .i64 (0)]],.list false [.agg [.str [111],.list false [.int .i64 (1)],.int .i64 (-1),.int .i64 (0),.int .i64 (0),.int .i64 (0),.int .i64 (0),.int .i64 (0),.int .i64 (90),.int .i64 (0),.int .i64 (0),.int .i64 (50),.int .i64 (1),.int .i64 (0),.int .i64 (-1),.bool false]],.list true [],.list true []])]
def rM : V:= .tup [.p (.list false [.agg [.int .i64 (0),.int .i64 (1),.int .i64 (0),.int .i64 (0),.int .i64 (0),.list true [],.list false [.agg [.int .i64 (0),.bool true]]]]),.p (.int .i64 (0))]
theorem ZfL : ACalls Tryz.prog 80 qU [] fun y H'=>y=rM/\H'= []:=X9 { kp:= [58,312,91,35],lh:= [101],fa:= [37,237,164],kn:=CTk16 } 60 mixed Zd rD
def CTk17 : List (FuncId×List V×V):=(80,qU,rM)::CTk16
theorem rE : KnL Tryz.prog CTk17:=KnL.cons ZfL rfl (fun n=>rfl) rD
def qV : List V:= [.p (.agg [.list false [.str [72,117,98]],.list true [],.list false [.agg [.str [97],.int .i64 (1),.int .i64 (0),.int .i64 (0),.list false [.int .i64 (5)],.int .i64 (0),.int .i64 (0),.int .i64 (0),.int .i64 (100),.int .i64 (50),.int .i64 (0),.int .i64 (0),.int .i64 (0),.int .i64 (0)]],.list false [.agg [.str [111],.list false [.int .i64 (1)],.int .i64 (-1),.int .i64 (0),.int .i64 (0),.int .i64 (0),.int .i64 (0),.int .i64 (0),.int .i64 (90),.int .i64 (0),.int .i64 (0),.int .i64 (50),.int .i64 (1),.int .i64 (0),.int .i64 (-1),.bool false]],.list true [],.list true []]),.p (.list false [.agg [.int .i64 (0),.int .i64 (1),.int .i64 (0),.int .i64 (0),.int .i64 (0),.list true [],.list false [.agg [.int .i64 (0),.bool true]]]])]
def rN : V:= .tup [.p (.agg [.list false [.agg [.int .i64 (0),.int .i64 (0),.list true [],.list false [.agg [.int .i64 (0),.bool true]]]],.list true []]),.p (.int .i64 (0)),.p (.int .i64 (0))]
theorem ZfM : ACalls Tryz.prog 64 qV [] fun y H'=>y=rN/\H'= []:=X9 { kp:= [58,312,91,35],lh:= [101],fa:= [37,237,164],kn:=CTk17 } 60 mixed Zd rE
def CTk18 : List (FuncId×List V×V):=(64,qV,rN)::CTk17
theorem rF : KnL Tryz.prog CTk18:=KnL.cons ZfM rfl (fun n=>rfl) rE
def qW : List V:= [.p (.agg [.list false [.str [72,117,98]],.list true [],.list false [.agg [.str [97],.int .i64 (1),.int .i64 (0),.int .i64 (0),.list false [.int .i64 (5)],.int .i64 (0),.int .i64 (0),.int .i64 (0),.int .i64 (100),.int .i64 (50),.int .i64 (0),.int .i64 (0),.int .i64 (0),.int .i64 (0)]],.list false [.agg [.str [111],.list false [.int .i64 (1)],.int .i64 (-1),.int .i64 (0),.int .i64 (0),.int .i64 (0),.int .i64 (0),.int .i64 (0),.int .i64 (90),.int .i64 (0),.int .i64 (0),.int .i64 (50),.int .i64 (1),.int .i64 (0),.int .i64 (-1),.bool false]],.list true [],.list true []])]
def rO : V:= .tup [.p (.agg [.list false [.agg [.int .i64 (0),.int .i64 (0),.list true [],.list false [.agg [.int .i64 (0),.bool true]]]],.list true []]),.p (.int .i64 (0)),.p (.int .i64 (0))]
theorem ZfN : ACalls Tryz.prog 37 qW [] fun y H'=>y=rO/\H'= []:=X9 { kp:= [58,312,91,35],lh:= [101],fa:= [37,237,164],kn:=CTk18 } 60 mixed Zd rF
def CTk19 : List (FuncId×List V×V):=(37,qW,rO)::CTk18
theorem Zfm : KnL Tryz.prog CTk19:=KnL.cons ZfN rfl (fun n=>rfl) rF
theorem RC : PC 10 [] (.bool true) :=
 iJ { kp:= [58,312,91,35],lh:= [101],fa:= [37,237,164],kn:=CTk19 } 60 mixed Zd Zfm
end Go.Proofs.YtiigdaohjanidaaGreatDoor.K
