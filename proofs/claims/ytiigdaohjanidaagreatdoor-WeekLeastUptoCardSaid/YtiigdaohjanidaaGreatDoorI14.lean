/- Declarations that the closing texts need, part 14: joined by tools/slim.py. -/
import Derived.Test.YtiigdaohjanidaaGreatDoorI13
set_option linter.unusedVariables false
set_option linter.unusedSimpArgs false
namespace Go.Proofs.YtiigdaohjanidaaGreatDoor.K
open Go Go.AM Go.Proofs
set_option maxRecDepth 100000
def Zff : List V:= [.p (.agg [.list false [.str [72,117,98]],.list true [],.list false [.agg [.str [97],.int .i64 (1),.int .i64 (0),.int .i64 (0),.list false [.int .i64 (5)],.int .i64 (0),.int .i64 (0),.int .i64 (0),.int .i64 (100),.int .i64 (50),.int .i64 (0),.int .i64 (0),.int .i64 (0),.int .i64 (0)]],.list false [.agg [.str [111],.list false [.int .i64 (1)],.int .i64 (-1),.int .i64 (0),.int .i64 (0),.int .i64 (0),.int .i64 (0),.int .i64 (0),.int .i64 (90),.int .i64 (0),.int .i64 (0),.int .i64 (50),.int .i64 (1),.int .i64 (-1),.int .i64 (-1),.bool false]],.list true [],.list true []]),.p (.int .i64 (0)),.p (.int .i64 (1))]
def ZfA : V:= .tup [.p (.agg [.int .i64 (0),.int .i64 (1),.int .i64 (0),.int .i64 (0),.int .i64 (0),.list true [],.list false [.agg [.int .i64 (0),.bool true]]]),.p (.int .i64 (0))]
theorem ZlJ : ACalls Tryz.prog 131 Zff [] fun y H'=>y=ZfA/\H'= []:=X9 { kp:= [58,312,91,35],lh:= [101],fa:= [37,237,164],kn:=CTk5 } 60 mixed Zd Zfq
def CTk6 : List (FuncId×List V×V):=(131,Zff,ZfA)::CTk5
theorem Zfr : KnL Tryz.prog CTk6:=KnL.cons ZlJ rfl (fun n=>rfl) Zfq
def Zfg : List V:= [.p (.agg [.list false [.str [72,117,98]],.list true [],.list false [.agg [.str [97],.int .i64 (1),.int .i64 (0),.int .i64 (0),.list false [.int .i64 (5)],.int .i64 (0),.int .i64 (0),.int .i64 (0),.int .i64 (100),.int .i64 (50),.int .i64 (0),.int .i64 (0),.int .i64 (0),.int .i64 (0)]],.list false [.agg [.str [111],.list false [.int .i64 (1)],.int .i64 (-1),.int .i64 (0),.int .i64 (0),.int .i64 (0),.int .i64 (0),.int .i64 (0),.int .i64 (90),.int .i64 (0),.int .i64 (0),.int .i64 (50),.int .i64 (1),.int .i64 (-1),.int .i64 (-1),.bool false]],.list true [],.list true []])]
def ZfB : V:= .tup [.p (.list false [.agg [.int .i64 (0),.int .i64 (1),.int .i64 (0),.int .i64 (0),.int .i64 (0),.list true [],.list false [.agg [.int .i64 (0),.bool true]]]]),.p (.int .i64 (0))]
theorem ZlK : ACalls Tryz.prog 80 Zfg [] fun y H'=>y=ZfB/\H'= []:=X9 { kp:= [58,312,91,35],lh:= [101],fa:= [37,237,164],kn:=CTk6 } 60 mixed Zd Zfr
def CTk7 : List (FuncId×List V×V):=(80,Zfg,ZfB)::CTk6
theorem Zfs : KnL Tryz.prog CTk7:=KnL.cons ZlK rfl (fun n=>rfl) Zfr
def Zfh : List V:= [.p (.list false [.agg [.int .i64 (0),.int .i64 (1),.int .i64 (0),.int .i64 (0),.int .i64 (0),.list true [],.list false [.agg [.int .i64 (0),.bool true]]]])]
def ZfC : V:= .p (.list false [.agg [.int .i64 (0),.int .i64 (1),.int .i64 (0),.int .i64 (0),.int .i64 (0),.list true [],.list false [.agg [.int .i64 (0),.bool true]]]])
theorem ZlL : ACalls Tryz.prog 150 Zfh [] fun y H'=>y=ZfC/\H'= []:=X9 { kp:= [58,312,91,35],lh:= [101],fa:= [37,237,164],kn:=CTk7 } 60 mixed Zd Zfs
def CTk8 : List (FuncId×List V×V):=(150,Zfh,ZfC)::CTk7
theorem Zft : KnL Tryz.prog CTk8:=KnL.cons ZlL rfl (fun n=>rfl) Zfs
end Go.Proofs.YtiigdaohjanidaaGreatDoor.K
