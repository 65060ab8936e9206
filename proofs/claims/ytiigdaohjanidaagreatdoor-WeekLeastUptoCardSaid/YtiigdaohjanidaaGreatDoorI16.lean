/- Declarations that the closing texts need, part 16: joined by tools/slim.py. -/
import Derived.Test.YtiigdaohjanidaaGreatDoorI15
set_option linter.unusedVariables false
set_option linter.unusedSimpArgs false
namespace Go.Proofs.YtiigdaohjanidaaGreatDoor.K
open Go Go.AM Go.Proofs
set_option maxRecDepth 100000
def qQ : List V:= [.p (.agg [.list false [.str [72,117,98]],.list true [],.list false [.agg [.str [97],.int .i64 (1),.int .i64 (0),.int .i64 (0),.list false [.int .i64 (5)],.int .i64 (0),.int .i64 (0),.int .i64 (0),.int .i64 (100),.int .i64 (50),.int .i64 (0),.int .i64 (0),.int .i64 (0),.int .i64 (0)]],.list false [.agg [.str [111],.list false [.int .i64 (1)],.int .i64 (-1),.int .i64 (0),.int .i64 (0),.int .i64 (0),.int .i64 (0),.int .i64 (0),.int .i64 (90),.int .i64 (0),.int .i64 (0),.int .i64 (50),.int .i64 (1),.int .i64 (0),.int .i64 (-1),.bool false]],.list true [],.list true []]),.p (.agg [.int .i64 (0),.int .i64 (0),.list true [],.list false [.agg [.int .i64 (0),.bool true]]])]
def rI : V:= .tup [.p (.agg [.bool false,.int .i64 (0),.list false [.agg [.int .i64 (0),.int .i64 (0),.int .i64 (0),.bool false]],.int .i64 (0),.int .i64 (0)]),.p (.int .i64 (0))]
theorem ZfH : ACalls Tryz.prog 221 qQ [] fun y H'=>y=rI/\H'= []:=X9 { kp:= [58,312,91,35],lh:= [101],fa:= [37,237,164],kn:=CTk12 } 60 mixed Zd qZ
def CTk13 : List (FuncId×List V×V):=(221,qQ,rI)::CTk12
theorem rA : KnL Tryz.prog CTk13:=KnL.cons ZfH rfl (fun n=>rfl) qZ
def qR : List V:= [.p (.agg [.list false [.str [72,117,98]],.list true [],.list false [.agg [.str [97],.int .i64 (1),.int .i64 (0),.int .i64 (0),.list false [.int .i64 (5)],.int .i64 (0),.int .i64 (0),.int .i64 (0),.int .i64 (100),.int .i64 (50),.int .i64 (0),.int .i64 (0),.int .i64 (0),.int .i64 (0)]],.list false [.agg [.str [111],.list false [.int .i64 (1)],.int .i64 (-1),.int .i64 (0),.int .i64 (0),.int .i64 (0),.int .i64 (0),.int .i64 (0),.int .i64 (90),.int .i64 (0),.int .i64 (0),.int .i64 (50),.int .i64 (1),.int .i64 (0),.int .i64 (-1),.bool false]],.list true [],.list true []]),.p (.agg [.int .i64 (0),.int .i64 (0),.list true [],.list false [.agg [.int .i64 (0),.bool true]]])]
def rJ : V:= .tup [.p (.agg [.bool false,.int .i64 (0),.list false [.agg [.int .i64 (0),.int .i64 (0),.int .i64 (0),.bool false]],.int .i64 (0),.int .i64 (0)]),.p (.agg [.int .i64 (0),.int .i64 (0),.int .i64 (0),.int .i64 (0)]),.p (.int .i64 (0))]
theorem ZfI : ACalls Tryz.prog 164 qR [] fun y H'=>y=rJ/\H'= []:=X9 { kp:= [58,312,91,35],lh:= [101],fa:= [37,237,164],kn:=CTk13 } 60 mixed Zd rA
def CTk14 : List (FuncId×List V×V):=(164,qR,rJ)::CTk13
theorem rB : KnL Tryz.prog CTk14:=KnL.cons ZfI rfl (fun n=>rfl) rA
def qS : List V:= [.p (.agg [.list false [.str [72,117,98]],.list true [],.list false [.agg [.str [97],.int .i64 (1),.int .i64 (0),.int .i64 (0),.list false [.int .i64 (5)],.int .i64 (0),.int .i64 (0),.int .i64 (0),.int .i64 (100),.int .i64 (50),.int .i64 (0),.int .i64 (0),.int .i64 (0),.int .i64 (0)]],.list false [.agg [.str [111],.list false [.int .i64 (1)],.int .i64 (-1),.int .i64 (0),.int .i64 (0),.int .i64 (0),.int .i64 (0),.int .i64 (0),.int .i64 (90),.int .i64 (0),.int .i64 (0),.int .i64 (50),.int .i64 (1),.int .i64 (0),.int .i64 (-1),.bool false]],.list true [],.list true []]),.p (.agg [.int .i64 (0),.int .i64 (0),.list true [],.list false [.agg [.int .i64 (0),.bool true]]])]
def rK : V:= .tup [.p (.int .i64 (0)),.p (.int .i64 (0))]
theorem ZfJ : ACalls Tryz.prog 237 qS [] fun y H'=>y=rK/\H'= []:=X9 { kp:= [58,312,91,35],lh:= [101],fa:= [37,237,164],kn:=CTk14 } 60 mixed Zd rB
def CTk15 : List (FuncId×List V×V):=(237,qS,rK)::CTk14
theorem rC : KnL Tryz.prog CTk15:=KnL.cons ZfJ rfl (fun n=>rfl) rB
end Go.Proofs.YtiigdaohjanidaaGreatDoor.K
