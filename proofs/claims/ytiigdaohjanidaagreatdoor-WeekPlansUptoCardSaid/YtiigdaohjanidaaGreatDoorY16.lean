/- Declarations that the closing texts need, part 16: joined by tools/slim.py. -/
import Derived.Test.YtiigdaohjanidaaGreatDoorY15
set_option linter.unusedVariables false
set_option linter.unusedSimpArgs false
namespace Go.Proofs.YtiigdaohjanidaaGreatDoor.K
open Go Go.AM Go.Proofs
set_option maxRecDepth 100000
def pC : List V:= [.p (.agg [.list false [.str [72,117,98]],.list true [],.list false [.agg [.str [97],.int .i64 (1),.int .i64 (0),.int .i64 (0),.list false [.int .i64 (5)],.int .i64 (0),.int .i64 (0),.int .i64 (0),.int .i64 (100),.int .i64 (50),.int .i64 (0),.int .i64 (0),.int .i64 (0),.int .i64 (0)]],.list false [.agg [.str [111],.list false [.int .i64 (1)],.int .i64 (-1),.int .i64 (0),.int .i64 (0),.int .i64 (0),.int .i64 (0),.int .i64 (0),.int .i64 (90),.int .i64 (0),.int .i64 (0),.int .i64 (50),.int .i64 (1),.int .i64 (0),.int .i64 (-1),.bool false]],.list true [],.list true []]),.p (.agg [.int .i64 (0),.int .i64 (0),.list true [],.list false [.agg [.int .i64 (0),.bool true]]])]
def pV : V:= .tup [.p (.agg [.bool false,.int .i64 (0),.list false [.agg [.int .i64 (0),.int .i64 (0),.int .i64 (0),.bool false]],.int .i64 (0),.int .i64 (0)]),.p (.int .i64 (0))]
theorem Zfp : ACalls Tryz.prog 221 pC [] fun y H'=>y=pV/\H'= []:=X4 { kp:= [58,312,91,35],lh:= [101],fa:= [37,237,164],kn:=CTk12 } 60 mixed Zd pM
def CTk13 : List (FuncId×List V×V):=(221,pC,pV)::CTk12
theorem pN : KnL Tryz.prog CTk13:=KnL.cons Zfp rfl (fun n=>rfl) pM
def pD : List V:= [.p (.agg [.list false [.str [72,117,98]],.list true [],.list false [.agg [.str [97],.int .i64 (1),.int .i64 (0),.int .i64 (0),.list false [.int .i64 (5)],.int .i64 (0),.int .i64 (0),.int .i64 (0),.int .i64 (100),.int .i64 (50),.int .i64 (0),.int .i64 (0),.int .i64 (0),.int .i64 (0)]],.list false [.agg [.str [111],.list false [.int .i64 (1)],.int .i64 (-1),.int .i64 (0),.int .i64 (0),.int .i64 (0),.int .i64 (0),.int .i64 (0),.int .i64 (90),.int .i64 (0),.int .i64 (0),.int .i64 (50),.int .i64 (1),.int .i64 (0),.int .i64 (-1),.bool false]],.list true [],.list true []]),.p (.agg [.int .i64 (0),.int .i64 (0),.list true [],.list false [.agg [.int .i64 (0),.bool true]]])]
def pW : V:= .tup [.p (.agg [.bool false,.int .i64 (0),.list false [.agg [.int .i64 (0),.int .i64 (0),.int .i64 (0),.bool false]],.int .i64 (0),.int .i64 (0)]),.p (.agg [.int .i64 (0),.int .i64 (0),.int .i64 (0),.int .i64 (0)]),.p (.int .i64 (0))]
theorem Zfq : ACalls Tryz.prog 164 pD [] fun y H'=>y=pW/\H'= []:=X4 { kp:= [58,312,91,35],lh:= [101],fa:= [37,237,164],kn:=CTk13 } 60 mixed Zd pN
def CTk14 : List (FuncId×List V×V):=(164,pD,pW)::CTk13
theorem pO : KnL Tryz.prog CTk14:=KnL.cons Zfq rfl (fun n=>rfl) pN
def pE : List V:= [.p (.agg [.list false [.str [72,117,98]],.list true [],.list false [.agg [.str [97],.int .i64 (1),.int .i64 (0),.int .i64 (0),.list false [.int .i64 (5)],.int .i64 (0),.int .i64 (0),.int .i64 (0),.int .i64 (100),.int .i64 (50),.int .i64 (0),.int .i64 (0),.int .i64 (0),.int .i64 (0)]],.list false [.agg [.str [111],.list false [.int .i64 (1)],.int .i64 (-1),.int .i64 (0),.int .i64 (0),.int .i64 (0),.int .i64 (0),.int .i64 (0),.int .i64 (90),.int .i64 (0),.int .i64 (0),.int .i64 (50),.int .i64 (1),.int .i64 (0),.int .i64 (-1),.bool false]],.list true [],.list true []]),.p (.agg [.int .i64 (0),.int .i64 (0),.list true [],.list false [.agg [.int .i64 (0),.bool true]]])]
def pX : V:= .tup [.p (.int .i64 (0)),.p (.int .i64 (0))]
theorem Zfr : ACalls Tryz.prog 237 pE [] fun y H'=>y=pX/\H'= []:=X4 { kp:= [58,312,91,35],lh:= [101],fa:= [37,237,164],kn:=CTk14 } 60 mixed Zd pO
def CTk15 : List (FuncId×List V×V):=(237,pE,pX)::CTk14
theorem pP : KnL Tryz.prog CTk15:=KnL.cons Zfr rfl (fun n=>rfl) pO
end Go.Proofs.YtiigdaohjanidaaGreatDoor.K
