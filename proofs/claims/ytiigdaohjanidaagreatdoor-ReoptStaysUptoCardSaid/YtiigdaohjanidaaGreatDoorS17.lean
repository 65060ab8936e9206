/- Declarations that the closing texts need, part 17: joined by tools/slim.py. -/
import Derived.Test.YtiigdaohjanidaaGreatDoorS16
set_option linter.unusedVariables false
set_option linter.unusedSimpArgs false
namespace Go.Proofs.YtiigdaohjanidaaGreatDoor.K
open Go Go.AM Go.Proofs
set_option maxRecDepth 100000
def oJ : List V:= [.p (.agg [.list false [.str [72,117,98]],.list true [],.list false [.agg [.str [97],.int .i64 (1),.int .i64 (0),.int .i64 (0),.list false [.int .i64 (5)],.int .i64 (0),.int .i64 (0),.int .i64 (0),.int .i64 (100),.int .i64 (50),.int .i64 (0),.int .i64 (0),.int .i64 (0),.int .i64 (0)]],.list false [.agg [.str [111],.list false [.int .i64 (1)],.int .i64 (-1),.int .i64 (0),.int .i64 (0),.int .i64 (0),.int .i64 (0),.int .i64 (0),.int .i64 (90),.int .i64 (0),.int .i64 (0),.int .i64 (50),.int .i64 (1),.int .i64 (-1),.int .i64 (-1),.bool false]],.list true [],.list true []]),.p (.list false [.agg [.int .i64 (0),.int .i64 (1),.int .i64 (0),.int .i64 (0),.int .i64 (7),.list true [],.list false [.agg [.int .i64 (0),.bool true]]]])]
def oW : V:= .tup [.p (.agg [.list false [.agg [.int .i64 (0),.int .i64 (7),.list true [],.list false [.agg [.int .i64 (0),.bool true]]]],.list true []]),.p (.int .i64 (0)),.p (.int .i64 (0))]
theorem Zef : ACalls Tryz.prog 64 oJ [] fun y H'=>y=oW/\H'= []:=Ys { kp:= [251,58,312,91],lh:= [101,251,193],fa:= [25,63,147,64,237,164,28],lb:=true,kn:=CHk12 } 60 mixed Ze oP
def CHk13 : List (FuncId×List V×V):=(64,oJ,oW)::CHk12
theorem oQ : KnL Tryz.prog CHk13:=KnL.cons Zef rfl (fun n=>rfl) oP
def oK : List V:= [.p (.agg [.list false [.str [72,117,98]],.list true [],.list false [.agg [.str [97],.int .i64 (1),.int .i64 (0),.int .i64 (0),.list false [.int .i64 (5)],.int .i64 (0),.int .i64 (0),.int .i64 (0),.int .i64 (100),.int .i64 (50),.int .i64 (0),.int .i64 (0),.int .i64 (0),.int .i64 (0)]],.list false [.agg [.str [111],.list false [.int .i64 (1)],.int .i64 (-1),.int .i64 (0),.int .i64 (0),.int .i64 (0),.int .i64 (0),.int .i64 (0),.int .i64 (90),.int .i64 (0),.int .i64 (0),.int .i64 (50),.int .i64 (1),.int .i64 (-1),.int .i64 (-1),.bool false]],.list true [],.list true []]),.p (.agg [.list true [],.list true []]),.p (.list true []),.p (.int .i64 (7))]
def oX : V:= .tup [.p (.agg [.list false [.agg [.int .i64 (0),.int .i64 (7),.list true [],.list false [.agg [.int .i64 (0),.bool true]]]],.list true []]),.p (.int .i64 (0)),.p (.int .i64 (0))]
theorem Zeg : ACalls Tryz.prog 25 oK [] fun y H'=>y=oX/\H'= []:=Ys { kp:= [251,58,312,91],lh:= [101,251,193],fa:= [25,63,147,64,237,164,28],lb:=true,kn:=CHk13 } 60 mixed Ze oQ
def CHk14 : List (FuncId×List V×V):=(25,oK,oX)::CHk13
theorem oS : KnL Tryz.prog CHk14:=KnL.cons Zeg rfl (fun n=>rfl) oQ
end Go.Proofs.YtiigdaohjanidaaGreatDoor.K
