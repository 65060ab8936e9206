/- Declarations that the closing texts need, part 18: joined by tools/slim.py. -/
import Derived.Test.YtcpmilhkineciaaGreatDoorZ17
set_option linter.unusedVariables false
set_option linter.unusedSimpArgs false
namespace Go.Proofs.YtcpmilhkineciaaGreatDoor.K
open Go Go.AM Go.Proofs
set_option maxRecDepth 100000
def Zo2 : List V:= [.p (.agg [.list false [.str [72,117,98]],.list true [],.list false [.agg [.str [97],.int .i64 (1),.int .i64 (0),.int .i64 (0),.list false [.int .i64 (5)],.int .i64 (0),.int .i64 (0),.int .i64 (0),.int .i64 (100),.int .i64 (50),.int .i64 (0),.int .i64 (0),.int .i64 (0),.int .i64 (0)]],.list false [.agg [.str [111],.list false [.int .i64 (1)],.int .i64 (-1),.int .i64 (0),.int .i64 (0),.int .i64 (0),.int .i64 (0),.int .i64 (0),.int .i64 (90),.int .i64 (0),.int .i64 (0),.int .i64 (50),.int .i64 (1),.int .i64 (-1),.int .i64 (-1),.bool false]],.list true [],.list true []]),.p (.agg [.list false [.agg [.int .i64 (0),.int .i64 (7),.list true [],.list false [.agg [.int .i64 (0),.bool true]]]],.list true []])]
def ZnH : V:= .p (.int .i64 (0))
theorem Zwf : ACalls Tryz.prog 68 Zo2 [] fun y H'=>y=ZnH/\H'= []:=X1 { kp:= [252,59,313,92],lh:= [102,252,194],fa:= [26,64,148,65,238,165,29],lb:=true,kn:=CHk14 } 60 Zp (by kernel_rfl) Zq8
def CHk15 : List (FuncId×List V×V):=(68,Zo2,ZnH)::CHk14
theorem ZpR : KnL Tryz.prog CHk15:=KnL.cons Zwf rfl (fun n=>rfl) Zq8
def Zpp : List V:= [.p (.agg [.list false [.str [72,117,98]],.list true [],.list false [.agg [.str [97],.int .i64 (1),.int .i64 (0),.int .i64 (0),.list false [.int .i64 (5)],.int .i64 (0),.int .i64 (0),.int .i64 (0),.int .i64 (100),.int .i64 (50),.int .i64 (0),.int .i64 (0),.int .i64 (0),.int .i64 (0)]],.list false [.agg [.str [111],.list false [.int .i64 (1)],.int .i64 (-1),.int .i64 (0),.int .i64 (0),.int .i64 (0),.int .i64 (0),.int .i64 (0),.int .i64 (90),.int .i64 (0),.int .i64 (0),.int .i64 (50),.int .i64 (1),.int .i64 (-1),.int .i64 (-1),.bool false]],.list true [],.list true []]),.p (.agg [.list false [.agg [.int .i64 (0),.int .i64 (7),.list true [],.list false [.agg [.int .i64 (0),.bool true]]]],.list true []]),.p (.list true []),.p (.int .i64 (8))]
def Zqe : V:= .p (.int .i64 (32))
theorem Zwb : ACalls Tryz.prog 29 Zpp [] fun y H'=>y=Zqe/\H'= []:=X1 { kp:= [252,59,313,92],lh:= [102,252,194],fa:= [26,64,148,65,238,165,29],lb:=true,kn:=CHk15 } 60 Zp (by kernel_rfl) ZpR
def CHk16 : List (FuncId×List V×V):=(29,Zpp,Zqe)::CHk15
theorem Zwh : KnL Tryz.prog CHk16:=KnL.cons Zwb rfl (fun n=>rfl) ZpR
theorem Zd1 : PC 22 [] (.bool true) :=
 Zgl { kp:= [252,59,313,92],lh:= [102,252,194],fa:= [26,64,148,65,238,165,29],lb:=true,kn:=CHk16 } 60 Zp (by kernel_rfl) Zwh
end Go.Proofs.YtcpmilhkineciaaGreatDoor.K
