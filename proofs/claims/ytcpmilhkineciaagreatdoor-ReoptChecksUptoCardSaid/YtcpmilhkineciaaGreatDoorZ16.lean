/- Declarations that the closing texts need, part 16: joined by tools/slim.py. -/
import Derived.Test.YtcpmilhkineciaaGreatDoorZ15
set_option linter.unusedVariables false
set_option linter.unusedSimpArgs false
namespace Go.Proofs.YtcpmilhkineciaaGreatDoor.K
open Go Go.AM Go.Proofs
set_option maxRecDepth 100000
def Zyw : List V:= [.p (.agg [.list false [.str [72,117,98]],.list true [],.list false [.agg [.str [97],.int .i64 (1),.int .i64 (0),.int .i64 (0),.list false [.int .i64 (5)],.int .i64 (0),.int .i64 (0),.int .i64 (0),.int .i64 (100),.int .i64 (50),.int .i64 (0),.int .i64 (0),.int .i64 (0),.int .i64 (0)]],.list false [.agg [.str [111],.list false [.int .i64 (1)],.int .i64 (-1),.int .i64 (0),.int .i64 (0),.int .i64 (0),.int .i64 (0),.int .i64 (0),.int .i64 (90),.int .i64 (0),.int .i64 (0),.int .i64 (50),.int .i64 (1),.int .i64 (-1),.int .i64 (-1),.bool false]],.list true [],.list true []]),.p (.agg [.int .i64 (0),.int .i64 (7),.list true [],.list true []]),.p (.int .i64 (0)),.p (.int .i64 (0))]
def Zxj : V:= .p (.list false [.agg [.int .i64 (0),.int .i64 (1),.int .i64 (0),.int .i64 (0),.int .i64 (7),.list true [],.list false [.agg [.int .i64 (0),.bool true]]]])
theorem ZzW : ACalls Tryz.prog 99 Zyw [] fun y H'=>y=Zxj/\H'= []:=X1 { kp:= [252,59,313,92],lh:= [102,252,194],fa:= [26,64,148,65,238,165,29],lb:=true,kn:=CHk9 } 60 Zp (by kernel_rfl) Zxu
def CHk10 : List (FuncId×List V×V):=(99,Zyw,Zxj)::CHk9
theorem Zpn : KnL Tryz.prog CHk10:=KnL.cons ZzW rfl (fun n=>rfl) Zxu
def ZmK : List V:= [.p (.agg [.list false [.str [72,117,98]],.list true [],.list false [.agg [.str [97],.int .i64 (1),.int .i64 (0),.int .i64 (0),.list false [.int .i64 (5)],.int .i64 (0),.int .i64 (0),.int .i64 (0),.int .i64 (100),.int .i64 (50),.int .i64 (0),.int .i64 (0),.int .i64 (0),.int .i64 (0)]],.list false [.agg [.str [111],.list false [.int .i64 (1)],.int .i64 (-1),.int .i64 (0),.int .i64 (0),.int .i64 (0),.int .i64 (0),.int .i64 (0),.int .i64 (90),.int .i64 (0),.int .i64 (0),.int .i64 (50),.int .i64 (1),.int .i64 (-1),.int .i64 (-1),.bool false]],.list true [],.list true []]),.p (.list true []),.p (.int .i64 (7))]
def Zoq : V:= .tup [.p (.list false [.agg [.int .i64 (0),.int .i64 (1),.int .i64 (0),.int .i64 (0),.int .i64 (7),.list true [],.list false [.agg [.int .i64 (0),.bool true]]]]),.p (.int .i64 (0))]
theorem Zum : ACalls Tryz.prog 64 ZmK [] fun y H'=>y=Zoq/\H'= []:=X1 { kp:= [252,59,313,92],lh:= [102,252,194],fa:= [26,64,148,65,238,165,29],lb:=true,kn:=CHk10 } 60 Zp (by kernel_rfl) Zpn
def CHk11 : List (FuncId×List V×V):=(64,ZmK,Zoq)::CHk10
theorem Zp1 : KnL Tryz.prog CHk11:=KnL.cons Zum rfl (fun n=>rfl) Zpn
def Znd : List V:= [.p (.list false [.agg [.int .i64 (0),.int .i64 (1),.int .i64 (0),.int .i64 (0),.int .i64 (7),.list true [],.list false [.agg [.int .i64 (0),.bool true]]]])]
def Zpc : V:= .p (.list false [.agg [.int .i64 (0),.int .i64 (1),.int .i64 (0),.int .i64 (0),.int .i64 (7),.list true [],.list false [.agg [.int .i64 (0),.bool true]]]])
theorem ZvE : ACalls Tryz.prog 151 Znd [] fun y H'=>y=Zpc/\H'= []:=X1 { kp:= [252,59,313,92],lh:= [102,252,194],fa:= [26,64,148,65,238,165,29],lb:=true,kn:=CHk11 } 60 Zp (by kernel_rfl) Zp1
def CHk12 : List (FuncId×List V×V):=(151,Znd,Zpc)::CHk11
theorem ZqF : KnL Tryz.prog CHk12:=KnL.cons ZvE rfl (fun n=>rfl) Zp1
end Go.Proofs.YtcpmilhkineciaaGreatDoor.K
