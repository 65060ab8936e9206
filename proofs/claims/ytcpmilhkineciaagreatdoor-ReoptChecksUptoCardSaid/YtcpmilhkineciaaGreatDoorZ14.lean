/- Declarations that the closing texts need, part 14: joined by tools/slim.py. -/
import Derived.Test.YtcpmilhkineciaaGreatDoorZ13
set_option linter.unusedVariables false
set_option linter.unusedSimpArgs false
namespace Go.Proofs.YtcpmilhkineciaaGreatDoor.K
open Go Go.AM Go.Proofs
set_option maxRecDepth 100000
def Zyr : List V:= [.p (.agg [.str [97],.int .i64 (1),.int .i64 (0),.int .i64 (0),.list false [.int .i64 (5)],.int .i64 (0),.int .i64 (0),.int .i64 (0),.int .i64 (100),.int .i64 (50),.int .i64 (0),.int .i64 (0),.int .i64 (0),.int .i64 (0)]),.p (.int .i64 (0))]
def ZyL : V:= .p (.bool true)
theorem ZAn : ACalls Tryz.prog 265 Zyr [] fun y H'=>y=ZyL/\H'= []:=X1 { kp:= [252,59,313,92],lh:= [102,252,194],fa:= [26,64,148,65,238,165,29],lb:=true,kn:=CHk3 } 60 Zp (by kernel_rfl) ZwY
def CHk4 : List (FuncId×List V×V):=(265,Zyr,ZyL)::CHk3
theorem Zyt : KnL Tryz.prog CHk4:=KnL.cons ZAn rfl (fun n=>rfl) ZwY
def ZxP : List V:= [.p (.agg [.list false [.str [72,117,98]],.list true [],.list false [.agg [.str [97],.int .i64 (1),.int .i64 (0),.int .i64 (0),.list false [.int .i64 (5)],.int .i64 (0),.int .i64 (0),.int .i64 (0),.int .i64 (100),.int .i64 (50),.int .i64 (0),.int .i64 (0),.int .i64 (0),.int .i64 (0)]],.list false [.agg [.str [111],.list false [.int .i64 (1)],.int .i64 (-1),.int .i64 (0),.int .i64 (0),.int .i64 (0),.int .i64 (0),.int .i64 (0),.int .i64 (90),.int .i64 (0),.int .i64 (0),.int .i64 (50),.int .i64 (1),.int .i64 (-1),.int .i64 (-1),.bool false]],.list true [],.list true []]),.p (.agg [.int .i64 (0),.int .i64 (7),.list true [],.list false [.agg [.int .i64 (0),.bool true]]])]
def ZxQ : V:= .p (.int .i64 (0))
theorem ZAl : ACalls Tryz.prog 221 ZxP [] fun y H'=>y=ZxQ/\H'= []:=X1 { kp:= [252,59,313,92],lh:= [102,252,194],fa:= [26,64,148,65,238,165,29],lb:=true,kn:=CHk4 } 60 Zp (by kernel_rfl) Zyt
def CHk5 : List (FuncId×List V×V):=(221,ZxP,ZxQ)::CHk4
theorem ZyT : KnL Tryz.prog CHk5:=KnL.cons ZAl rfl (fun n=>rfl) Zyt
def Zy2 : List V:= [.p (.agg [.list false [.str [72,117,98]],.list true [],.list false [.agg [.str [97],.int .i64 (1),.int .i64 (0),.int .i64 (0),.list false [.int .i64 (5)],.int .i64 (0),.int .i64 (0),.int .i64 (0),.int .i64 (100),.int .i64 (50),.int .i64 (0),.int .i64 (0),.int .i64 (0),.int .i64 (0)]],.list false [.agg [.str [111],.list false [.int .i64 (1)],.int .i64 (-1),.int .i64 (0),.int .i64 (0),.int .i64 (0),.int .i64 (0),.int .i64 (0),.int .i64 (90),.int .i64 (0),.int .i64 (0),.int .i64 (50),.int .i64 (1),.int .i64 (-1),.int .i64 (-1),.bool false]],.list true [],.list true []]),.p (.agg [.int .i64 (0),.int .i64 (7),.list true [],.list false [.agg [.int .i64 (0),.bool true]]])]
def Zyz : V:= .tup [.p (.agg [.bool false,.int .i64 (7),.list false [.agg [.int .i64 (7),.int .i64 (7),.int .i64 (7),.bool false]],.int .i64 (7),.int .i64 (0)]),.p (.int .i64 (0))]
theorem ZzP : ACalls Tryz.prog 222 Zy2 [] fun y H'=>y=Zyz/\H'= []:=X1 { kp:= [252,59,313,92],lh:= [102,252,194],fa:= [26,64,148,65,238,165,29],lb:=true,kn:=CHk5 } 60 Zp (by kernel_rfl) ZyT
def CHk6 : List (FuncId×List V×V):=(222,Zy2,Zyz)::CHk5
theorem ZxK : KnL Tryz.prog CHk6:=KnL.cons ZzP rfl (fun n=>rfl) ZyT
end Go.Proofs.YtcpmilhkineciaaGreatDoor.K
