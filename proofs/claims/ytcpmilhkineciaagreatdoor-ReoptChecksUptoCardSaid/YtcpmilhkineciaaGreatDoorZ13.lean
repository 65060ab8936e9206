/- Declarations that the closing texts need, part 13: joined by tools/slim.py. -/
import Derived.Test.YtcpmilhkineciaaGreatDoorZ12
set_option linter.unusedVariables false
set_option linter.unusedSimpArgs false
namespace Go.Proofs.YtcpmilhkineciaaGreatDoor.K
open Go Go.AM Go.Proofs
set_option maxRecDepth 100000
def CHk0 : List (FuncId×List V×V):= []
theorem Zxy : KnL Tryz.prog CHk0:=fun k hk=>by cases hk
def Zyy : List V:= [.p (.agg [.list false [.str [72,117,98]],.list true [],.list false [.agg [.str [97],.int .i64 (1),.int .i64 (0),.int .i64 (0),.list false [.int .i64 (5)],.int .i64 (0),.int .i64 (0),.int .i64 (0),.int .i64 (100),.int .i64 (50),.int .i64 (0),.int .i64 (0),.int .i64 (0),.int .i64 (0)]],.list false [.agg [.str [111],.list false [.int .i64 (1)],.int .i64 (-1),.int .i64 (0),.int .i64 (0),.int .i64 (0),.int .i64 (0),.int .i64 (0),.int .i64 (90),.int .i64 (0),.int .i64 (0),.int .i64 (50),.int .i64 (1),.int .i64 (-1),.int .i64 (-1),.bool false]],.list true [],.list true []]),.p (.agg [.list true [],.list true []]),.p (.list true [])]
def ZxZ : V:= .tup [.p (.agg [.list false [.str [72,117,98]],.list true [],.list false [.agg [.str [97],.int .i64 (1),.int .i64 (0),.int .i64 (0),.list false [.int .i64 (5)],.int .i64 (0),.int .i64 (0),.int .i64 (0),.int .i64 (100),.int .i64 (50),.int .i64 (0),.int .i64 (0),.int .i64 (0),.int .i64 (0)]],.list false [.agg [.str [111],.list false [.int .i64 (1)],.int .i64 (-1),.int .i64 (0),.int .i64 (0),.int .i64 (0),.int .i64 (0),.int .i64 (0),.int .i64 (90),.int .i64 (0),.int .i64 (0),.int .i64 (50),.int .i64 (1),.int .i64 (-1),.int .i64 (-1),.bool false]],.list true [],.list true []]),.p (.int .i64 (0))]
theorem Zzj : ACalls Tryz.prog 23 Zyy [] fun y H'=>y=ZxZ/\H'= []:=X1 { kp:= [252,59,313,92],lh:= [102,252,194],fa:= [26,64,148,65,238,165,29],lb:=true,kn:=CHk0 } 60 Zp (by kernel_rfl) Zxy
def CHk1 : List (FuncId×List V×V):=(23,Zyy,ZxZ)::CHk0
theorem ZyG : KnL Tryz.prog CHk1:=KnL.cons Zzj rfl (fun n=>rfl) Zxy
def ZxL : List V:= [.p (.agg [.list false [.str [72,117,98]],.list true [],.list false [.agg [.str [97],.int .i64 (1),.int .i64 (0),.int .i64 (0),.list false [.int .i64 (5)],.int .i64 (0),.int .i64 (0),.int .i64 (0),.int .i64 (100),.int .i64 (50),.int .i64 (0),.int .i64 (0),.int .i64 (0),.int .i64 (0)]],.list false [.agg [.str [111],.list false [.int .i64 (1)],.int .i64 (-1),.int .i64 (0),.int .i64 (0),.int .i64 (0),.int .i64 (0),.int .i64 (0),.int .i64 (90),.int .i64 (0),.int .i64 (0),.int .i64 (50),.int .i64 (1),.int .i64 (-1),.int .i64 (-1),.bool false]],.list true [],.list true []]),.p (.int .i64 (1)),.p (.list true [])]
def Zxs : V:= .p (.list false [.agg [.int .i64 (0),.bool true]])
theorem ZzK : ACalls Tryz.prog 241 ZxL [] fun y H'=>y=Zxs/\H'= []:=X1 { kp:= [252,59,313,92],lh:= [102,252,194],fa:= [26,64,148,65,238,165,29],lb:=true,kn:=CHk1 } 60 Zp (by kernel_rfl) ZyG
def CHk2 : List (FuncId×List V×V):=(241,ZxL,Zxs)::CHk1
theorem Zxm : KnL Tryz.prog CHk2:=KnL.cons ZzK rfl (fun n=>rfl) ZyG
def Zyb : List V:= [.p (.agg [.list false [.str [72,117,98]],.list true [],.list false [.agg [.str [97],.int .i64 (1),.int .i64 (0),.int .i64 (0),.list false [.int .i64 (5)],.int .i64 (0),.int .i64 (0),.int .i64 (0),.int .i64 (100),.int .i64 (50),.int .i64 (0),.int .i64 (0),.int .i64 (0),.int .i64 (0)]],.list false [.agg [.str [111],.list false [.int .i64 (1)],.int .i64 (-1),.int .i64 (0),.int .i64 (0),.int .i64 (0),.int .i64 (0),.int .i64 (0),.int .i64 (90),.int .i64 (0),.int .i64 (0),.int .i64 (50),.int .i64 (1),.int .i64 (-1),.int .i64 (-1),.bool false]],.list true [],.list true []]),.p (.agg [.int .i64 (0),.int .i64 (7),.list true [],.list false [.agg [.int .i64 (0),.bool true]]])]
def ZxM : V:= .p (.int .i64 (0))
theorem ZzT : ACalls Tryz.prog 219 Zyb [] fun y H'=>y=ZxM/\H'= []:=X1 { kp:= [252,59,313,92],lh:= [102,252,194],fa:= [26,64,148,65,238,165,29],lb:=true,kn:=CHk2 } 60 Zp (by kernel_rfl) Zxm
def CHk3 : List (FuncId×List V×V):=(219,Zyb,ZxM)::CHk2
theorem ZwY : KnL Tryz.prog CHk3:=KnL.cons ZzT rfl (fun n=>rfl) Zxm
end Go.Proofs.YtcpmilhkineciaaGreatDoor.K
