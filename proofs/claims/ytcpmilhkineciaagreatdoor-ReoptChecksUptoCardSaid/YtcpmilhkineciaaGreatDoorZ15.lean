/- Declarations that the closing texts need, part 15: joined by tools/slim.py. -/
import Derived.Test.YtcpmilhkineciaaGreatDoorZ14
set_option linter.unusedVariables false
set_option linter.unusedSimpArgs false
namespace Go.Proofs.YtcpmilhkineciaaGreatDoor.K
open Go Go.AM Go.Proofs
set_option maxRecDepth 100000
def Zyk : List V:= [.p (.agg [.list false [.str [72,117,98]],.list true [],.list false [.agg [.str [97],.int .i64 (1),.int .i64 (0),.int .i64 (0),.list false [.int .i64 (5)],.int .i64 (0),.int .i64 (0),.int .i64 (0),.int .i64 (100),.int .i64 (50),.int .i64 (0),.int .i64 (0),.int .i64 (0),.int .i64 (0)]],.list false [.agg [.str [111],.list false [.int .i64 (1)],.int .i64 (-1),.int .i64 (0),.int .i64 (0),.int .i64 (0),.int .i64 (0),.int .i64 (0),.int .i64 (90),.int .i64 (0),.int .i64 (0),.int .i64 (50),.int .i64 (1),.int .i64 (-1),.int .i64 (-1),.bool false]],.list true [],.list true []]),.p (.agg [.int .i64 (0),.int .i64 (7),.list true [],.list false [.agg [.int .i64 (0),.bool true]]])]
def ZxH : V:= .tup [.p (.agg [.bool false,.int .i64 (7),.list false [.agg [.int .i64 (7),.int .i64 (7),.int .i64 (7),.bool false]],.int .i64 (7),.int .i64 (0)]),.p (.agg [.int .i64 (0),.int .i64 (0),.int .i64 (0),.int .i64 (0)]),.p (.int .i64 (0))]
theorem Zzv : ACalls Tryz.prog 165 Zyk [] fun y H'=>y=ZxH/\H'= []:=X1 { kp:= [252,59,313,92],lh:= [102,252,194],fa:= [26,64,148,65,238,165,29],lb:=true,kn:=CHk6 } 60 Zp (by kernel_rfl) ZxK
def CHk7 : List (FuncId×List V×V):=(165,Zyk,ZxH)::CHk6
theorem ZxW : KnL Tryz.prog CHk7:=KnL.cons Zzv rfl (fun n=>rfl) ZxK
def ZyY : List V:= [.p (.agg [.list false [.str [72,117,98]],.list true [],.list false [.agg [.str [97],.int .i64 (1),.int .i64 (0),.int .i64 (0),.list false [.int .i64 (5)],.int .i64 (0),.int .i64 (0),.int .i64 (0),.int .i64 (100),.int .i64 (50),.int .i64 (0),.int .i64 (0),.int .i64 (0),.int .i64 (0)]],.list false [.agg [.str [111],.list false [.int .i64 (1)],.int .i64 (-1),.int .i64 (0),.int .i64 (0),.int .i64 (0),.int .i64 (0),.int .i64 (0),.int .i64 (90),.int .i64 (0),.int .i64 (0),.int .i64 (50),.int .i64 (1),.int .i64 (-1),.int .i64 (-1),.bool false]],.list true [],.list true []]),.p (.agg [.int .i64 (0),.int .i64 (7),.list true [],.list false [.agg [.int .i64 (0),.bool true]]])]
def ZxC : V:= .tup [.p (.int .i64 (0)),.p (.int .i64 (0))]
theorem ZzH : ACalls Tryz.prog 238 ZyY [] fun y H'=>y=ZxC/\H'= []:=X1 { kp:= [252,59,313,92],lh:= [102,252,194],fa:= [26,64,148,65,238,165,29],lb:=true,kn:=CHk7 } 60 Zp (by kernel_rfl) ZxW
def CHk8 : List (FuncId×List V×V):=(238,ZyY,ZxC)::CHk7
theorem Zx0 : KnL Tryz.prog CHk8:=KnL.cons ZzH rfl (fun n=>rfl) ZxW
def ZwZ : List V:= [.p (.agg [.list false [.str [72,117,98]],.list true [],.list false [.agg [.str [97],.int .i64 (1),.int .i64 (0),.int .i64 (0),.list false [.int .i64 (5)],.int .i64 (0),.int .i64 (0),.int .i64 (0),.int .i64 (100),.int .i64 (50),.int .i64 (0),.int .i64 (0),.int .i64 (0),.int .i64 (0)]],.list false [.agg [.str [111],.list false [.int .i64 (1)],.int .i64 (-1),.int .i64 (0),.int .i64 (0),.int .i64 (0),.int .i64 (0),.int .i64 (0),.int .i64 (90),.int .i64 (0),.int .i64 (0),.int .i64 (50),.int .i64 (1),.int .i64 (-1),.int .i64 (-1),.bool false]],.list true [],.list true []]),.p (.agg [.int .i64 (0),.int .i64 (7),.list true [],.list true []]),.p (.int .i64 (1))]
def Zxo : V:= .tup [.p (.agg [.int .i64 (0),.int .i64 (1),.int .i64 (0),.int .i64 (0),.int .i64 (7),.list true [],.list false [.agg [.int .i64 (0),.bool true]]]),.p (.int .i64 (0))]
theorem Zz1 : ACalls Tryz.prog 148 ZwZ [] fun y H'=>y=Zxo/\H'= []:=X1 { kp:= [252,59,313,92],lh:= [102,252,194],fa:= [26,64,148,65,238,165,29],lb:=true,kn:=CHk8 } 60 Zp (by kernel_rfl) Zx0
def CHk9 : List (FuncId×List V×V):=(148,ZwZ,Zxo)::CHk8
theorem Zxu : KnL Tryz.prog CHk9:=KnL.cons Zz1 rfl (fun n=>rfl) Zx0
end Go.Proofs.YtcpmilhkineciaaGreatDoor.K
