/- Declarations that the closing texts need, part 17: joined by tools/slim.py. -/
import Derived.Test.YtgknhiknjimdpaaGreatDoorZ16
set_option linter.unusedVariables false
set_option linter.unusedSimpArgs false
namespace Go.Proofs.YtgknhiknjimdpaaGreatDoor.K
open Go Go.AM Go.Proofs
set_option maxRecDepth 100000
def Zhc : List V:= [.p (.agg [.list false [.str [72,117,98]],.list true [],.list false [.agg [.str [97],.int .i64 (1),.int .i64 (0),.int .i64 (0),.list false [.int .i64 (5)],.int .i64 (0),.int .i64 (0),.int .i64 (0),.int .i64 (100),.int .i64 (50),.int .i64 (0),.int .i64 (0),.int .i64 (0),.int .i64 (0)]],.list false [.agg [.str [111],.list false [.int .i64 (1)],.int .i64 (-1),.int .i64 (0),.int .i64 (0),.int .i64 (0),.int .i64 (0),.int .i64 (0),.int .i64 (90),.int .i64 (0),.int .i64 (0),.int .i64 (50),.int .i64 (1),.int .i64 (0),.int .i64 (-1),.bool false]],.list true [],.list true []]),.p (.int .i64 (0)),.p (.int .i64 (1))]
def ZhV : V:= .tup [.p (.agg [.int .i64 (0),.int .i64 (1),.int .i64 (0),.int .i64 (0),.int .i64 (0),.list true [],.list false [.agg [.int .i64 (0),.bool true]]]),.p (.int .i64 (0))]
theorem Zle : ACalls Tryz.prog 77 Zhc [] fun y H'=>y=ZhV/\H'= []:=ZP { kp:= [67,225,36,17],lh:= [80],fa:= [35,126,158],kn:=CSk15 } 60 mixed (by kernel_rfl) Zik
def CSk16 : List (FuncId×List V×V):=(77,Zhc,ZhV)::CSk15
theorem ZgA : KnL Tryz.prog CSk16:=KnL.cons Zle rfl (fun n=>rfl) Zik
def Zgy : List V:= [.p (.agg [.list false [.str [72,117,98]],.list true [],.list false [.agg [.str [97],.int .i64 (1),.int .i64 (0),.int .i64 (0),.list false [.int .i64 (5)],.int .i64 (0),.int .i64 (0),.int .i64 (0),.int .i64 (100),.int .i64 (50),.int .i64 (0),.int .i64 (0),.int .i64 (0),.int .i64 (0)]],.list false [.agg [.str [111],.list false [.int .i64 (1)],.int .i64 (-1),.int .i64 (0),.int .i64 (0),.int .i64 (0),.int .i64 (0),.int .i64 (0),.int .i64 (90),.int .i64 (0),.int .i64 (0),.int .i64 (50),.int .i64 (1),.int .i64 (0),.int .i64 (-1),.bool false]],.list true [],.list true []])]
def ZfY : V:= .tup [.p (.list false [.agg [.int .i64 (0),.int .i64 (1),.int .i64 (0),.int .i64 (0),.int .i64 (0),.list true [],.list false [.agg [.int .i64 (0),.bool true]]]]),.p (.int .i64 (0))]
theorem Zlf : ACalls Tryz.prog 55 Zgy [] fun y H'=>y=ZfY/\H'= []:=ZP { kp:= [67,225,36,17],lh:= [80],fa:= [35,126,158],kn:=CSk16 } 60 mixed (by kernel_rfl) ZgA
def CSk17 : List (FuncId×List V×V):=(55,Zgy,ZfY)::CSk16
theorem Zic : KnL Tryz.prog CSk17:=KnL.cons Zlf rfl (fun n=>rfl) ZgA
def ZgW : List V:= [.p (.agg [.list false [.str [72,117,98]],.list true [],.list false [.agg [.str [97],.int .i64 (1),.int .i64 (0),.int .i64 (0),.list false [.int .i64 (5)],.int .i64 (0),.int .i64 (0),.int .i64 (0),.int .i64 (100),.int .i64 (50),.int .i64 (0),.int .i64 (0),.int .i64 (0),.int .i64 (0)]],.list false [.agg [.str [111],.list false [.int .i64 (1)],.int .i64 (-1),.int .i64 (0),.int .i64 (0),.int .i64 (0),.int .i64 (0),.int .i64 (0),.int .i64 (90),.int .i64 (0),.int .i64 (0),.int .i64 (50),.int .i64 (1),.int .i64 (0),.int .i64 (-1),.bool false]],.list true [],.list true []]),.p (.list false [.agg [.int .i64 (0),.int .i64 (1),.int .i64 (0),.int .i64 (0),.int .i64 (0),.list true [],.list false [.agg [.int .i64 (0),.bool true]]]])]
def Zgd : V:= .tup [.p (.agg [.list false [.agg [.int .i64 (0),.int .i64 (0),.list true [],.list false [.agg [.int .i64 (0),.bool true]]]],.list true []]),.p (.int .i64 (0)),.p (.int .i64 (0))]
theorem ZlV : ACalls Tryz.prog 56 ZgW [] fun y H'=>y=Zgd/\H'= []:=ZP { kp:= [67,225,36,17],lh:= [80],fa:= [35,126,158],kn:=CSk17 } 60 mixed (by kernel_rfl) Zic
def CSk18 : List (FuncId×List V×V):=(56,ZgW,Zgd)::CSk17
theorem Zii : KnL Tryz.prog CSk18:=KnL.cons ZlV rfl (fun n=>rfl) Zic
def ZhK : List V:= [.p (.agg [.list false [.str [72,117,98]],.list true [],.list false [.agg [.str [97],.int .i64 (1),.int .i64 (0),.int .i64 (0),.list false [.int .i64 (5)],.int .i64 (0),.int .i64 (0),.int .i64 (0),.int .i64 (100),.int .i64 (50),.int .i64 (0),.int .i64 (0),.int .i64 (0),.int .i64 (0)]],.list false [.agg [.str [111],.list false [.int .i64 (1)],.int .i64 (-1),.int .i64 (0),.int .i64 (0),.int .i64 (0),.int .i64 (0),.int .i64 (0),.int .i64 (90),.int .i64 (0),.int .i64 (0),.int .i64 (50),.int .i64 (1),.int .i64 (0),.int .i64 (-1),.bool false]],.list true [],.list true []])]
def ZfP : V:= .tup [.p (.agg [.list false [.agg [.int .i64 (0),.int .i64 (0),.list true [],.list false [.agg [.int .i64 (0),.bool true]]]],.list true []]),.p (.int .i64 (0)),.p (.int .i64 (0))]
theorem ZmZ : ACalls Tryz.prog 35 ZhK [] fun y H'=>y=ZfP/\H'= []:=ZP { kp:= [67,225,36,17],lh:= [80],fa:= [35,126,158],kn:=CSk18 } 60 mixed (by kernel_rfl) Zii
def CSk19 : List (FuncId×List V×V):=(35,ZhK,ZfP)::CSk18
theorem Zm7 : KnL Tryz.prog CSk19:=KnL.cons ZmZ rfl (fun n=>rfl) Zii
theorem ZaT : PC 7 [] (.bool true) :=
 ZbL { kp:= [67,225,36,17],lh:= [80],fa:= [35,126,158],kn:=CSk19 } 60 mixed (by kernel_rfl) Zm7
end Go.Proofs.YtgknhiknjimdpaaGreatDoor.K
