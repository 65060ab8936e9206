/- Declarations that the closing texts need, part 17: joined by tools/slim.py. -/
import Derived.Test.YtiigdaohjanidaaGreatDoorH16
set_option linter.unusedVariables false
set_option linter.unusedSimpArgs false
namespace Go.Proofs.YtiigdaohjanidaaGreatDoor.K
open Go Go.AM Go.Proofs
set_option maxRecDepth 100000
def pV : List V:= [.p (.agg [.list false [.str [72,117,98]],.list true [],.list false [.agg [.str [97],.int .i64 (1),.int .i64 (0),.int .i64 (0),.list false [.int .i64 (5)],.int .i64 (0),.int .i64 (0),.int .i64 (0),.int .i64 (100),.int .i64 (50),.int .i64 (0),.int .i64 (0),.int .i64 (0),.int .i64 (0)]],.list false [.agg [.str [111],.list false [.int .i64 (1)],.int .i64 (-1),.int .i64 (0),.int .i64 (0),.int .i64 (0),.int .i64 (0),.int .i64 (0),.int .i64 (90),.int .i64 (0),.int .i64 (0),.int .i64 (50),.int .i64 (1),.int .i64 (0),.int .i64 (-1),.bool false]],.list true [],.list true []]),.p (.int .i64 (0)),.p (.int .i64 (1))]
def qN : V:= .tup [.p (.agg [.int .i64 (0),.int .i64 (1),.int .i64 (0),.int .i64 (0),.int .i64 (0),.list true [],.list false [.agg [.int .i64 (0),.bool true]]]),.p (.int .i64 (0))]
theorem Zfk : ACalls Tryz.prog 131 pV [] fun y H'=>y=qN/\H'= []:=X4 { kp:= [58,312,91,35],lh:= [101],fa:= [37,237,164],kn:=CTk15 } 60 mixed Zd qE
def CTk16 : List (FuncId×List V×V):=(131,pV,qN)::CTk15
theorem qF : KnL Tryz.prog CTk16:=KnL.cons Zfk rfl (fun n=>rfl) qE
def pW : List V:= [.p (.agg [.list false [.str [72,117,98]],.list true [],.list false [.agg [.str [97],.int .i64 (1),.int .i64 (0),.int .i64 (0),.list false [.int .i64 (5)],.int .i64 (0),.int .i64 (0),.int .i64 (0),.int .i64 (100),.int .i64 (50),.int .i64 (0),.int .i64 (0),.int .i64 (0),.int .i64 (0)]],.list false [.agg [.str [111],.list false [.int .i64 (1)],.int .i64 (-1),.int .i64 (0),.int .i64 (0),.int .i64 (0),.int .i64 (0),.int .i64 (0),.int .i64 (90),.int .i64 (0),.int .i64 (0),.int .i64 (50),.int .i64 (1),.int .i64 (0),.int .i64 (-1),.bool false]],.list true [],.list true []])]
def qO : V:= .tup [.p (.list false [.agg [.int .i64 (0),.int .i64 (1),.int .i64 (0),.int .i64 (0),.int .i64 (0),.list true [],.list false [.agg [.int .i64 (0),.bool true]]]]),.p (.int .i64 (0))]
theorem Zfl : ACalls Tryz.prog 80 pW [] fun y H'=>y=qO/\H'= []:=X4 { kp:= [58,312,91,35],lh:= [101],fa:= [37,237,164],kn:=CTk16 } 60 mixed Zd qF
def CTk17 : List (FuncId×List V×V):=(80,pW,qO)::CTk16
theorem qG : KnL Tryz.prog CTk17:=KnL.cons Zfl rfl (fun n=>rfl) qF
def pX : List V:= [.p (.agg [.list false [.str [72,117,98]],.list true [],.list false [.agg [.str [97],.int .i64 (1),.int .i64 (0),.int .i64 (0),.list false [.int .i64 (5)],.int .i64 (0),.int .i64 (0),.int .i64 (0),.int .i64 (100),.int .i64 (50),.int .i64 (0),.int .i64 (0),.int .i64 (0),.int .i64 (0)]],.list false [.agg [.str [111],.list false [.int .i64 (1)],.int .i64 (-1),.int .i64 (0),.int .i64 (0),.int .i64 (0),.int .i64 (0),.int .i64 (0),.int .i64 (90),.int .i64 (0),.int .i64 (0),.int .i64 (50),.int .i64 (1),.int .i64 (0),.int .i64 (-1),.bool false]],.list true [],.list true []]),.p (.list false [.agg [.int .i64 (0),.int .i64 (1),.int .i64 (0),.int .i64 (0),.int .i64 (0),.list true [],.list false [.agg [.int .i64 (0),.bool true]]]])]
def qP : V:= .tup [.p (.agg [.list false [.agg [.int .i64 (0),.int .i64 (0),.list true [],.list false [.agg [.int .i64 (0),.bool true]]]],.list true []]),.p (.int .i64 (0)),.p (.int .i64 (0))]
theorem Zfm : ACalls Tryz.prog 64 pX [] fun y H'=>y=qP/\H'= []:=X4 { kp:= [58,312,91,35],lh:= [101],fa:= [37,237,164],kn:=CTk17 } 60 mixed Zd qG
def CTk18 : List (FuncId×List V×V):=(64,pX,qP)::CTk17
theorem qH : KnL Tryz.prog CTk18:=KnL.cons Zfm rfl (fun n=>rfl) qG
def pY : List V:= [.p (.agg [.list false [.str [72,117,98]],.list true [],.list false [.agg [.str [97],.int .i64 (1),.int .i64 (0),.int .i64 (0),.list false [.int .i64 (5)],.int .i64 (0),.int .i64 (0),.int .i64 (0),.int .i64 (100),.int .i64 (50),.int .i64 (0),.int .i64 (0),.int .i64 (0),.int .i64 (0)]],.list false [.agg [.str [111],.list false [.int .i64 (1)],.int .i64 (-1),.int .i64 (0),.int .i64 (0),.int .i64 (0),.int .i64 (0),.int .i64 (0),.int .i64 (90),.int .i64 (0),.int .i64 (0),.int .i64 (50),.int .i64 (1),.int .i64 (0),.int .i64 (-1),.bool false]],.list true [],.list true []])]
def qQ : V:= .tup [.p (.agg [.list false [.agg [.int .i64 (0),.int .i64 (0),.list true [],.list false [.agg [.int .i64 (0),.bool true]]]],.list true []]),.p (.int .i64 (0)),.p (.int .i64 (0))]
theorem Zfn : ACalls Tryz.prog 37 pY [] fun y H'=>y=qQ/\H'= []:=X4 { kp:= [58,312,91,35],lh:= [101],fa:= [37,237,164],kn:=CTk18 } 60 mixed Zd qH
def CTk19 : List (FuncId×List V×V):=(37,pY,qQ)::CTk18
theorem ZeW : KnL Tryz.prog CTk19:=KnL.cons Zfn rfl (fun n=>rfl) qH
theorem Rq : PC 10 [] (.bool true) :=
 hK { kp:= [58,312,91,35],lh:= [101],fa:= [37,237,164],kn:=CTk19 } 60 mixed Zd ZeW
end Go.Proofs.YtiigdaohjanidaaGreatDoor.K
