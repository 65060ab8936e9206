/- Declarations that the closing texts need, part 6: joined by tools/slim.py. -/
import Derived.Test.YthmplgaldjpgiaaGreatDoorZ5
import Derived.KernelRfl
namespace Go.Proofs.YthmplgaldjpgiaaGreatDoor.K
open Go Go.AM Go.Proofs
abbrev PC (f:FuncId) (a:List V) (y:PV):=ACalls Tryz.prog f a [] fun x H'=>x= .p y/\H'= []
abbrev PT (f:FuncId) (a:List V) (b:List V):=ACalls Tryz.prog f a [] fun x H'=>x= .tup b/\H'= []
theorem kf {α:Type} {a b:α} (h:a=b:=by kernel_rfl):a=b:=Eq.trans h rfl
@[go_sem] theorem ZE5 : Tryz.prog.underlying 3=some (.int .i64):=kf
@[go_sem] theorem ZE7 : tsz Tryz.prog 3=some 1:=kf
@[go_sem] theorem ZEK : XJ Tryz.prog 3=some false:=kf
@[go_sem] theorem ZzV : ZK Tryz.prog 3=some [.int .i64 0]:=kf
@[go_sem] theorem ZE6 : Tryz.prog.underlying 4=some .bool:=kf
@[go_sem] theorem ZE4 : tsz Tryz.prog 4=some 1:=kf
@[go_sem] theorem ZE0 : XJ Tryz.prog 4=some false:=kf
@[go_sem] theorem ZE9 : Tryz.prog.underlying 5=some (.int .u8):=kf
@[go_sem] theorem ZE2 : tsz Tryz.prog 5=some 1:=kf
@[go_sem] theorem ZEm : XJ Tryz.prog 5=some false:=kf
@[go_sem] theorem ZE8 : Tryz.prog.underlying 9=some .string:=kf
@[go_sem] theorem ZE3 : tsz Tryz.prog 9=some 1:=kf
@[go_sem] theorem ZEe : XJ Tryz.prog 9=some false:=kf
@[go_sem] theorem ZEq : Tryz.prog.underlying 22=some (.slice 9):=kf
@[go_sem] theorem ZD1 : tsz Tryz.prog 22=some 1:=kf
@[go_sem] theorem ZB3 : XJ Tryz.prog 22=some false:=kf
@[go_sem] theorem ZC7 : Y1 Tryz.prog 22=some (none,1):=kf
@[go_sem] theorem ZDE : QI Tryz.prog 22=some 1:=kf
@[go_sem] theorem ZEu : Tryz.prog.underlying 23=some (.slice 194):=kf
@[go_sem] theorem ZDO : tsz Tryz.prog 23=some 1:=kf
@[go_sem] theorem ZCS : XJ Tryz.prog 23=some false:=kf
@[go_sem] theorem ZDF : Y1 Tryz.prog 23=some (none,6):=kf
@[go_sem] theorem ZEY : tsz Tryz.prog 25=some 2:=kf
@[go_sem] theorem ZC3 : XJ Tryz.prog 25=some true:=kf
@[go_sem] theorem Zxv : ZW Tryz.prog 25 0=some 0:=kf
@[go_sem] theorem Zww : ZW Tryz.prog 25 1=some 1:=kf
@[go_sem] theorem ZEV : tpl Tryz.prog 25=some (plL [(0,1),(1,1)]):=kf
@[go_sem] theorem ZvU : ZK Tryz.prog 25=some [.list true [],.list true []]:=kf
@[go_sem] theorem ZE1 : Tryz.prog.underlying 26=some (.slice 93):=kf
@[go_sem] theorem ZEt : tsz Tryz.prog 26=some 1:=kf
@[go_sem] theorem ZC5 : XJ Tryz.prog 26=some false:=kf
@[go_sem] theorem ZDf : Y1 Tryz.prog 26=some (none,14):=kf
@[go_sem] theorem ZCL : QI Tryz.prog 26=some 14:=kf
@[go_sem] theorem ZDV : Tryz.prog.underlying 27=some (.slice 68):=kf
@[go_sem] theorem ZEH : tsz Tryz.prog 27=some 1:=kf
@[go_sem] theorem ZCe : XJ Tryz.prog 27=some false:=kf
@[go_sem] theorem ZCY : Y1 Tryz.prog 27=some (none,16):=kf
@[go_sem] theorem ZCj : QI Tryz.prog 27=some 16:=kf
@[go_sem] theorem Ztz : ZbZ Tryz.prog 27=some (16,152):=kf
@[go_sem] theorem Zxx (H:List AM.Obj) (u:TypeId) (o n:Nat) (y:V):Uh Tryz.prog H 27 u (.sl o 0 n n) y=JS H (some (16,152)) (oat H o) o n (Ys (Tryz.prog.underlying u) H y):=Xz Ztz
@[go_sem] theorem ZEd : Tryz.prog.underlying 28=some (.slice 202):=kf
@[go_sem] theorem ZET : tsz Tryz.prog 28=some 1:=kf
@[go_sem] theorem ZDi : XJ Tryz.prog 28=some false:=kf
@[go_sem] theorem ZDd : Y1 Tryz.prog 28=some (none,2):=kf
@[go_sem] theorem ZD8 : tsz Tryz.prog 30=some 6:=kf
@[go_sem] theorem ZDB : XJ Tryz.prog 30=some true:=kf
@[go_sem] theorem ZwK : ZW Tryz.prog 30 0=some 0:=kf
@[go_sem] theorem ZxI : ZW Tryz.prog 30 1=some 2:=kf
@[go_sem] theorem Zxh : ZW Tryz.prog 30 2=some 3:=kf
@[go_sem] theorem ZwJ : ZW Tryz.prog 30 3=some 4:=kf
@[go_sem] theorem Zxi : ZW Tryz.prog 30 4=some 5:=kf
@[go_sem] theorem ZEG : tpl Tryz.prog 30=some (plL [(0,2),(2,1),(3,1),(4,1),(5,1)]):=kf
@[go_sem] theorem Zxa : ZK Tryz.prog 30=some [.list true [],.list true [],.list true [],.list true [],.list true [],.list true []]:=kf
@[go_sem] theorem ZEL : Tryz.prog.underlying 33=some (.slice 45):=kf
@[go_sem] theorem ZEQ : tsz Tryz.prog 33=some 1:=kf
@[go_sem] theorem ZDu : XJ Tryz.prog 33=some false:=kf
@[go_sem] theorem ZBy : Y1 Tryz.prog 33=some (none,4):=kf
@[go_sem] theorem ZDx : QI Tryz.prog 33=some 4:=kf
@[go_sem] theorem Zp5 : ZbZ Tryz.prog 33=some (4,64):=kf
@[go_sem] theorem Zwn (H:List AM.Obj) (u:TypeId) (o n:Nat) (y:V):Uh Tryz.prog H 33 u (.sl o 0 n n) y=JS H (some (4,64)) (oat H o) o n (Ys (Tryz.prog.underlying u) H y):=Xz Zp5
@[go_sem] theorem ZDN : Tryz.prog.underlying 34=some (.slice 3):=kf
@[go_sem] theorem ZEB : tsz Tryz.prog 34=some 1:=kf
@[go_sem] theorem ZBZ : XJ Tryz.prog 34=some false:=kf
@[go_sem] theorem ZCK : Y1 Tryz.prog 34=some (none,1):=kf
@[go_sem] theorem ZB8 : QI Tryz.prog 34=some 1:=kf
@[go_sem] theorem ZrG : ZbZ Tryz.prog 34=some (1,8):=kf
@[go_sem] theorem ZwW (H:List AM.Obj) (u:TypeId) (o n:Nat) (y:V):Uh Tryz.prog H 34 u (.sl o 0 n n) y=JS H (some (1,8)) (oat H o) o n (Ys (Tryz.prog.underlying u) H y):=Xz ZrG
@[go_sem] theorem Zox : Zkk Tryz.prog 34=some (1,8,.int .i64 0):=kf
@[go_sem] theorem ZDP (H:List AM.Obj) (fr:List V) (x y:Operand):W5 Tryz.prog (.makeSlice 34 x y) fr H=Vh (some (1,8,.int .i64 0)) H (ev fr x) (ev fr y):=Kj Zox
@[go_sem] theorem Zwz : ZK Tryz.prog 34=some [.list true []]:=kf
@[go_sem] theorem ZEv : tsz Tryz.prog 36=some 2:=kf
@[go_sem] theorem ZBL : XJ Tryz.prog 36=some true:=kf
@[go_sem] theorem ZxK : ZW Tryz.prog 36 0=some 0:=kf
@[go_sem] theorem ZvR : ZW Tryz.prog 36 1=some 1:=kf
@[go_sem] theorem ZEr : tpl Tryz.prog 36=some (plL [(0,1),(1,1)]):=kf
@[go_sem] theorem Zw7 : ZK Tryz.prog 36=some [.list true [],.list true []]:=kf
@[go_sem] theorem ZEy : tsz Tryz.prog 37=some 1:=kf
@[go_sem] theorem ZB1 : XJ Tryz.prog 37=some false:=kf
@[go_sem] theorem ZEf : Tryz.prog.underlying 42=some (.slice 4):=kf
@[go_sem] theorem ZDR : tsz Tryz.prog 42=some 1:=kf
@[go_sem] theorem ZCa : XJ Tryz.prog 42=some false:=kf
@[go_sem] theorem ZC1 : Y1 Tryz.prog 42=some (none,1):=kf
@[go_sem] theorem ZC6 : QI Tryz.prog 42=some 1:=kf
@[go_sem] theorem Zoy : Zkk Tryz.prog 42=some (1,1,.bool false):=kf
@[go_sem] theorem ZEh (H:List AM.Obj) (fr:List V) (x y:Operand):W5 Tryz.prog (.makeSlice 42 x y) fr H=Vh (some (1,1,.bool false)) H (ev fr x) (ev fr y):=Kj Zoy
@[go_sem] theorem ZEP : Tryz.prog.underlying 43=some (.slice 126):=kf
@[go_sem] theorem ZEX : tsz Tryz.prog 43=some 1:=kf
@[go_sem] theorem ZCf : XJ Tryz.prog 43=some false:=kf
@[go_sem] theorem ZBR : Y1 Tryz.prog 43=some (none,2):=kf
@[go_sem] theorem ZBO : QI Tryz.prog 43=some 2:=kf
@[go_sem] theorem ZlS : ZbZ Tryz.prog 43=some (2,16):=kf
@[go_sem] theorem ZvQ (H:List AM.Obj) (u:TypeId) (o n:Nat) (y:V):Uh Tryz.prog H 43 u (.sl o 0 n n) y=JS H (some (2,16)) (oat H o) o n (Ys (Tryz.prog.underlying u) H y):=Xz ZlS
@[go_sem] theorem ZEo : tsz Tryz.prog 45=some 4:=kf
@[go_sem] theorem ZDy : XJ Tryz.prog 45=some true:=kf
@[go_sem] theorem Zv3 : ZW Tryz.prog 45 0=some 0:=kf
@[go_sem] theorem ZwO : ZW Tryz.prog 45 1=some 1:=kf
@[go_sem] theorem Zxw : ZW Tryz.prog 45 2=some 2:=kf
@[go_sem] theorem Zxo : ZW Tryz.prog 45 3=some 3:=kf
@[go_sem] theorem ZEa : tpl Tryz.prog 45=some (plL [(0,1),(1,1),(2,1),(3,1)]):=kf
@[go_sem] theorem Zwj : ZK Tryz.prog 45=some [.int .i64 0,.int .i64 0,.list true [],.list true []]:=kf
@[go_sem] theorem ZDM : Tryz.prog.underlying 50=some (.slice 135):=kf
@[go_sem] theorem ZDD : Y1 Tryz.prog 50=some (none,2):=kf
@[go_sem] theorem ZCm : QI Tryz.prog 50=some 2:=kf
@[go_sem] theorem Zlz : ZbZ Tryz.prog 50=some (2,24):=kf
@[go_sem] theorem ZvB (H:List AM.Obj) (u:TypeId) (y:V):Uh Tryz.prog H 50 u (.p (.list true [])) y=ZpA H (some (2,24)) (Ys (Tryz.prog.underlying u) H y):=ZeK Zlz
@[go_sem] theorem ZvF (H:List AM.Obj) (u:TypeId) (o n:Nat) (y:V):Uh Tryz.prog H 50 u (.sl o 0 n n) y=JS H (some (2,24)) (oat H o) o n (Ys (Tryz.prog.underlying u) H y):=Xz Zlz
@[go_sem] theorem ZEW : Tryz.prog.underlying 52=some (.slice 58):=kf
@[go_sem] theorem ZDQ : tsz Tryz.prog 52=some 1:=kf
@[go_sem] theorem ZCH : XJ Tryz.prog 52=some false:=kf
@[go_sem] theorem ZDk : Y1 Tryz.prog 52=some (none,7):=kf
@[go_sem] theorem ZCg : QI Tryz.prog 52=some 7:=kf
@[go_sem] theorem Zty : ZbZ Tryz.prog 52=some (7,88):=kf
@[go_sem] theorem Zwd (H:List AM.Obj) (u:TypeId) (o n:Nat) (y:V):Uh Tryz.prog H 52 u (.sl o 0 n n) y=JS H (some (7,88)) (oat H o) o n (Ys (Tryz.prog.underlying u) H y):=Xz Zty
@[go_sem] theorem ZEM : tsz Tryz.prog 58=some 7:=kf
@[go_sem] theorem ZCP : XJ Tryz.prog 58=some true:=kf
@[go_sem] theorem Zxl : ZW Tryz.prog 58 0=some 0:=kf
@[go_sem] theorem ZxB : ZW Tryz.prog 58 1=some 1:=kf
@[go_sem] theorem Zws : ZW Tryz.prog 58 2=some 2:=kf
@[go_sem] theorem Zxf : ZW Tryz.prog 58 3=some 3:=kf
@[go_sem] theorem ZDW : tpl Tryz.prog 58=some (plL [(0,1),(1,1),(2,1),(3,4)]):=kf
@[go_sem] theorem Zw3 : ZK Tryz.prog 58=some [.int .i64 0,.int .i64 0,.int .i64 0,.int .i64 0,.int .i64 0,.list true [],.list true []]:=kf
@[go_sem] theorem ZES : tsz Tryz.prog 61=some 1:=kf
@[go_sem] theorem ZBM : XJ Tryz.prog 61=some false:=kf
@[go_sem] theorem ZDL : tsz Tryz.prog 66=some 4:=kf
@[go_sem] theorem ZCQ : XJ Tryz.prog 66=some true:=kf
@[go_sem] theorem Zwt : ZW Tryz.prog 66 0=some 0:=kf
@[go_sem] theorem ZwQ : ZW Tryz.prog 66 1=some 1:=kf
@[go_sem] theorem ZwA : ZW Tryz.prog 66 2=some 2:=kf
@[go_sem] theorem ZxY : ZW Tryz.prog 66 3=some 3:=kf
@[go_sem] theorem ZDS : tpl Tryz.prog 66=some (plL [(0,1),(1,1),(2,1),(3,1)]):=kf
@[go_sem] theorem Zx3 : ZK Tryz.prog 66=some [.int .i64 0,.int .i64 0,.int .i64 0,.int .i64 0]:=kf
@[go_sem] theorem ZER : tsz Tryz.prog 68=some 16:=kf
@[go_sem] theorem ZCO : XJ Tryz.prog 68=some true:=kf
@[go_sem] theorem ZvX : ZW Tryz.prog 68 0=some 0:=kf
@[go_sem] theorem Zx2 : ZW Tryz.prog 68 1=some 1:=kf
@[go_sem] theorem Zxp : ZW Tryz.prog 68 2=some 2:=kf
@[go_sem] theorem Zv9 : ZW Tryz.prog 68 3=some 6:=kf
@[go_sem] theorem Zw2 : ZW Tryz.prog 68 4=some 10:=kf
@[go_sem] theorem ZwL : ZW Tryz.prog 68 5=some 11:=kf
@[go_sem] theorem ZxL : ZW Tryz.prog 68 6=some 12:=kf
@[go_sem] theorem ZvL : ZW Tryz.prog 68 7=some 13:=kf
@[go_sem] theorem Zvt : ZW Tryz.prog 68 8=some 14:=kf
@[go_sem] theorem ZwT : ZW Tryz.prog 68 9=some 15:=kf
@[go_sem] theorem ZEn : tpl Tryz.prog 68=some (plL [(0,1),(1,1),(2,4),(6,4),(10,1),(11,1),(12,1),(13,1),(14,1),(15,1)]):=kf
@[go_sem] theorem Zv1 : ZK Tryz.prog 68=some [.str [],.list true [],.int .i64 0,.int .i64 0,.int .i64 0,.int .i64 0,.int .i64 0,.int .i64 0,.int .i64 0,.int .i64 0,.int .i64 0,.int .i64 0,.int .i64 0,.int .i64 0,.int .i64 0,.bool false]:=kf
@[go_sem] theorem ZEb : tsz Tryz.prog 71=some 4:=kf
@[go_sem] theorem ZBQ : XJ Tryz.prog 71=some true:=kf
@[go_sem] theorem Zwa : ZW Tryz.prog 71 0=some 0:=kf
@[go_sem] theorem Zxy : ZW Tryz.prog 71 1=some 1:=kf
@[go_sem] theorem ZwM : ZW Tryz.prog 71 2=some 2:=kf
@[go_sem] theorem ZxQ : ZW Tryz.prog 71 3=some 3:=kf
@[go_sem] theorem ZEl : tpl Tryz.prog 71=some (plL [(0,1),(1,1),(2,1),(3,1)]):=kf
@[go_sem] theorem Zxm : ZK Tryz.prog 71=some [.int .i64 0,.int .i64 0,.int .i64 0,.int .i64 0]:=kf
@[go_sem] theorem ZD3 : tsz Tryz.prog 93=some 14:=kf
@[go_sem] theorem ZBK : XJ Tryz.prog 93=some true:=kf
@[go_sem] theorem Zw4 : ZW Tryz.prog 93 0=some 0:=kf
@[go_sem] theorem Zxq : ZW Tryz.prog 93 1=some 1:=kf
@[go_sem] theorem Zv6 : ZW Tryz.prog 93 2=some 2:=kf
@[go_sem] theorem ZvI : ZW Tryz.prog 93 3=some 3:=kf
@[go_sem] theorem ZvK : ZW Tryz.prog 93 4=some 4:=kf
@[go_sem] theorem ZwR : ZW Tryz.prog 93 5=some 5:=kf
@[go_sem] theorem Zwh : ZW Tryz.prog 93 6=some 6:=kf
@[go_sem] theorem ZvH : ZW Tryz.prog 93 7=some 7:=kf
@[go_sem] theorem Zwr : ZW Tryz.prog 93 8=some 8:=kf
@[go_sem] theorem Zwv : ZW Tryz.prog 93 9=some 9:=kf
@[go_sem] theorem ZsU : ZW Tryz.prog 93 10=some 10:=kf
@[go_sem] theorem ZqX : ZW Tryz.prog 93 11=some 11:=kf
@[go_sem] theorem Zr2 : ZW Tryz.prog 93 12=some 12:=kf
@[go_sem] theorem Zqh : ZW Tryz.prog 93 13=some 13:=kf
@[go_sem] theorem ZED : tpl Tryz.prog 93=some (plL [(0,1),(1,1),(2,1),(3,1),(4,1),(5,1),(6,1),(7,1),(8,1),(9,1),(10,1),(11,1),(12,1),(13,1)]):=kf
@[go_sem] theorem Zvy : ZK Tryz.prog 93=some [.str [],.int .i64 0,.int .i64 0,.int .i64 0,.list true [],.int .i64 0,.int .i64 0,.int .i64 0,.int .i64 0,.int .i64 0,.int .i64 0,.int .i64 0,.int .i64 0,.int .i64 0]:=kf
@[go_sem] theorem ZBC : Y1 Tryz.prog 97=some ((some 6),1):=kf
@[go_sem] theorem ZEC : tsz Tryz.prog 99=some 8:=kf
@[go_sem] theorem ZCx : XJ Tryz.prog 99=some true:=kf
@[go_sem] theorem ZvV : ZW Tryz.prog 99 0=some 0:=kf
@[go_sem] theorem Zxs : ZW Tryz.prog 99 1=some 1:=kf
@[go_sem] theorem Zxr : ZW Tryz.prog 99 2=some 2:=kf
@[go_sem] theorem ZEp : tpl Tryz.prog 99=some (plL [(0,1),(1,1),(2,6)]):=kf
@[go_sem] theorem Zvr : ZK Tryz.prog 99=some [.int .i64 0,.int .i64 0,.int .i64 0,.int .i64 0,.int .i64 0,.int .i64 0,.int .i64 0,.int .i64 0]:=kf
@[go_sem] theorem ZDA : Tryz.prog.underlying 113=some (.slice 298):=kf
@[go_sem] theorem ZDH : tsz Tryz.prog 113=some 1:=kf
@[go_sem] theorem Zyd : XJ Tryz.prog 113=some false:=kf
@[go_sem] theorem Zz3 : Y1 Tryz.prog 113=some (none,4):=kf
@[go_sem] theorem ZAo : QI Tryz.prog 113=some 4:=kf
@[go_sem] theorem ZmY : ZbZ Tryz.prog 113=some (4,32):=kf
@[go_sem] theorem ZsF (H:List AM.Obj) (u:TypeId) (o n:Nat) (y:V):Uh Tryz.prog H 113 u (.sl o 0 n n) y=JS H (some (4,32)) (oat H o) o n (Ys (Tryz.prog.underlying u) H y):=Xz ZmY
@[go_sem] theorem ZDG : tsz Tryz.prog 115=some 5:=kf
@[go_sem] theorem ZzO : XJ Tryz.prog 115=some true:=kf
@[go_sem] theorem ZrX : ZW Tryz.prog 115 0=some 0:=kf
@[go_sem] theorem Zql : ZW Tryz.prog 115 1=some 1:=kf
@[go_sem] theorem ZuA : ZW Tryz.prog 115 2=some 2:=kf
@[go_sem] theorem Zu2 : ZW Tryz.prog 115 3=some 3:=kf
@[go_sem] theorem ZrN : ZW Tryz.prog 115 4=some 4:=kf
@[go_sem] theorem ZC9 : tpl Tryz.prog 115=some (plL [(0,1),(1,1),(2,1),(3,1),(4,1)]):=kf
@[go_sem] theorem Zqd : ZK Tryz.prog 115=some [.bool false,.int .i64 0,.list true [],.int .i64 0,.int .i64 0]:=kf
@[go_sem] theorem ZCD : Tryz.prog.underlying 121=some (.array 4 3):=kf
@[go_sem] theorem ZBx : tsz Tryz.prog 121=some 4:=kf
@[go_sem] theorem Zzs : XJ Tryz.prog 121=some true:=kf
@[go_sem] theorem ZzT : Y1 Tryz.prog 121=some ((some 4),1):=kf
@[go_sem] theorem ZBE : tpl Tryz.prog 121=some (plA 1):=kf
@[go_sem] theorem Zvm : ZK Tryz.prog 121=some [.int .i64 0,.int .i64 0,.int .i64 0,.int .i64 0]:=kf
@[go_sem] theorem ZCc : tsz Tryz.prog 126=some 2:=kf
@[go_sem] theorem Zzz : XJ Tryz.prog 126=some true:=kf
@[go_sem] theorem Zqy : ZW Tryz.prog 126 0=some 0:=kf
@[go_sem] theorem Zs6 : ZW Tryz.prog 126 1=some 1:=kf
@[go_sem] theorem ZjU : Tryz.prog.stoodInHeld 126=false:=kf
@[go_sem] theorem ZCv : tpl Tryz.prog 126=some (plL [(0,1),(1,1)]):=kf
@[go_sem] theorem ZCM (d:Nat) (a b:List PV):ZiV Tryz.prog d 126 (Tryz.prog.underlying 126) (.agg a) (.agg b)=ZiM (eqP (UF Tryz.prog d 3) (apart Tryz.prog 3 a 0) (apart Tryz.prog 3 b 0)) (ZiM (eqP (UF Tryz.prog d 4) (apart Tryz.prog 4 a 1) (apart Tryz.prog 4 b 1)) (some true)):=by rw [Tryz.underlying126,Vj ZjU];simp [QY,ZaU]
@[go_sem] theorem ZBW : Tryz.prog.eqGuardType Tryz.prog.depth 126=false:=kf
@[go_sem] theorem Zrb : ZK Tryz.prog 126=some [.int .i64 0,.bool false]:=kf
@[go_sem] theorem ZCb : Tryz.prog.underlying 133=some (.int .u64):=kf
@[go_sem] theorem Zsp : ZW Tryz.prog 135 0=some 0:=kf
@[go_sem] theorem Zqa : ZW Tryz.prog 135 1=some 1:=kf
@[go_sem] theorem ZCw : tpl Tryz.prog 135=some (plL [(0,1),(1,1)]):=kf
@[go_sem] theorem Zub : ZK Tryz.prog 135=some [.int .i64 0,.str []]:=kf
@[go_sem] theorem ZB4 : Tryz.prog.underlying 138=some (.slice 37):=kf
@[go_sem] theorem ZBm : Y1 Tryz.prog 138=some (none,1):=kf
@[go_sem] theorem Zyf : QI Tryz.prog 138=some 1:=kf
@[go_sem] theorem Zn4 : ZbZ Tryz.prog 138=some (1,8):=kf
@[go_sem] theorem ZpY (H:List AM.Obj) (u:TypeId) (o n:Nat) (y:V):Uh Tryz.prog H 138 u (.sl o 0 n n) y=JS H (some (1,8)) (oat H o) o n (Ys (Tryz.prog.underlying u) H y):=Xz Zn4
@[go_sem] theorem ZBN : tsz Tryz.prog 143=some 1:=kf
@[go_sem] theorem Zzc : XJ Tryz.prog 143=some false:=kf
@[go_sem] theorem ZCI : tsz Tryz.prog 145=some 1:=kf
@[go_sem] theorem ZAr : XJ Tryz.prog 145=some false:=kf
@[go_sem] theorem ZBv : Y1 Tryz.prog 145=some (none,1):=kf
@[go_sem] theorem Zsk : ZW Tryz.prog 147 0=some 0:=kf
@[go_sem] theorem ZsP : ZW Tryz.prog 147 1=some 6:=kf
@[go_sem] theorem Zqw : ZW Tryz.prog 147 2=some 7:=kf
@[go_sem] theorem Ztk : ZW Tryz.prog 147 3=some 8:=kf
@[go_sem] theorem ZrV : ZW Tryz.prog 147 4=some 9:=kf
@[go_sem] theorem ZCX : tpl Tryz.prog 147=some (plL [(0,6),(6,1),(7,1),(8,1),(9,1)]):=kf
@[go_sem] theorem ZsL : ZK Tryz.prog 147=some [.list true [],.list true [],.list true [],.list true [],.list true [],.list true [],.list true [],.list true [],.nilm,.int .i64 0]:=kf
@[go_sem] theorem ZqD : ZW Tryz.prog 159 0=some 0:=kf
@[go_sem] theorem ZtD : ZW Tryz.prog 159 1=some 6:=kf
@[go_sem] theorem ZrI : ZW Tryz.prog 159 2=some 7:=kf
@[go_sem] theorem ZsZ : ZW Tryz.prog 159 3=some 8:=kf
@[go_sem] theorem Zsh : ZW Tryz.prog 159 4=some 9:=kf
@[go_sem] theorem Zs0 : ZW Tryz.prog 159 5=some 16:=kf
@[go_sem] theorem ZBS : tpl Tryz.prog 159=some (plL [(0,6),(6,1),(7,1),(8,1),(9,7),(16,1)]):=kf
@[go_sem] theorem Zrm : ZK Tryz.prog 159=some [.list true [],.list true [],.list true [],.list true [],.list true [],.list true [],.int .i64 0,.int .i64 0,.int .i64 0,.int .i64 0,.int .i64 0,.int .i64 0,.int .i64 0,.int .i64 0,.list true [],.list true [],.bool false]:=kf
@[go_sem] theorem ZDC : Tryz.prog.underlying 163=some (.slice 225):=kf
@[go_sem] theorem ZA4 : Y1 Tryz.prog 163=some (none,2):=kf
@[go_sem] theorem ZzD : QI Tryz.prog 163=some 2:=kf
@[go_sem] theorem Zip : ZbZ Tryz.prog 163=some (2,16):=kf
@[go_sem] theorem ZuX (H:List AM.Obj) (u:TypeId) (y:V):Uh Tryz.prog H 163 u (.p (.list true [])) y=ZpA H (some (2,16)) (Ys (Tryz.prog.underlying u) H y):=ZeK Zip
@[go_sem] theorem ZuM (H:List AM.Obj) (u:TypeId) (o n:Nat) (y:V):Uh Tryz.prog H 163 u (.sl o 0 n n) y=JS H (some (2,16)) (oat H o) o n (Ys (Tryz.prog.underlying u) H y):=Xz Zip
@[go_sem] theorem ZCo : Tryz.prog.underlying 173=some (.slice 61):=kf
@[go_sem] theorem Zzu : Y1 Tryz.prog 173=some (none,1):=kf
@[go_sem] theorem ZAk : QI Tryz.prog 173=some 1:=kf
@[go_sem] theorem ZCW : Tryz.prog.underlying 192=some (.slice 197):=kf
@[go_sem] theorem ZCs : tsz Tryz.prog 192=some 1:=kf
@[go_sem] theorem ZzW : XJ Tryz.prog 192=some false:=kf
@[go_sem] theorem Zz5 : Y1 Tryz.prog 192=some (none,2):=kf
@[go_sem] theorem ZDo : tsz Tryz.prog 194=some 6:=kf
@[go_sem] theorem ZAq : XJ Tryz.prog 194=some true:=kf
@[go_sem] theorem Zu4 : ZW Tryz.prog 194 0=some 0:=kf
@[go_sem] theorem Zuc : ZW Tryz.prog 194 1=some 1:=kf
@[go_sem] theorem Zvj : ZW Tryz.prog 194 2=some 2:=kf
@[go_sem] theorem ZuT : ZW Tryz.prog 194 3=some 3:=kf
@[go_sem] theorem Zr8 : ZW Tryz.prog 194 4=some 4:=kf
@[go_sem] theorem Zqf : ZW Tryz.prog 194 5=some 5:=kf
@[go_sem] theorem ZDK : tpl Tryz.prog 194=some (plL [(0,1),(1,1),(2,1),(3,1),(4,1),(5,1)]):=kf
@[go_sem] theorem ZtF : ZK Tryz.prog 194=some [.int .i64 0,.int .i64 0,.int .i64 0,.int .i64 0,.list true [],.list true []]:=kf
@[go_sem] theorem ZB7 : tsz Tryz.prog 197=some 2:=kf
@[go_sem] theorem Zyv : XJ Tryz.prog 197=some true:=kf
@[go_sem] theorem ZpT : ZW Tryz.prog 197 0=some 0:=kf
@[go_sem] theorem Zqr : ZW Tryz.prog 197 1=some 1:=kf
@[go_sem] theorem Zqs : ZK Tryz.prog 197=some [.int .i64 0,.int .i64 0]:=kf
@[go_sem] theorem ZBU : Tryz.prog.underlying 200=some (.slice 5):=kf
@[go_sem] theorem ZzF : QI Tryz.prog 200=some 1:=kf
@[go_sem] theorem ZDl : tsz Tryz.prog 202=some 2:=kf
@[go_sem] theorem ZAW : XJ Tryz.prog 202=some true:=kf
@[go_sem] theorem ZBn : Y1 Tryz.prog 202=some ((some 2),1):=kf
@[go_sem] theorem Zqj : ZK Tryz.prog 202=some [.int .i64 0,.int .i64 0]:=kf
@[go_sem] theorem ZDw : tsz Tryz.prog 207=some 2:=kf
@[go_sem] theorem ZAu : XJ Tryz.prog 207=some true:=kf
@[go_sem] theorem ZBI : tpl Tryz.prog 207=some (plL [(0,1),(1,1)]):=kf
@[go_sem] theorem ZuS : ZK Tryz.prog 207=some [.int .i64 0,.int .i64 0]:=kf
@[go_sem] theorem ZDq : tsz Tryz.prog 225=some 2:=kf
@[go_sem] theorem ZAv : XJ Tryz.prog 225=some true:=kf
@[go_sem] theorem Zvf : ZW Tryz.prog 225 0=some 0:=kf
@[go_sem] theorem Zqq : ZW Tryz.prog 225 1=some 1:=kf
@[go_sem] theorem Zjr : Tryz.prog.stoodInHeld 225=false:=kf
@[go_sem] theorem ZBJ : tpl Tryz.prog 225=some (plL [(0,1),(1,1)]):=kf
@[go_sem] theorem ZB0 (d:Nat) (a b:List PV):ZiV Tryz.prog d 225 (Tryz.prog.underlying 225) (.agg a) (.agg b)=ZiM (eqP (UF Tryz.prog d 3) (apart Tryz.prog 3 a 0) (apart Tryz.prog 3 b 0)) (ZiM (eqP (UF Tryz.prog d 3) (apart Tryz.prog 3 a 1) (apart Tryz.prog 3 b 1)) (some true)):=by rw [Tryz.underlying225,Vj Zjr];simp [QY,ZaU]
@[go_sem] theorem ZDJ : Tryz.prog.eqGuardType Tryz.prog.depth 225=false:=kf
@[go_sem] theorem Zue : ZK Tryz.prog 225=some [.int .i64 0,.int .i64 0]:=kf
@[go_sem] theorem ZCh : Tryz.prog.underlying 237=some (.slice 34):=kf
@[go_sem] theorem Zyk : Y1 Tryz.prog 237=some (none,1):=kf
@[go_sem] theorem ZBg : QI Tryz.prog 237=some 1:=kf
@[go_sem] theorem Zmz : ZbZ Tryz.prog 237=some (1,24):=kf
@[go_sem] theorem Zur (H:List AM.Obj) (u:TypeId) (o n:Nat) (y:V):Uh Tryz.prog H 237 u (.sl o 0 n n) y=JS H (some (1,24)) (oat H o) o n (Ys (Tryz.prog.underlying u) H y):=Xz Zmz
@[go_sem] theorem ZDz : Tryz.prog.underlying 242=some (.slice 66):=kf
@[go_sem] theorem ZBB : tsz Tryz.prog 242=some 1:=kf
@[go_sem] theorem Zyq : XJ Tryz.prog 242=some false:=kf
@[go_sem] theorem Zyg : Y1 Tryz.prog 242=some (none,4):=kf
@[go_sem] theorem Zz4 : QI Tryz.prog 242=some 4:=kf
@[go_sem] theorem Znk : ZbZ Tryz.prog 242=some (4,32):=kf
@[go_sem] theorem ZrW (H:List AM.Obj) (u:TypeId) (o n:Nat) (y:V):Uh Tryz.prog H 242 u (.sl o 0 n n) y=JS H (some (4,32)) (oat H o) o n (Ys (Tryz.prog.underlying u) H y):=Xz Znk
@[go_sem] theorem ZCi : tsz Tryz.prog 244=some 25:=kf
@[go_sem] theorem ZAE : XJ Tryz.prog 244=some true:=kf
@[go_sem] theorem ZpX : ZW Tryz.prog 244 0=some 0:=kf
@[go_sem] theorem ZtZ : ZW Tryz.prog 244 1=some 6:=kf
@[go_sem] theorem Zq6 : ZW Tryz.prog 244 2=some 20:=kf
@[go_sem] theorem ZuR : ZW Tryz.prog 244 3=some 24:=kf
@[go_sem] theorem ZCG : tpl Tryz.prog 244=some (plL [(0,6),(6,14),(20,4),(24,1)]):=kf
@[go_sem] theorem Zsr : ZK Tryz.prog 244=some [.list true [],.list true [],.list true [],.list true [],.list true [],.list true [],.str [],.int .i64 0,.int .i64 0,.int .i64 0,.list true [],.int .i64 0,.int .i64 0,.int .i64 0,.int .i64 0,.int .i64 0,.int .i64 0,.int .i64 0,.int .i64 0,.int .i64 0,.int .i64 0,.int .i64 0,.list true [],.list true [],.list true []]:=kf
@[go_sem] theorem ZCV : tsz Tryz.prog 248=some 7:=kf
@[go_sem] theorem ZBe : XJ Tryz.prog 248=some true:=kf
@[go_sem] theorem Zuk : ZW Tryz.prog 248 0=some 0:=kf
@[go_sem] theorem Zu0 : ZW Tryz.prog 248 1=some 1:=kf
@[go_sem] theorem Zuo : ZW Tryz.prog 248 2=some 2:=kf
@[go_sem] theorem ZCJ : tpl Tryz.prog 248=some (plL [(0,1),(1,1),(2,5)]):=kf
@[go_sem] theorem ZuL : ZK Tryz.prog 248=some [.int .i64 0,.int .i64 0,.bool false,.int .i64 0,.list true [],.int .i64 0,.int .i64 0]:=kf
@[go_sem] theorem ZBw : Tryz.prog.underlying 250=some (.slice 248):=kf
@[go_sem] theorem ZAF : Y1 Tryz.prog 250=some (none,7):=kf
@[go_sem] theorem ZzG : QI Tryz.prog 250=some 7:=kf
@[go_sem] theorem ZnW : ZbZ Tryz.prog 250=some (7,72):=kf
@[go_sem] theorem Zrj (H:List AM.Obj) (u:TypeId) (o n:Nat) (y:V):Uh Tryz.prog H 250 u (.sl o 0 n n) y=JS H (some (7,72)) (oat H o) o n (Ys (Tryz.prog.underlying u) H y):=Xz ZnW
@[go_sem] theorem ZA2 : Y1 Tryz.prog 264=some ((some 64),1):=kf
@[go_sem] theorem Zvb : ZW Tryz.prog 298 2=some 2:=kf
@[go_sem] theorem Zqv : ZW Tryz.prog 298 3=some 3:=kf
@[go_sem] theorem ZDp : tpl Tryz.prog 298=some (plL [(0,1),(1,1),(2,1),(3,1)]):=kf
@[go_sem] theorem ZuY : ZK Tryz.prog 298=some [.int .i64 0,.int .i64 0,.int .i64 0,.bool false]:=kf
@[go_sem] theorem ZCy : tsz Tryz.prog 302=some 3:=kf
@[go_sem] theorem ZBk : XJ Tryz.prog 302=some true:=kf
@[go_sem] theorem ZiR : Tryz.prog.stoodInHeld 302=false:=kf
@[go_sem] theorem ZDh : tpl Tryz.prog 302=some (plL [(0,1),(1,1),(2,1)]):=kf
@[go_sem] theorem ZBA (d:Nat) (a b:List PV):ZiV Tryz.prog d 302 (Tryz.prog.underlying 302) (.agg a) (.agg b)=ZiM (eqP (UF Tryz.prog d 3) (apart Tryz.prog 3 a 0) (apart Tryz.prog 3 b 0)) (ZiM (eqP (UF Tryz.prog d 3) (apart Tryz.prog 3 a 1) (apart Tryz.prog 3 b 1)) (ZiM (eqP (UF Tryz.prog d 3) (apart Tryz.prog 3 a 2) (apart Tryz.prog 3 b 2)) (some true))):=by rw [Tryz.underlying302,Vj ZiR];simp [QY,ZaU]
@[go_sem] theorem ZCC : Tryz.prog.eqGuardType Tryz.prog.depth 302=false:=kf
@[go_sem] theorem ZrJ : ZK Tryz.prog 302=some [.int .i64 0,.int .i64 0,.int .i64 0]:=kf
theorem ZEj : Zf Tryz.prog 4:=fun args w=>Tryz.call4 args w
theorem ZEU : Zf Tryz.prog 5:=fun args w=>Tryz.call5 args w
theorem ZEA : Zf Tryz.prog 6:=fun args w=>Tryz.call6 args w
theorem ZD6 : Zf Tryz.prog 7:=fun args w=>Tryz.call7 args w
theorem ZEN : Zf Tryz.prog 8:=fun args w=>Tryz.call8 args w
theorem ZzQ : Zf Tryz.prog 11:=fun args w=>Tryz.call11 args w
theorem ZyC : Zf Tryz.prog 12:=fun args w=>Tryz.call12 args w
theorem ZAx : Zf Tryz.prog 13:=fun args w=>Tryz.call13 args w
theorem Zzj : Zf Tryz.prog 14:=fun args w=>Tryz.call14 args w
theorem ZAD : Zf Tryz.prog 15:=fun args w=>Tryz.call15 args w
theorem ZzZ : Zf Tryz.prog 16:=fun args w=>Tryz.call16 args w
theorem Zzi : Zf Tryz.prog 17:=fun args w=>Tryz.call17 args w
theorem ZyP : Zf Tryz.prog 18:=fun args w=>Tryz.call18 args w
theorem ZzP : Zf Tryz.prog 19:=fun args w=>Tryz.call19 args w
theorem ZAG : Zf Tryz.prog 23:=fun args w=>Tryz.call23 args w
theorem ZBl : Zf Tryz.prog 24:=fun args w=>Tryz.call24 args w
theorem ZzH : Zf Tryz.prog 25:=fun args w=>Tryz.call25 args w
theorem ZAZ : Zf Tryz.prog 26:=fun args w=>Tryz.call26 args w
theorem ZAT : Zf Tryz.prog 27:=fun args w=>Tryz.call27 args w
theorem Zyo : Zf Tryz.prog 28:=fun args w=>Tryz.call28 args w
theorem ZAB : Zf Tryz.prog 29:=fun args w=>Tryz.call29 args w
theorem ZBj : Zf Tryz.prog 30:=fun args w=>Tryz.call30 args w
theorem Zzr : Zf Tryz.prog 31:=fun args w=>Tryz.call31 args w
theorem ZAI : Zf Tryz.prog 32:=fun args w=>Tryz.call32 args w
theorem ZBp : Zf Tryz.prog 33:=fun args w=>Tryz.call33 args w
theorem ZA6 : Zf Tryz.prog 34:=fun args w=>Tryz.call34 args w
theorem Zz8 : Zf Tryz.prog 35:=fun args w=>Tryz.call35 args w
theorem ZAX : Zf Tryz.prog 36:=fun args w=>Tryz.call36 args w
theorem ZzN : Zf Tryz.prog 37:=fun args w=>Tryz.call37 args w
theorem ZAf : Zf Tryz.prog 38:=fun args w=>Tryz.call38 args w
theorem ZAm : Zf Tryz.prog 39:=fun args w=>Tryz.call39 args w
theorem ZzU : Zf Tryz.prog 40:=fun args w=>Tryz.call40 args w
theorem ZA1 : Zf Tryz.prog 41:=fun args w=>Tryz.call41 args w
theorem Zzp : Zf Tryz.prog 42:=fun args w=>Tryz.call42 args w
theorem ZyR : Zf Tryz.prog 43:=fun args w=>Tryz.call43 args w
theorem ZA0 : Zf Tryz.prog 44:=fun args w=>Tryz.call44 args w
theorem Zyp : Zf Tryz.prog 45:=fun args w=>Tryz.call45 args w
theorem ZAA : Zf Tryz.prog 46:=fun args w=>Tryz.call46 args w
theorem ZAd : Zf Tryz.prog 47:=fun args w=>Tryz.call47 args w
theorem ZAh : Zf Tryz.prog 48:=fun args w=>Tryz.call48 args w
theorem ZyF : Zf Tryz.prog 49:=fun args w=>Tryz.call49 args w
theorem ZzI : Zf Tryz.prog 50:=fun args w=>Tryz.call50 args w
theorem Zzh : Zf Tryz.prog 51:=fun args w=>Tryz.call51 args w
theorem ZA8 : Zf Tryz.prog 52:=fun args w=>Tryz.call52 args w
theorem Zss : Zf Tryz.prog 53:=fun args w=>Tryz.call53 args w
theorem Zyy : Zf Tryz.prog 54:=fun args w=>Tryz.call54 args w
theorem Zzl : Zf Tryz.prog 55:=fun args w=>Tryz.call55 args w
theorem ZBf : Zf Tryz.prog 56:=fun args w=>Tryz.call56 args w
theorem ZAc : Zf Tryz.prog 61:=fun args w=>Tryz.call61 args w
theorem ZAy : Zf Tryz.prog 62:=fun args w=>Tryz.call62 args w
theorem ZzY : Zf Tryz.prog 63:=fun args w=>Tryz.call63 args w
theorem ZzS : Zf Tryz.prog 64:=fun args w=>Tryz.call64 args w
theorem Zyb : Zf Tryz.prog 65:=fun args w=>Tryz.call65 args w
theorem ZyM : Zf Tryz.prog 66:=fun args w=>Tryz.call66 args w
theorem ZyI : Zf Tryz.prog 67:=fun args w=>Tryz.call67 args w
theorem Zyr : Zf Tryz.prog 68:=fun args w=>Tryz.call68 args w
theorem ZBi : Zf Tryz.prog 69:=fun args w=>Tryz.call69 args w
theorem Zzk : Zf Tryz.prog 70:=fun args w=>Tryz.call70 args w
theorem ZBs : Zf Tryz.prog 71:=fun args w=>Tryz.call71 args w
theorem ZzJ : Zf Tryz.prog 74:=fun args w=>Tryz.call74 args w
theorem Zzy : Zf Tryz.prog 75:=fun args w=>Tryz.call75 args w
theorem ZAg : Zf Tryz.prog 76:=fun args w=>Tryz.call76 args w
theorem ZAa : Zf Tryz.prog 77:=fun args w=>Tryz.call77 args w
theorem ZAU : Zf Tryz.prog 78:=fun args w=>Tryz.call78 args w
theorem Zx6 : Zf Tryz.prog 79:=fun args w=>Tryz.call79 args w
theorem ZyZ : Zf Tryz.prog 80:=fun args w=>Tryz.call80 args w
theorem ZyK : Zf Tryz.prog 81:=fun args w=>Tryz.call81 args w
theorem ZAO : Zf Tryz.prog 82:=fun args w=>Tryz.call82 args w
theorem Zz6 : Zf Tryz.prog 83:=fun args w=>Tryz.call83 args w
theorem ZzE : Zf Tryz.prog 84:=fun args w=>Tryz.call84 args w
theorem ZyO : Zf Tryz.prog 85:=fun args w=>Tryz.call85 args w
theorem ZAw : Zf Tryz.prog 86:=fun args w=>Tryz.call86 args w
theorem Zzw : Zf Tryz.prog 87:=fun args w=>Tryz.call87 args w
theorem ZBa : Zf Tryz.prog 89:=fun args w=>Tryz.call89 args w
theorem ZBc : Zf Tryz.prog 90:=fun args w=>Tryz.call90 args w
theorem Zyi : Zf Tryz.prog 91:=fun args w=>Tryz.call91 args w
theorem Zy1 : Zf Tryz.prog 92:=fun args w=>Tryz.call92 args w
theorem ZtE : Zf Tryz.prog 93:=fun args w=>Tryz.call93 args w
theorem Zsc : Zf Tryz.prog 94:=fun args w=>Tryz.call94 args w
theorem ZzL : Zf Tryz.prog 99:=fun args w=>Tryz.call99 args w
theorem ZuK : Zf Tryz.prog 100:=fun args w=>Tryz.call100 args w
theorem Zsb : Zf Tryz.prog 101:=fun args w=>Tryz.call101 args w
theorem ZrL : Zf Tryz.prog 102:=fun args w=>Tryz.call102 args w
theorem ZsD : Zf Tryz.prog 103:=fun args w=>Tryz.call103 args w
theorem Zq1 : Zf Tryz.prog 104:=fun args w=>Tryz.call104 args w
theorem Zs5 : Zf Tryz.prog 105:=fun args w=>Tryz.call105 args w
theorem ZuP : Zf Tryz.prog 118:=fun args w=>Tryz.call118 args w
theorem Zuh : Zf Tryz.prog 119:=fun args w=>Tryz.call119 args w
theorem ZsV : Zf Tryz.prog 120:=fun args w=>Tryz.call120 args w
theorem ZpU : Zf Tryz.prog 121:=fun args w=>Tryz.call121 args w
theorem Zqk : Zf Tryz.prog 122:=fun args w=>Tryz.call122 args w
theorem Zrg : Zf Tryz.prog 123:=fun args w=>Tryz.call123 args w
theorem Zvh : Zf Tryz.prog 124:=fun args w=>Tryz.call124 args w
theorem ZqQ : Zf Tryz.prog 125:=fun args w=>Tryz.call125 args w
theorem ZuW : Zf Tryz.prog 126:=fun args w=>Tryz.call126 args w
theorem Zrn : Zf Tryz.prog 127:=fun args w=>Tryz.call127 args w
theorem Zq9 : Zf Tryz.prog 128:=fun args w=>Tryz.call128 args w
theorem ZsE : Zf Tryz.prog 129:=fun args w=>Tryz.call129 args w
theorem Zrt : Zf Tryz.prog 130:=fun args w=>Tryz.call130 args w
theorem Yy : Zf Tryz.prog 140:=fun args w=>Tryz.call140 args w
theorem Zva : Zf Tryz.prog 141:=fun args w=>Tryz.call141 args w
theorem Zln : Zf Tryz.prog 142:=fun args w=>Tryz.call142 args w
theorem Zu5 : Zf Tryz.prog 143:=fun args w=>Tryz.call143 args w
theorem Zul : Zf Tryz.prog 144:=fun args w=>Tryz.call144 args w
theorem Zvn : Zf Tryz.prog 145:=fun args w=>Tryz.call145 args w
theorem Zvi : Zf Tryz.prog 146:=fun args w=>Tryz.call146 args w
theorem Zt0 : Zf Tryz.prog 147:=fun args w=>Tryz.call147 args w
theorem ZtJ : Zf Tryz.prog 148:=fun args w=>Tryz.call148 args w
theorem ZqY : Zf Tryz.prog 149:=fun args w=>Tryz.call149 args w
theorem Zmd : Zf Tryz.prog 150:=fun args w=>Tryz.call150 args w
theorem Zu8 : Zf Tryz.prog 162:=fun args w=>Tryz.call162 args w
theorem ZqK : Zf Tryz.prog 163:=fun args w=>Tryz.call163 args w
theorem ZqA : Zf Tryz.prog 164:=fun args w=>Tryz.call164 args w
theorem Zus : Zf Tryz.prog 165:=fun args w=>Tryz.call165 args w
theorem Zrq : Zf Tryz.prog 166:=fun args w=>Tryz.call166 args w
theorem Zsg : Zf Tryz.prog 167:=fun args w=>Tryz.call167 args w
theorem ZtU : Zf Tryz.prog 168:=fun args w=>Tryz.call168 args w
theorem ZrC : Zf Tryz.prog 169:=fun args w=>Tryz.call169 args w
theorem Ztp : Zf Tryz.prog 170:=fun args w=>Tryz.call170 args w
theorem ZqN : Zf Tryz.prog 171:=fun args w=>Tryz.call171 args w
theorem Zq4 : Zf Tryz.prog 172:=fun args w=>Tryz.call172 args w
theorem ZqP : Zf Tryz.prog 173:=fun args w=>Tryz.call173 args w
theorem ZlA : Zf Tryz.prog 174:=fun args w=>Tryz.call174 args w
theorem Zuj : Zf Tryz.prog 175:=fun args w=>Tryz.call175 args w
theorem Zti : Zf Tryz.prog 176:=fun args w=>Tryz.call176 args w
theorem ZuI : Zf Tryz.prog 177:=fun args w=>Tryz.call177 args w
theorem ZrP : Zf Tryz.prog 178:=fun args w=>Tryz.call178 args w
theorem ZqE : Zf Tryz.prog 185:=fun args w=>Tryz.call185 args w
theorem ZuQ : Zf Tryz.prog 186:=fun args w=>Tryz.call186 args w
theorem ZsG : Zf Tryz.prog 190:=fun args w=>Tryz.call190 args w
theorem ZqH : Zf Tryz.prog 191:=fun args w=>Tryz.call191 args w
theorem ZrK : Zf Tryz.prog 192:=fun args w=>Tryz.call192 args w
theorem ZrD : Zf Tryz.prog 193:=fun args w=>Tryz.call193 args w
theorem ZrO : Zf Tryz.prog 194:=fun args w=>Tryz.call194 args w
theorem Zun : Zf Tryz.prog 202:=fun args w=>Tryz.call202 args w
theorem Zrc : Zf Tryz.prog 203:=fun args w=>Tryz.call203 args w
theorem Ztl : Zf Tryz.prog 204:=fun args w=>Tryz.call204 args w
theorem ZqI : Zf Tryz.prog 205:=fun args w=>Tryz.call205 args w
theorem Zu3 : Zf Tryz.prog 206:=fun args w=>Tryz.call206 args w
theorem ZsN : Zf Tryz.prog 207:=fun args w=>Tryz.call207 args w
theorem ZqS : Zf Tryz.prog 208:=fun args w=>Tryz.call208 args w
theorem Zqg : Zf Tryz.prog 209:=fun args w=>Tryz.call209 args w
theorem Zum : Zf Tryz.prog 210:=fun args w=>Tryz.call210 args w
theorem Zsm : Zf Tryz.prog 211:=fun args w=>Tryz.call211 args w
theorem ZqR : Zf Tryz.prog 212:=fun args w=>Tryz.call212 args w
theorem Zs7 : Zf Tryz.prog 213:=fun args w=>Tryz.call213 args w
theorem ZuB : Zf Tryz.prog 214:=fun args w=>Tryz.call214 args w
theorem Ztn : Zf Tryz.prog 215:=fun args w=>Tryz.call215 args w
theorem ZsT : Zf Tryz.prog 219:=fun args w=>Tryz.call219 args w
theorem Zq0 : Zf Tryz.prog 220:=fun args w=>Tryz.call220 args w
theorem Zts : Zf Tryz.prog 221:=fun args w=>Tryz.call221 args w
theorem Zu9 : Zf Tryz.prog 222:=fun args w=>Tryz.call222 args w
theorem Zri : Zf Tryz.prog 223:=fun args w=>Tryz.call223 args w
theorem Zsa : Zf Tryz.prog 224:=fun args w=>Tryz.call224 args w
theorem ZrE : Zf Tryz.prog 225:=fun args w=>Tryz.call225 args w
theorem Zq7 : Zf Tryz.prog 233:=fun args w=>Tryz.call233 args w
theorem ZtL : Zf Tryz.prog 234:=fun args w=>Tryz.call234 args w
theorem ZsJ : Zf Tryz.prog 235:=fun args w=>Tryz.call235 args w
theorem Ztg : Zf Tryz.prog 236:=fun args w=>Tryz.call236 args w
theorem Zuu : Zf Tryz.prog 237:=fun args w=>Tryz.call237 args w
theorem Zp1 : Zf Tryz.prog 238:=fun args w=>Tryz.call238 args w
theorem Zqe : Zf Tryz.prog 239:=fun args w=>Tryz.call239 args w
theorem ZuZ : Zf Tryz.prog 240:=fun args w=>Tryz.call240 args w
theorem Zrl : Zf Tryz.prog 241:=fun args w=>Tryz.call241 args w
theorem ZtC : Zf Tryz.prog 242:=fun args w=>Tryz.call242 args w
theorem ZtS : Zf Tryz.prog 252:=fun args w=>Tryz.call252 args w
theorem ZrB : Zf Tryz.prog 253:=fun args w=>Tryz.call253 args w
theorem ZrU : Zf Tryz.prog 254:=fun args w=>Tryz.call254 args w
theorem Zt1 : Zf Tryz.prog 258:=fun args w=>Tryz.call258 args w
theorem Ztb : Zf Tryz.prog 259:=fun args w=>Tryz.call259 args w
theorem ZuO : Zf Tryz.prog 260:=fun args w=>Tryz.call260 args w
theorem ZtB : Zf Tryz.prog 265:=fun args w=>Tryz.call265 args w
theorem Zr9 : Zf Tryz.prog 268:=fun args w=>Tryz.call268 args w
theorem Zu1 : Zf Tryz.prog 270:=fun args w=>Tryz.call270 args w
theorem ZtY : Zf Tryz.prog 274:=fun args w=>Tryz.call274 args w
theorem mixed : Tryz.prog.follows .mixedOrders=true:=by kernel_rfl
end Go.Proofs.YthmplgaldjpgiaaGreatDoor.K
