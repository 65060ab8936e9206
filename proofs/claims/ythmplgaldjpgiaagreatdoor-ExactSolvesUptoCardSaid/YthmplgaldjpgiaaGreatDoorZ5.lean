/- Declarations that the closing texts need, part 5: joined by tools/slim.py. -/
import Derived.Test.YthmplgaldjpgiaaGreatDoorZ4
import Derived.KernelRfl
import Derived.Test.YthmplgaldjpgiaaGreatDoorProg
namespace Go.Proofs.YthmplgaldjpgiaaGreatDoor.K
open Go Go.AM Go.Proofs
abbrev PC (f:FuncId) (a:List V) (y:PV):=ACalls Tryz.prog f a [] fun x H'=>x= .p y/\H'= []
abbrev PT (f:FuncId) (a:List V) (b:List V):=ACalls Tryz.prog f a [] fun x H'=>x= .tup b/\H'= []
theorem kf {α:Type} {a b:α} (h:a=b:=by kernel_rfl):a=b:=Eq.trans h rfl
@[go_sem] theorem ZGn : Tryz.prog.underlying 3=some (.int .i64):=kf
@[go_sem] theorem ZGk : tsz Tryz.prog 3=some 1:=kf
@[go_sem] theorem ZFD : XF Tryz.prog 3=some false:=kf
@[go_sem] theorem ZzP : ZL Tryz.prog 3=some [.int .i64 0]:=kf
@[go_sem] theorem ZGm : Tryz.prog.underlying 4=some .bool:=kf
@[go_sem] theorem ZGj : tsz Tryz.prog 4=some 1:=kf
@[go_sem] theorem ZFv : XF Tryz.prog 4=some false:=kf
@[go_sem] theorem ZGi : Tryz.prog.underlying 5=some (.int .u8):=kf
@[go_sem] theorem ZGl : tsz Tryz.prog 5=some 1:=kf
@[go_sem] theorem ZFR : XF Tryz.prog 5=some false:=kf
@[go_sem] theorem ZGg : Tryz.prog.underlying 9=some .string:=kf
@[go_sem] theorem ZGh : tsz Tryz.prog 9=some 1:=kf
@[go_sem] theorem ZFQ : XF Tryz.prog 9=some false:=kf
@[go_sem] theorem ZFh : Tryz.prog.underlying 22=some (.slice 9):=kf
@[go_sem] theorem ZFt : tsz Tryz.prog 22=some 1:=kf
@[go_sem] theorem ZDc : XF Tryz.prog 22=some false:=kf
@[go_sem] theorem ZEf : YY Tryz.prog 22=some (none,1):=kf
@[go_sem] theorem ZER : QI Tryz.prog 22=some 1:=kf
@[go_sem] theorem ZFZ : Tryz.prog.underlying 23=some (.slice 194):=kf
@[go_sem] theorem ZFX : tsz Tryz.prog 23=some 1:=kf
@[go_sem] theorem ZEr : XF Tryz.prog 23=some false:=kf
@[go_sem] theorem ZDL : YY Tryz.prog 23=some (none,6):=kf
@[go_sem] theorem ZFp : tsz Tryz.prog 25=some 2:=kf
@[go_sem] theorem ZDF : XF Tryz.prog 25=some true:=kf
@[go_sem] theorem Zy1 : ZN Tryz.prog 25 0=some 0:=kf
@[go_sem] theorem ZxS : ZN Tryz.prog 25 1=some 1:=kf
@[go_sem] theorem ZFm : tpl Tryz.prog 25=some (plL [(0,1),(1,1)]):=kf
@[go_sem] theorem ZyI : ZL Tryz.prog 25=some [.list true [],.list true []]:=kf
@[go_sem] theorem ZFK : Tryz.prog.underlying 26=some (.slice 93):=kf
@[go_sem] theorem ZFH : tsz Tryz.prog 26=some 1:=kf
@[go_sem] theorem ZDK : XF Tryz.prog 26=some false:=kf
@[go_sem] theorem ZEy : YY Tryz.prog 26=some (none,14):=kf
@[go_sem] theorem ZDW : QI Tryz.prog 26=some 14:=kf
@[go_sem] theorem ZF7 : Tryz.prog.underlying 27=some (.slice 68):=kf
@[go_sem] theorem ZFn : tsz Tryz.prog 27=some 1:=kf
@[go_sem] theorem ZDq : XF Tryz.prog 27=some false:=kf
@[go_sem] theorem ZCQ : YY Tryz.prog 27=some (none,16):=kf
@[go_sem] theorem ZEK : QI Tryz.prog 27=some 16:=kf
@[go_sem] theorem Ztr : Zaq Tryz.prog 27=some (16,152):=kf
@[go_sem] theorem Zw8 (H:List AM.Obj) (u:TypeId) (o n:Nat) (y:V):VE Tryz.prog H 27 u (.sl o 0 n n) y=JE H (some (16,152)) (oat H o) o n (X8 (Tryz.prog.underlying u) H y):=XB Ztr
@[go_sem] theorem ZFd : Tryz.prog.underlying 28=some (.slice 202):=kf
@[go_sem] theorem ZFL : tsz Tryz.prog 28=some 1:=kf
@[go_sem] theorem ZEC : XF Tryz.prog 28=some false:=kf
@[go_sem] theorem ZDE : YY Tryz.prog 28=some (none,2):=kf
@[go_sem] theorem ZFA : tsz Tryz.prog 30=some 6:=kf
@[go_sem] theorem ZC8 : XF Tryz.prog 30=some true:=kf
@[go_sem] theorem Zxq : ZN Tryz.prog 30 0=some 0:=kf
@[go_sem] theorem Zy2 : ZN Tryz.prog 30 1=some 2:=kf
@[go_sem] theorem ZxK : ZN Tryz.prog 30 2=some 3:=kf
@[go_sem] theorem ZwR : ZN Tryz.prog 30 3=some 4:=kf
@[go_sem] theorem ZxZ : ZN Tryz.prog 30 4=some 5:=kf
@[go_sem] theorem ZF0 : tpl Tryz.prog 30=some (plL [(0,2),(2,1),(3,1),(4,1),(5,1)]):=kf
@[go_sem] theorem Zxg : ZL Tryz.prog 30=some [.list true [],.list true [],.list true [],.list true [],.list true [],.list true []]:=kf
@[go_sem] theorem ZE8 : Tryz.prog.underlying 33=some (.slice 45):=kf
@[go_sem] theorem ZE9 : tsz Tryz.prog 33=some 1:=kf
@[go_sem] theorem ZEm : XF Tryz.prog 33=some false:=kf
@[go_sem] theorem ZEJ : YY Tryz.prog 33=some (none,4):=kf
@[go_sem] theorem ZEO : QI Tryz.prog 33=some 4:=kf
@[go_sem] theorem Zus : Zaq Tryz.prog 33=some (4,64):=kf
@[go_sem] theorem Zyz (H:List AM.Obj) (u:TypeId) (o n:Nat) (y:V):VE Tryz.prog H 33 u (.sl o 0 n n) y=JE H (some (4,64)) (oat H o) o n (X8 (Tryz.prog.underlying u) H y):=XB Zus
@[go_sem] theorem ZFl : Tryz.prog.underlying 34=some (.slice 3):=kf
@[go_sem] theorem ZFr : tsz Tryz.prog 34=some 1:=kf
@[go_sem] theorem ZEg : XF Tryz.prog 34=some false:=kf
@[go_sem] theorem ZDt : YY Tryz.prog 34=some (none,1):=kf
@[go_sem] theorem ZEZ : QI Tryz.prog 34=some 1:=kf
@[go_sem] theorem ZlG : Zaq Tryz.prog 34=some (1,8):=kf
@[go_sem] theorem Zzq (H:List AM.Obj) (u:TypeId) (y:V):VE Tryz.prog H 34 u (.p (.list true [])) y=Zl8 H (some (1,8)) (X8 (Tryz.prog.underlying u) H y):=Qn ZlG
@[go_sem] theorem Zye (H:List AM.Obj) (u:TypeId) (o n:Nat) (y:V):VE Tryz.prog H 34 u (.sl o 0 n n) y=JE H (some (1,8)) (oat H o) o n (X8 (Tryz.prog.underlying u) H y):=XB ZlG
@[go_sem] theorem ZnN : ZkG Tryz.prog 34=some (1,8,.int .i64 0):=kf
@[go_sem] theorem ZFq (H:List AM.Obj) (fr:List V) (x y:Operand):W8 Tryz.prog (.makeSlice 34 x y) fr H=Vj (some (1,8,.int .i64 0)) H (ev fr x) (ev fr y):=Kl ZnN
@[go_sem] theorem ZFO : tsz Tryz.prog 36=some 2:=kf
@[go_sem] theorem ZEc : XF Tryz.prog 36=some true:=kf
@[go_sem] theorem ZxG : ZN Tryz.prog 36 0=some 0:=kf
@[go_sem] theorem ZyT : ZN Tryz.prog 36 1=some 1:=kf
@[go_sem] theorem ZFx : tpl Tryz.prog 36=some (plL [(0,1),(1,1)]):=kf
@[go_sem] theorem ZyQ : ZL Tryz.prog 36=some [.list true [],.list true []]:=kf
@[go_sem] theorem ZE2 : tsz Tryz.prog 37=some 1:=kf
@[go_sem] theorem ZCK : XF Tryz.prog 37=some false:=kf
@[go_sem] theorem ZFI : Tryz.prog.underlying 42=some (.slice 4):=kf
@[go_sem] theorem ZFJ : tsz Tryz.prog 42=some 1:=kf
@[go_sem] theorem ZE1 : XF Tryz.prog 42=some false:=kf
@[go_sem] theorem ZDm : YY Tryz.prog 42=some (none,1):=kf
@[go_sem] theorem ZDs : QI Tryz.prog 42=some 1:=kf
@[go_sem] theorem ZrW : Zaq Tryz.prog 42=some (1,1):=kf
@[go_sem] theorem ZxM (H:List AM.Obj) (u:TypeId) (y:V):VE Tryz.prog H 42 u (.p (.list true [])) y=Zl8 H (some (1,1)) (X8 (Tryz.prog.underlying u) H y):=Qn ZrW
@[go_sem] theorem Zpc : ZkG Tryz.prog 42=some (1,1,.bool false):=kf
@[go_sem] theorem ZGb (H:List AM.Obj) (fr:List V) (x y:Operand):W8 Tryz.prog (.makeSlice 42 x y) fr H=Vj (some (1,1,.bool false)) H (ev fr x) (ev fr y):=Kl Zpc
@[go_sem] theorem ZE3 : Tryz.prog.underlying 43=some (.slice 126):=kf
@[go_sem] theorem ZFa : tsz Tryz.prog 43=some 1:=kf
@[go_sem] theorem ZEp : XF Tryz.prog 43=some false:=kf
@[go_sem] theorem ZCL : YY Tryz.prog 43=some (none,2):=kf
@[go_sem] theorem ZCP : QI Tryz.prog 43=some 2:=kf
@[go_sem] theorem Zmt : Zaq Tryz.prog 43=some (2,16):=kf
@[go_sem] theorem ZxV (H:List AM.Obj) (u:TypeId) (o n:Nat) (y:V):VE Tryz.prog H 43 u (.sl o 0 n n) y=JE H (some (2,16)) (oat H o) o n (X8 (Tryz.prog.underlying u) H y):=XB Zmt
@[go_sem] theorem ZF6 : tsz Tryz.prog 45=some 4:=kf
@[go_sem] theorem ZEw : XF Tryz.prog 45=some true:=kf
@[go_sem] theorem ZyF : ZN Tryz.prog 45 0=some 0:=kf
@[go_sem] theorem ZwT : ZN Tryz.prog 45 1=some 1:=kf
@[go_sem] theorem Zx1 : ZN Tryz.prog 45 2=some 2:=kf
@[go_sem] theorem ZxE : ZN Tryz.prog 45 3=some 3:=kf
@[go_sem] theorem ZFj : tpl Tryz.prog 45=some (plL [(0,1),(1,1),(2,1),(3,1)]):=kf
@[go_sem] theorem ZyW : ZL Tryz.prog 45=some [.int .i64 0,.int .i64 0,.list true [],.list true []]:=kf
@[go_sem] theorem ZFT : Tryz.prog.underlying 50=some (.slice 135):=kf
@[go_sem] theorem ZDf : YY Tryz.prog 50=some (none,2):=kf
@[go_sem] theorem ZEX : QI Tryz.prog 50=some 2:=kf
@[go_sem] theorem ZmI : Zaq Tryz.prog 50=some (2,24):=kf
@[go_sem] theorem Zzr (H:List AM.Obj) (u:TypeId) (y:V):VE Tryz.prog H 50 u (.p (.list true [])) y=Zl8 H (some (2,24)) (X8 (Tryz.prog.underlying u) H y):=Qn ZmI
@[go_sem] theorem Zxf (H:List AM.Obj) (u:TypeId) (o n:Nat) (y:V):VE Tryz.prog H 50 u (.sl o 0 n n) y=JE H (some (2,24)) (oat H o) o n (X8 (Tryz.prog.underlying u) H y):=XB ZmI
@[go_sem] theorem ZFC : Tryz.prog.underlying 52=some (.slice 58):=kf
@[go_sem] theorem ZE5 : tsz Tryz.prog 52=some 1:=kf
@[go_sem] theorem ZC4 : XF Tryz.prog 52=some false:=kf
@[go_sem] theorem ZEM : YY Tryz.prog 52=some (none,7):=kf
@[go_sem] theorem ZDT : QI Tryz.prog 52=some 7:=kf
@[go_sem] theorem Zvh : Zaq Tryz.prog 52=some (7,88):=kf
@[go_sem] theorem Zyo (H:List AM.Obj) (u:TypeId) (o n:Nat) (y:V):VE Tryz.prog H 52 u (.sl o 0 n n) y=JE H (some (7,88)) (oat H o) o n (X8 (Tryz.prog.underlying u) H y):=XB Zvh
@[go_sem] theorem ZFs : tsz Tryz.prog 58=some 7:=kf
@[go_sem] theorem ZDU : XF Tryz.prog 58=some true:=kf
@[go_sem] theorem Zze : ZN Tryz.prog 58 0=some 0:=kf
@[go_sem] theorem Zza : ZN Tryz.prog 58 1=some 1:=kf
@[go_sem] theorem ZwY : ZN Tryz.prog 58 2=some 2:=kf
@[go_sem] theorem Zxi : ZN Tryz.prog 58 3=some 3:=kf
@[go_sem] theorem ZF1 : tpl Tryz.prog 58=some (plL [(0,1),(1,1),(2,1),(3,4)]):=kf
@[go_sem] theorem Zzs : ZL Tryz.prog 58=some [.int .i64 0,.int .i64 0,.int .i64 0,.int .i64 0,.int .i64 0,.list true [],.list true []]:=kf
@[go_sem] theorem ZGd : tsz Tryz.prog 61=some 1:=kf
@[go_sem] theorem ZDr : XF Tryz.prog 61=some false:=kf
@[go_sem] theorem ZFG : tsz Tryz.prog 66=some 4:=kf
@[go_sem] theorem ZCX : XF Tryz.prog 66=some true:=kf
@[go_sem] theorem Zyu : ZN Tryz.prog 66 0=some 0:=kf
@[go_sem] theorem ZyJ : ZN Tryz.prog 66 1=some 1:=kf
@[go_sem] theorem ZxY : ZN Tryz.prog 66 2=some 2:=kf
@[go_sem] theorem Zy9 : ZN Tryz.prog 66 3=some 3:=kf
@[go_sem] theorem ZFB : tpl Tryz.prog 66=some (plL [(0,1),(1,1),(2,1),(3,1)]):=kf
@[go_sem] theorem Zxn : ZL Tryz.prog 66=some [.int .i64 0,.int .i64 0,.int .i64 0,.int .i64 0]:=kf
@[go_sem] theorem ZFN : tsz Tryz.prog 68=some 16:=kf
@[go_sem] theorem ZEb : XF Tryz.prog 68=some true:=kf
@[go_sem] theorem Zyq : ZN Tryz.prog 68 0=some 0:=kf
@[go_sem] theorem ZyS : ZN Tryz.prog 68 1=some 1:=kf
@[go_sem] theorem Zya : ZN Tryz.prog 68 2=some 2:=kf
@[go_sem] theorem Zxe : ZN Tryz.prog 68 3=some 6:=kf
@[go_sem] theorem ZyN : ZN Tryz.prog 68 4=some 10:=kf
@[go_sem] theorem Zx0 : ZN Tryz.prog 68 5=some 11:=kf
@[go_sem] theorem Zyv : ZN Tryz.prog 68 6=some 12:=kf
@[go_sem] theorem ZxF : ZN Tryz.prog 68 7=some 13:=kf
@[go_sem] theorem Zyk : ZN Tryz.prog 68 8=some 14:=kf
@[go_sem] theorem ZxW : ZN Tryz.prog 68 9=some 15:=kf
@[go_sem] theorem ZF8 : tpl Tryz.prog 68=some (plL [(0,1),(1,1),(2,4),(6,4),(10,1),(11,1),(12,1),(13,1),(14,1),(15,1)]):=kf
@[go_sem] theorem Zys : ZL Tryz.prog 68=some [.str [],.list true [],.int .i64 0,.int .i64 0,.int .i64 0,.int .i64 0,.int .i64 0,.int .i64 0,.int .i64 0,.int .i64 0,.int .i64 0,.int .i64 0,.int .i64 0,.int .i64 0,.int .i64 0,.bool false]:=kf
@[go_sem] theorem ZFU : tsz Tryz.prog 71=some 4:=kf
@[go_sem] theorem ZD9 : XF Tryz.prog 71=some true:=kf
@[go_sem] theorem ZwM : ZN Tryz.prog 71 0=some 0:=kf
@[go_sem] theorem ZxD : ZN Tryz.prog 71 1=some 1:=kf
@[go_sem] theorem Zy5 : ZN Tryz.prog 71 2=some 2:=kf
@[go_sem] theorem ZwQ : ZN Tryz.prog 71 3=some 3:=kf
@[go_sem] theorem ZFS : tpl Tryz.prog 71=some (plL [(0,1),(1,1),(2,1),(3,1)]):=kf
@[go_sem] theorem Zy8 : ZL Tryz.prog 71=some [.int .i64 0,.int .i64 0,.int .i64 0,.int .i64 0]:=kf
@[go_sem] theorem ZGe : tsz Tryz.prog 93=some 14:=kf
@[go_sem] theorem ZD7 : XF Tryz.prog 93=some true:=kf
@[go_sem] theorem Zw4 : ZN Tryz.prog 93 0=some 0:=kf
@[go_sem] theorem Zyf : ZN Tryz.prog 93 1=some 1:=kf
@[go_sem] theorem ZyP : ZN Tryz.prog 93 2=some 2:=kf
@[go_sem] theorem Zxp : ZN Tryz.prog 93 3=some 3:=kf
@[go_sem] theorem ZyX : ZN Tryz.prog 93 4=some 4:=kf
@[go_sem] theorem Zzj : ZN Tryz.prog 93 5=some 5:=kf
@[go_sem] theorem ZyH : ZN Tryz.prog 93 6=some 6:=kf
@[go_sem] theorem Zxc : ZN Tryz.prog 93 7=some 7:=kf
@[go_sem] theorem Zyd : ZN Tryz.prog 93 8=some 8:=kf
@[go_sem] theorem ZxT : ZN Tryz.prog 93 9=some 9:=kf
@[go_sem] theorem ZuR : ZN Tryz.prog 93 10=some 10:=kf
@[go_sem] theorem Zvm : ZN Tryz.prog 93 11=some 11:=kf
@[go_sem] theorem ZuE : ZN Tryz.prog 93 12=some 12:=kf
@[go_sem] theorem Zrc : ZN Tryz.prog 93 13=some 13:=kf
@[go_sem] theorem ZF3 : tpl Tryz.prog 93=some (plL [(0,1),(1,1),(2,1),(3,1),(4,1),(5,1),(6,1),(7,1),(8,1),(9,1),(10,1),(11,1),(12,1),(13,1)]):=kf
@[go_sem] theorem Zw1 : ZL Tryz.prog 93=some [.str [],.int .i64 0,.int .i64 0,.int .i64 0,.list true [],.int .i64 0,.int .i64 0,.int .i64 0,.int .i64 0,.int .i64 0,.int .i64 0,.int .i64 0,.int .i64 0,.int .i64 0]:=kf
@[go_sem] theorem ZEi : YY Tryz.prog 97=some ((some 6),1):=kf
@[go_sem] theorem ZFz : tsz Tryz.prog 99=some 8:=kf
@[go_sem] theorem ZDv : XF Tryz.prog 99=some true:=kf
@[go_sem] theorem ZxP : ZN Tryz.prog 99 0=some 0:=kf
@[go_sem] theorem ZxC : ZN Tryz.prog 99 1=some 1:=kf
@[go_sem] theorem Zyl : ZN Tryz.prog 99 2=some 2:=kf
@[go_sem] theorem ZFM : tpl Tryz.prog 99=some (plL [(0,1),(1,1),(2,6)]):=kf
@[go_sem] theorem Zzb : ZL Tryz.prog 99=some [.int .i64 0,.int .i64 0,.int .i64 0,.int .i64 0,.int .i64 0,.int .i64 0,.int .i64 0,.int .i64 0]:=kf
@[go_sem] theorem ZEW : tsz Tryz.prog 110=some 3:=kf
@[go_sem] theorem ZAg : XF Tryz.prog 110=some true:=kf
@[go_sem] theorem ZsB : ZN Tryz.prog 110 0=some 0:=kf
@[go_sem] theorem ZvQ : ZN Tryz.prog 110 1=some 1:=kf
@[go_sem] theorem ZuG : ZN Tryz.prog 110 2=some 2:=kf
@[go_sem] theorem ZDl : tpl Tryz.prog 110=some (plL [(0,1),(1,1),(2,1)]):=kf
@[go_sem] theorem Zsb : ZL Tryz.prog 110=some [.bool false,.list true [],.int .i64 0]:=kf
@[go_sem] theorem ZET : Tryz.prog.underlying 113=some (.slice 298):=kf
@[go_sem] theorem ZDi : tsz Tryz.prog 113=some 1:=kf
@[go_sem] theorem ZAN : XF Tryz.prog 113=some false:=kf
@[go_sem] theorem ZA5 : YY Tryz.prog 113=some (none,4):=kf
@[go_sem] theorem ZAI : QI Tryz.prog 113=some 4:=kf
@[go_sem] theorem Zo6 : Zaq Tryz.prog 113=some (4,32):=kf
@[go_sem] theorem ZvR (H:List AM.Obj) (u:TypeId) (o n:Nat) (y:V):VE Tryz.prog H 113 u (.sl o 0 n n) y=JE H (some (4,32)) (oat H o) o n (X8 (Tryz.prog.underlying u) H y):=XB Zo6
@[go_sem] theorem ZDJ : tsz Tryz.prog 115=some 5:=kf
@[go_sem] theorem ZAx : XF Tryz.prog 115=some true:=kf
@[go_sem] theorem ZrK : ZN Tryz.prog 115 0=some 0:=kf
@[go_sem] theorem ZqS : ZN Tryz.prog 115 1=some 1:=kf
@[go_sem] theorem Zq7 : ZN Tryz.prog 115 2=some 2:=kf
@[go_sem] theorem ZqB : ZN Tryz.prog 115 3=some 3:=kf
@[go_sem] theorem ZrG : ZN Tryz.prog 115 4=some 4:=kf
@[go_sem] theorem ZDB : tpl Tryz.prog 115=some (plL [(0,1),(1,1),(2,1),(3,1),(4,1)]):=kf
@[go_sem] theorem Zvv : ZL Tryz.prog 115=some [.bool false,.int .i64 0,.list true [],.int .i64 0,.int .i64 0]:=kf
@[go_sem] theorem ZD5 : Tryz.prog.underlying 121=some (.array 4 3):=kf
@[go_sem] theorem ZD2 : tsz Tryz.prog 121=some 4:=kf
@[go_sem] theorem ZAL : XF Tryz.prog 121=some true:=kf
@[go_sem] theorem ZzH : YY Tryz.prog 121=some ((some 4),1):=kf
@[go_sem] theorem ZCW : tpl Tryz.prog 121=some (plA 1):=kf
@[go_sem] theorem ZqJ : ZL Tryz.prog 121=some [.int .i64 0,.int .i64 0,.int .i64 0,.int .i64 0]:=kf
@[go_sem] theorem ZEn : tsz Tryz.prog 126=some 2:=kf
@[go_sem] theorem ZAM : XF Tryz.prog 126=some true:=kf
@[go_sem] theorem Zuq : ZN Tryz.prog 126 0=some 0:=kf
@[go_sem] theorem ZqX : ZN Tryz.prog 126 1=some 1:=kf
@[go_sem] theorem Zlf : Tryz.prog.stoodInHeld 126=false:=kf
@[go_sem] theorem ZC0 : tpl Tryz.prog 126=some (plL [(0,1),(1,1)]):=kf
@[go_sem] theorem ZEz (d:Nat) (a b:List PV):Zld Tryz.prog d 126 (Tryz.prog.underlying 126) (.agg a) (.agg b)=Zi1 (eqP (Uh Tryz.prog d 3) (apart Tryz.prog 3 a 0) (apart Tryz.prog 3 b 0)) (Zi1 (eqP (Uh Tryz.prog d 4) (apart Tryz.prog 4 a 1) (apart Tryz.prog 4 b 1)) (some true)):=by rw [Tryz.underlying126,Vu Zlf];simp [Q4,Zaf]
@[go_sem] theorem ZCI : Tryz.prog.eqGuardType Tryz.prog.depth 126=false:=kf
@[go_sem] theorem Zwp : ZL Tryz.prog 126=some [.int .i64 0,.bool false]:=kf
@[go_sem] theorem ZEh : Tryz.prog.underlying 133=some (.int .u64):=kf
@[go_sem] theorem Zu4 : ZN Tryz.prog 135 0=some 0:=kf
@[go_sem] theorem ZsR : ZN Tryz.prog 135 1=some 1:=kf
@[go_sem] theorem ZEu : tpl Tryz.prog 135=some (plL [(0,1),(1,1)]):=kf
@[go_sem] theorem ZtB : ZL Tryz.prog 135=some [.int .i64 0,.str []]:=kf
@[go_sem] theorem ZEH : Tryz.prog.underlying 138=some (.slice 37):=kf
@[go_sem] theorem ZCt : YY Tryz.prog 138=some (none,1):=kf
@[go_sem] theorem ZCv : QI Tryz.prog 138=some 1:=kf
@[go_sem] theorem ZoN : Zaq Tryz.prog 138=some (1,8):=kf
@[go_sem] theorem Zub (H:List AM.Obj) (u:TypeId) (o n:Nat) (y:V):VE Tryz.prog H 138 u (.sl o 0 n n) y=JE H (some (1,8)) (oat H o) o n (X8 (Tryz.prog.underlying u) H y):=XB ZoN
@[go_sem] theorem ZC9 : tsz Tryz.prog 143=some 1:=kf
@[go_sem] theorem ZCu : XF Tryz.prog 143=some false:=kf
@[go_sem] theorem ZE0 : tsz Tryz.prog 145=some 1:=kf
@[go_sem] theorem ZAR : XF Tryz.prog 145=some false:=kf
@[go_sem] theorem Zzt : YY Tryz.prog 145=some (none,1):=kf
@[go_sem] theorem ZvT : ZN Tryz.prog 147 0=some 0:=kf
@[go_sem] theorem ZqZ : ZN Tryz.prog 147 1=some 6:=kf
@[go_sem] theorem Zvx : ZN Tryz.prog 147 2=some 7:=kf
@[go_sem] theorem ZvE : ZN Tryz.prog 147 3=some 8:=kf
@[go_sem] theorem Zti : ZN Tryz.prog 147 4=some 9:=kf
@[go_sem] theorem ZC7 : tpl Tryz.prog 147=some (plL [(0,6),(6,1),(7,1),(8,1),(9,1)]):=kf
@[go_sem] theorem ZqQ : ZL Tryz.prog 147=some [.list true [],.list true [],.list true [],.list true [],.list true [],.list true [],.list true [],.list true [],.nilm,.int .i64 0]:=kf
@[go_sem] theorem Zr4 : ZN Tryz.prog 159 0=some 0:=kf
@[go_sem] theorem Zsv : ZN Tryz.prog 159 1=some 6:=kf
@[go_sem] theorem Zs0 : ZN Tryz.prog 159 2=some 7:=kf
@[go_sem] theorem ZqN : ZN Tryz.prog 159 3=some 8:=kf
@[go_sem] theorem Zue : ZN Tryz.prog 159 4=some 9:=kf
@[go_sem] theorem Zvu : ZN Tryz.prog 159 5=some 16:=kf
@[go_sem] theorem ZDy : tpl Tryz.prog 159=some (plL [(0,6),(6,1),(7,1),(8,1),(9,7),(16,1)]):=kf
@[go_sem] theorem ZrH : ZL Tryz.prog 159=some [.list true [],.list true [],.list true [],.list true [],.list true [],.list true [],.int .i64 0,.int .i64 0,.int .i64 0,.int .i64 0,.int .i64 0,.int .i64 0,.int .i64 0,.int .i64 0,.list true [],.list true [],.bool false]:=kf
@[go_sem] theorem ZCH : Tryz.prog.underlying 163=some (.slice 225):=kf
@[go_sem] theorem ZBT : YY Tryz.prog 163=some (none,2):=kf
@[go_sem] theorem ZAz : QI Tryz.prog 163=some 2:=kf
@[go_sem] theorem Zik : Zaq Tryz.prog 163=some (2,16):=kf
@[go_sem] theorem Zq8 (H:List AM.Obj) (u:TypeId) (y:V):VE Tryz.prog H 163 u (.p (.list true [])) y=Zl8 H (some (2,16)) (X8 (Tryz.prog.underlying u) H y):=Qn Zik
@[go_sem] theorem Zty (H:List AM.Obj) (u:TypeId) (o n:Nat) (y:V):VE Tryz.prog H 163 u (.sl o 0 n n) y=JE H (some (2,16)) (oat H o) o n (X8 (Tryz.prog.underlying u) H y):=XB Zik
@[go_sem] theorem Zwb : ZN Tryz.prog 171 0=some 0:=kf
@[go_sem] theorem ZtX : ZN Tryz.prog 171 1=some 6:=kf
@[go_sem] theorem ZqA : ZN Tryz.prog 171 2=some 7:=kf
@[go_sem] theorem ZEv : tpl Tryz.prog 171=some (plL [(0,6),(6,1),(7,3)]):=kf
@[go_sem] theorem Zt5 : ZL Tryz.prog 171=some [.list true [],.list true [],.list true [],.list true [],.list true [],.list true [],.list true [],.bool false,.list true [],.int .i64 0]:=kf
@[go_sem] theorem ZDj : Tryz.prog.underlying 173=some (.slice 61):=kf
@[go_sem] theorem ZCy : YY Tryz.prog 173=some (none,1):=kf
@[go_sem] theorem ZBA : QI Tryz.prog 173=some 1:=kf
@[go_sem] theorem ZEj : Tryz.prog.underlying 192=some (.slice 197):=kf
@[go_sem] theorem ZDw : tsz Tryz.prog 192=some 1:=kf
@[go_sem] theorem ZzX : XF Tryz.prog 192=some false:=kf
@[go_sem] theorem ZAB : YY Tryz.prog 192=some (none,2):=kf
@[go_sem] theorem ZC6 : tsz Tryz.prog 194=some 6:=kf
@[go_sem] theorem ZBD : XF Tryz.prog 194=some true:=kf
@[go_sem] theorem Zvn : ZN Tryz.prog 194 0=some 0:=kf
@[go_sem] theorem Zts : ZN Tryz.prog 194 1=some 1:=kf
@[go_sem] theorem Zvz : ZN Tryz.prog 194 2=some 2:=kf
@[go_sem] theorem Zq9 : ZN Tryz.prog 194 3=some 3:=kf
@[go_sem] theorem ZsY : ZN Tryz.prog 194 4=some 4:=kf
@[go_sem] theorem Zrb : ZN Tryz.prog 194 5=some 5:=kf
@[go_sem] theorem ZEa : tpl Tryz.prog 194=some (plL [(0,1),(1,1),(2,1),(3,1),(4,1),(5,1)]):=kf
@[go_sem] theorem ZuO : ZL Tryz.prog 194=some [.int .i64 0,.int .i64 0,.int .i64 0,.int .i64 0,.list true [],.list true []]:=kf
@[go_sem] theorem ZED : tsz Tryz.prog 197=some 2:=kf
@[go_sem] theorem ZB1 : XF Tryz.prog 197=some true:=kf
@[go_sem] theorem Zva : ZN Tryz.prog 197 0=some 0:=kf
@[go_sem] theorem Zq4 : ZN Tryz.prog 197 1=some 1:=kf
@[go_sem] theorem Zqy : ZL Tryz.prog 197=some [.int .i64 0,.int .i64 0]:=kf
@[go_sem] theorem ZDb : Tryz.prog.underlying 200=some (.slice 5):=kf
@[go_sem] theorem Zzu : QI Tryz.prog 200=some 1:=kf
@[go_sem] theorem ZC2 : tsz Tryz.prog 202=some 2:=kf
@[go_sem] theorem ZB4 : XF Tryz.prog 202=some true:=kf
@[go_sem] theorem ZCf : YY Tryz.prog 202=some ((some 2),1):=kf
@[go_sem] theorem Zwz : ZL Tryz.prog 202=some [.int .i64 0,.int .i64 0]:=kf
@[go_sem] theorem ZDP : tsz Tryz.prog 207=some 2:=kf
@[go_sem] theorem ZCC : XF Tryz.prog 207=some true:=kf
@[go_sem] theorem ZEU : tpl Tryz.prog 207=some (plL [(0,1),(1,1)]):=kf
@[go_sem] theorem Zs1 : ZL Tryz.prog 207=some [.int .i64 0,.int .i64 0]:=kf
@[go_sem] theorem ZEo : tsz Tryz.prog 225=some 2:=kf
@[go_sem] theorem ZAw : XF Tryz.prog 225=some true:=kf
@[go_sem] theorem Zux : ZN Tryz.prog 225 0=some 0:=kf
@[go_sem] theorem ZrR : ZN Tryz.prog 225 1=some 1:=kf
@[go_sem] theorem Zks : Tryz.prog.stoodInHeld 225=false:=kf
@[go_sem] theorem ZEd : tpl Tryz.prog 225=some (plL [(0,1),(1,1)]):=kf
@[go_sem] theorem ZC1 (d:Nat) (a b:List PV):Zld Tryz.prog d 225 (Tryz.prog.underlying 225) (.agg a) (.agg b)=Zi1 (eqP (Uh Tryz.prog d 3) (apart Tryz.prog 3 a 0) (apart Tryz.prog 3 b 0)) (Zi1 (eqP (Uh Tryz.prog d 3) (apart Tryz.prog 3 a 1) (apart Tryz.prog 3 b 1)) (some true)):=by rw [Tryz.underlying225,Vu Zks];simp [Q4,Zaf]
@[go_sem] theorem ZDN : Tryz.prog.eqGuardType Tryz.prog.depth 225=false:=kf
@[go_sem] theorem Zr7 : ZL Tryz.prog 225=some [.int .i64 0,.int .i64 0]:=kf
@[go_sem] theorem ZDH : Tryz.prog.underlying 237=some (.slice 34):=kf
@[go_sem] theorem Zz7 : YY Tryz.prog 237=some (none,1):=kf
@[go_sem] theorem ZBz : QI Tryz.prog 237=some 1:=kf
@[go_sem] theorem Zoz : Zaq Tryz.prog 237=some (1,24):=kf
@[go_sem] theorem ZrB (H:List AM.Obj) (u:TypeId) (o n:Nat) (y:V):VE Tryz.prog H 237 u (.sl o 0 n n) y=JE H (some (1,24)) (oat H o) o n (X8 (Tryz.prog.underlying u) H y):=XB Zoz
@[go_sem] theorem ZEq : Tryz.prog.underlying 242=some (.slice 66):=kf
@[go_sem] theorem ZDh : tsz Tryz.prog 242=some 1:=kf
@[go_sem] theorem ZB2 : XF Tryz.prog 242=some false:=kf
@[go_sem] theorem ZBa : YY Tryz.prog 242=some (none,4):=kf
@[go_sem] theorem ZAZ : QI Tryz.prog 242=some 4:=kf
@[go_sem] theorem ZnD : Zaq Tryz.prog 242=some (4,32):=kf
@[go_sem] theorem Zv0 (H:List AM.Obj) (u:TypeId) (o n:Nat) (y:V):VE Tryz.prog H 242 u (.sl o 0 n n) y=JE H (some (4,32)) (oat H o) o n (X8 (Tryz.prog.underlying u) H y):=XB ZnD
@[go_sem] theorem ZDX : tsz Tryz.prog 244=some 25:=kf
@[go_sem] theorem ZAU : XF Tryz.prog 244=some true:=kf
@[go_sem] theorem Zuu : ZN Tryz.prog 244 0=some 0:=kf
@[go_sem] theorem ZtS : ZN Tryz.prog 244 1=some 6:=kf
@[go_sem] theorem ZsI : ZN Tryz.prog 244 2=some 20:=kf
@[go_sem] theorem Zvl : ZN Tryz.prog 244 3=some 24:=kf
@[go_sem] theorem ZD0 : tpl Tryz.prog 244=some (plL [(0,6),(6,14),(20,4),(24,1)]):=kf
@[go_sem] theorem ZvD : ZL Tryz.prog 244=some [.list true [],.list true [],.list true [],.list true [],.list true [],.list true [],.str [],.int .i64 0,.int .i64 0,.int .i64 0,.list true [],.int .i64 0,.int .i64 0,.int .i64 0,.int .i64 0,.int .i64 0,.int .i64 0,.int .i64 0,.int .i64 0,.int .i64 0,.int .i64 0,.int .i64 0,.list true [],.list true [],.list true []]:=kf
@[go_sem] theorem ZCM : tsz Tryz.prog 248=some 7:=kf
@[go_sem] theorem ZBq : XF Tryz.prog 248=some true:=kf
@[go_sem] theorem Zt2 : ZN Tryz.prog 248 0=some 0:=kf
@[go_sem] theorem Zwn : ZN Tryz.prog 248 1=some 1:=kf
@[go_sem] theorem ZvJ : ZN Tryz.prog 248 2=some 2:=kf
@[go_sem] theorem ZEQ : tpl Tryz.prog 248=some (plL [(0,1),(1,1),(2,5)]):=kf
@[go_sem] theorem ZrA : ZL Tryz.prog 248=some [.int .i64 0,.int .i64 0,.bool false,.int .i64 0,.list true [],.int .i64 0,.int .i64 0]:=kf
@[go_sem] theorem ZD8 : Tryz.prog.underlying 250=some (.slice 248):=kf
@[go_sem] theorem ZAi : YY Tryz.prog 250=some (none,7):=kf
@[go_sem] theorem ZBK : QI Tryz.prog 250=some 7:=kf
@[go_sem] theorem Zo2 : Zaq Tryz.prog 250=some (7,72):=kf
@[go_sem] theorem Ztj (H:List AM.Obj) (u:TypeId) (o n:Nat) (y:V):VE Tryz.prog H 250 u (.sl o 0 n n) y=JE H (some (7,72)) (oat H o) o n (X8 (Tryz.prog.underlying u) H y):=XB Zo2
@[go_sem] theorem Zz0 : YY Tryz.prog 264=some ((some 64),1):=kf
@[go_sem] theorem ZCT : tsz Tryz.prog 298=some 4:=kf
@[go_sem] theorem ZBU : XF Tryz.prog 298=some true:=kf
@[go_sem] theorem Zr2 : ZN Tryz.prog 298 1=some 1:=kf
@[go_sem] theorem Zu9 : ZN Tryz.prog 298 2=some 2:=kf
@[go_sem] theorem ZvF : ZN Tryz.prog 298 3=some 3:=kf
@[go_sem] theorem ZES : tpl Tryz.prog 298=some (plL [(0,1),(1,1),(2,1),(3,1)]):=kf
@[go_sem] theorem Zqv : ZL Tryz.prog 298=some [.int .i64 0,.int .i64 0,.int .i64 0,.bool false]:=kf
@[go_sem] theorem ZEx : tsz Tryz.prog 302=some 3:=kf
@[go_sem] theorem ZBG : XF Tryz.prog 302=some true:=kf
@[go_sem] theorem Zj8 : Tryz.prog.stoodInHeld 302=false:=kf
@[go_sem] theorem ZCN : tpl Tryz.prog 302=some (plL [(0,1),(1,1),(2,1)]):=kf
@[go_sem] theorem ZEI (d:Nat) (a b:List PV):Zld Tryz.prog d 302 (Tryz.prog.underlying 302) (.agg a) (.agg b)=Zi1 (eqP (Uh Tryz.prog d 3) (apart Tryz.prog 3 a 0) (apart Tryz.prog 3 b 0)) (Zi1 (eqP (Uh Tryz.prog d 3) (apart Tryz.prog 3 a 1) (apart Tryz.prog 3 b 1)) (Zi1 (eqP (Uh Tryz.prog d 3) (apart Tryz.prog 3 a 2) (apart Tryz.prog 3 b 2)) (some true))):=by rw [Tryz.underlying302,Vu Zj8];simp [Q4,Zaf]
@[go_sem] theorem ZD1 : Tryz.prog.eqGuardType Tryz.prog.depth 302=false:=kf
@[go_sem] theorem ZtJ : ZL Tryz.prog 302=some [.int .i64 0,.int .i64 0,.int .i64 0]:=kf
@[go_sem] theorem ZDV : tsz Tryz.prog 319=some 4:=kf
@[go_sem] theorem ZAh : XF Tryz.prog 319=some true:=kf
@[go_sem] theorem ZsW : ZN Tryz.prog 319 0=some 0:=kf
@[go_sem] theorem Zvc : ZN Tryz.prog 319 1=some 1:=kf
@[go_sem] theorem ZuU : ZN Tryz.prog 319 2=some 2:=kf
@[go_sem] theorem Zul : ZN Tryz.prog 319 3=some 3:=kf
@[go_sem] theorem ZDe : tpl Tryz.prog 319=some (plL [(0,1),(1,1),(2,1),(3,1)]):=kf
@[go_sem] theorem Zt0 : ZL Tryz.prog 319=some [.int .i64 0,.int .i64 0,.int .i64 0,.int .i64 0]:=kf
theorem ZFy : Zh Tryz.prog 3:=fun args w=>Tryz.call3 args w
theorem ZFg : Zh Tryz.prog 6:=fun args w=>Tryz.call6 args w
theorem ZFe : Zh Tryz.prog 7:=fun args w=>Tryz.call7 args w
theorem ZFc : Zh Tryz.prog 8:=fun args w=>Tryz.call8 args w
theorem ZFP : Zh Tryz.prog 9:=fun args w=>Tryz.call9 args w
theorem Zz1 : Zh Tryz.prog 10:=fun args w=>Tryz.call10 args w
theorem ZAk : Zh Tryz.prog 15:=fun args w=>Tryz.call15 args w
theorem ZzU : Zh Tryz.prog 16:=fun args w=>Tryz.call16 args w
theorem ZBJ : Zh Tryz.prog 17:=fun args w=>Tryz.call17 args w
theorem ZBS : Zh Tryz.prog 18:=fun args w=>Tryz.call18 args w
theorem ZCG : Zh Tryz.prog 19:=fun args w=>Tryz.call19 args w
theorem ZA4 : Zh Tryz.prog 20:=fun args w=>Tryz.call20 args w
theorem ZB6 : Zh Tryz.prog 21:=fun args w=>Tryz.call21 args w
theorem ZAY : Zh Tryz.prog 22:=fun args w=>Tryz.call22 args w
theorem ZBZ : Zh Tryz.prog 31:=fun args w=>Tryz.call31 args w
theorem Zz6 : Zh Tryz.prog 39:=fun args w=>Tryz.call39 args w
theorem ZzC : Zh Tryz.prog 40:=fun args w=>Tryz.call40 args w
theorem ZAv : Zh Tryz.prog 43:=fun args w=>Tryz.call43 args w
theorem ZBX : Zh Tryz.prog 44:=fun args w=>Tryz.call44 args w
theorem ZzM : Zh Tryz.prog 45:=fun args w=>Tryz.call45 args w
theorem Zzx : Zh Tryz.prog 46:=fun args w=>Tryz.call46 args w
theorem ZAe : Zh Tryz.prog 47:=fun args w=>Tryz.call47 args w
theorem ZAn : Zh Tryz.prog 48:=fun args w=>Tryz.call48 args w
theorem ZAV : Zh Tryz.prog 49:=fun args w=>Tryz.call49 args w
theorem ZBu : Zh Tryz.prog 50:=fun args w=>Tryz.call50 args w
theorem ZAW : Zh Tryz.prog 51:=fun args w=>Tryz.call51 args w
theorem ZA3 : Zh Tryz.prog 52:=fun args w=>Tryz.call52 args w
theorem Zrj : Zh Tryz.prog 53:=fun args w=>Tryz.call53 args w
theorem ZAc : Zh Tryz.prog 54:=fun args w=>Tryz.call54 args w
theorem ZCi : Zh Tryz.prog 55:=fun args w=>Tryz.call55 args w
theorem Zz2 : Zh Tryz.prog 56:=fun args w=>Tryz.call56 args w
theorem ZCj : Zh Tryz.prog 57:=fun args w=>Tryz.call57 args w
theorem ZAb : Zh Tryz.prog 58:=fun args w=>Tryz.call58 args w
theorem ZBd : Zh Tryz.prog 59:=fun args w=>Tryz.call59 args w
theorem ZBn : Zh Tryz.prog 60:=fun args w=>Tryz.call60 args w
theorem ZAH : Zh Tryz.prog 61:=fun args w=>Tryz.call61 args w
theorem ZAa : Zh Tryz.prog 62:=fun args w=>Tryz.call62 args w
theorem ZAA : Zh Tryz.prog 63:=fun args w=>Tryz.call63 args w
theorem ZCE : Zh Tryz.prog 64:=fun args w=>Tryz.call64 args w
theorem ZzK : Zh Tryz.prog 65:=fun args w=>Tryz.call65 args w
theorem ZCz : Zh Tryz.prog 69:=fun args w=>Tryz.call69 args w
theorem ZBl : Zh Tryz.prog 74:=fun args w=>Tryz.call74 args w
theorem ZAj : Zh Tryz.prog 75:=fun args w=>Tryz.call75 args w
theorem ZBQ : Zh Tryz.prog 76:=fun args w=>Tryz.call76 args w
theorem ZAC : Zh Tryz.prog 77:=fun args w=>Tryz.call77 args w
theorem ZBF : Zh Tryz.prog 78:=fun args w=>Tryz.call78 args w
theorem ZCq : Zh Tryz.prog 79:=fun args w=>Tryz.call79 args w
theorem Zzz : Zh Tryz.prog 80:=fun args w=>Tryz.call80 args w
theorem ZA8 : Zh Tryz.prog 81:=fun args w=>Tryz.call81 args w
theorem Zz3 : Zh Tryz.prog 82:=fun args w=>Tryz.call82 args w
theorem ZAs : Zh Tryz.prog 83:=fun args w=>Tryz.call83 args w
theorem ZzS : Zh Tryz.prog 84:=fun args w=>Tryz.call84 args w
theorem ZCA : Zh Tryz.prog 85:=fun args w=>Tryz.call85 args w
theorem ZB0 : Zh Tryz.prog 86:=fun args w=>Tryz.call86 args w
theorem ZAo : Zh Tryz.prog 87:=fun args w=>Tryz.call87 args w
theorem ZB8 : Zh Tryz.prog 89:=fun args w=>Tryz.call89 args w
theorem ZCs : Zh Tryz.prog 90:=fun args w=>Tryz.call90 args w
theorem Zzw : Zh Tryz.prog 91:=fun args w=>Tryz.call91 args w
theorem ZzA : Zh Tryz.prog 92:=fun args w=>Tryz.call92 args w
theorem Ztc : Zh Tryz.prog 93:=fun args w=>Tryz.call93 args w
theorem ZuD : Zh Tryz.prog 94:=fun args w=>Tryz.call94 args w
theorem ZAd : Zh Tryz.prog 95:=fun args w=>Tryz.call95 args w
theorem Zsc : Zh Tryz.prog 96:=fun args w=>Tryz.call96 args w
theorem ZAP : Zh Tryz.prog 97:=fun args w=>Tryz.call97 args w
theorem ZuC : Zh Tryz.prog 98:=fun args w=>Tryz.call98 args w
theorem ZzV : Zh Tryz.prog 99:=fun args w=>Tryz.call99 args w
theorem Zqt : Zh Tryz.prog 100:=fun args w=>Tryz.call100 args w
theorem ZsT : Zh Tryz.prog 101:=fun args w=>Tryz.call101 args w
theorem ZtF : Zh Tryz.prog 102:=fun args w=>Tryz.call102 args w
theorem ZqM : Zh Tryz.prog 103:=fun args w=>Tryz.call103 args w
theorem Zur : Zh Tryz.prog 104:=fun args w=>Tryz.call104 args w
theorem ZuH : Zh Tryz.prog 118:=fun args w=>Tryz.call118 args w
theorem ZuN : Zh Tryz.prog 119:=fun args w=>Tryz.call119 args w
theorem Zwu : Zh Tryz.prog 120:=fun args w=>Tryz.call120 args w
theorem Zqq : Zh Tryz.prog 121:=fun args w=>Tryz.call121 args w
theorem Zv8 : Zh Tryz.prog 122:=fun args w=>Tryz.call122 args w
theorem Zwt : Zh Tryz.prog 123:=fun args w=>Tryz.call123 args w
theorem Zt9 : Zh Tryz.prog 124:=fun args w=>Tryz.call124 args w
theorem Ztw : Zh Tryz.prog 125:=fun args w=>Tryz.call125 args w
theorem Zrx : Zh Tryz.prog 126:=fun args w=>Tryz.call126 args w
theorem Zto : Zh Tryz.prog 127:=fun args w=>Tryz.call127 args w
theorem Zua : Zh Tryz.prog 128:=fun args w=>Tryz.call128 args w
theorem ZrC : Zh Tryz.prog 129:=fun args w=>Tryz.call129 args w
theorem ZqV : Zh Tryz.prog 130:=fun args w=>Tryz.call130 args w
theorem Ym : Zh Tryz.prog 140:=fun args w=>Tryz.call140 args w
theorem ZrY : Zh Tryz.prog 141:=fun args w=>Tryz.call141 args w
theorem ZmM : Zh Tryz.prog 142:=fun args w=>Tryz.call142 args w
theorem Zri : Zh Tryz.prog 143:=fun args w=>Tryz.call143 args w
theorem ZuX : Zh Tryz.prog 144:=fun args w=>Tryz.call144 args w
theorem ZuW : Zh Tryz.prog 145:=fun args w=>Tryz.call145 args w
theorem ZwD : Zh Tryz.prog 146:=fun args w=>Tryz.call146 args w
theorem ZtN : Zh Tryz.prog 147:=fun args w=>Tryz.call147 args w
theorem Zvj : Zh Tryz.prog 148:=fun args w=>Tryz.call148 args w
theorem ZqF : Zh Tryz.prog 149:=fun args w=>Tryz.call149 args w
theorem ZmP : Zh Tryz.prog 150:=fun args w=>Tryz.call150 args w
theorem Zud : Zh Tryz.prog 151:=fun args w=>Tryz.call151 args w
theorem Zs2 : Zh Tryz.prog 152:=fun args w=>Tryz.call152 args w
theorem ZqR : Zh Tryz.prog 153:=fun args w=>Tryz.call153 args w
theorem ZuJ : Zh Tryz.prog 154:=fun args w=>Tryz.call154 args w
theorem Zt8 : Zh Tryz.prog 155:=fun args w=>Tryz.call155 args w
theorem ZtP : Zh Tryz.prog 156:=fun args w=>Tryz.call156 args w
theorem Zr9 : Zh Tryz.prog 157:=fun args w=>Tryz.call157 args w
theorem Ztm : Zh Tryz.prog 158:=fun args w=>Tryz.call158 args w
theorem Zrr : Zh Tryz.prog 159:=fun args w=>Tryz.call159 args w
theorem Zrn : Zh Tryz.prog 160:=fun args w=>Tryz.call160 args w
theorem Zsu : Zh Tryz.prog 161:=fun args w=>Tryz.call161 args w
theorem Zvq : Zh Tryz.prog 162:=fun args w=>Tryz.call162 args w
theorem ZqL : Zh Tryz.prog 163:=fun args w=>Tryz.call163 args w
theorem Zsg : Zh Tryz.prog 164:=fun args w=>Tryz.call164 args w
theorem Zt3 : Zh Tryz.prog 165:=fun args w=>Tryz.call165 args w
theorem Zsi : Zh Tryz.prog 166:=fun args w=>Tryz.call166 args w
theorem ZrD : Zh Tryz.prog 167:=fun args w=>Tryz.call167 args w
theorem ZtO : Zh Tryz.prog 168:=fun args w=>Tryz.call168 args w
theorem Zwq : Zh Tryz.prog 169:=fun args w=>Tryz.call169 args w
theorem ZrJ : Zh Tryz.prog 170:=fun args w=>Tryz.call170 args w
theorem ZqT : Zh Tryz.prog 171:=fun args w=>Tryz.call171 args w
theorem Ztq : Zh Tryz.prog 172:=fun args w=>Tryz.call172 args w
theorem Zwc : Zh Tryz.prog 173:=fun args w=>Tryz.call173 args w
theorem Zmq : Zh Tryz.prog 174:=fun args w=>Tryz.call174 args w
theorem Zst : Zh Tryz.prog 175:=fun args w=>Tryz.call175 args w
theorem Ztn : Zh Tryz.prog 176:=fun args w=>Tryz.call176 args w
theorem Zwa : Zh Tryz.prog 177:=fun args w=>Tryz.call177 args w
theorem ZuL : Zh Tryz.prog 178:=fun args w=>Tryz.call178 args w
theorem ZvN : Zh Tryz.prog 185:=fun args w=>Tryz.call185 args w
theorem Zq2 : Zh Tryz.prog 186:=fun args w=>Tryz.call186 args w
theorem ZsX : Zh Tryz.prog 190:=fun args w=>Tryz.call190 args w
theorem ZsG : Zh Tryz.prog 191:=fun args w=>Tryz.call191 args w
theorem Zq1 : Zh Tryz.prog 192:=fun args w=>Tryz.call192 args w
theorem Zt1 : Zh Tryz.prog 193:=fun args w=>Tryz.call193 args w
theorem Zr8 : Zh Tryz.prog 194:=fun args w=>Tryz.call194 args w
theorem Zu0 : Zh Tryz.prog 195:=fun args w=>Tryz.call195 args w
theorem Zru : Zh Tryz.prog 196:=fun args w=>Tryz.call196 args w
theorem Zqi : Zh Tryz.prog 197:=fun args w=>Tryz.call197 args w
theorem ZqK : Zh Tryz.prog 198:=fun args w=>Tryz.call198 args w
theorem Zuc : Zh Tryz.prog 199:=fun args w=>Tryz.call199 args w
theorem Zv5 : Zh Tryz.prog 200:=fun args w=>Tryz.call200 args w
theorem Ztx : Zh Tryz.prog 201:=fun args w=>Tryz.call201 args w
theorem ZtC : Zh Tryz.prog 202:=fun args w=>Tryz.call202 args w
theorem ZrX : Zh Tryz.prog 203:=fun args w=>Tryz.call203 args w
theorem Ztf : Zh Tryz.prog 204:=fun args w=>Tryz.call204 args w
theorem ZsO : Zh Tryz.prog 205:=fun args w=>Tryz.call205 args w
theorem Zsr : Zh Tryz.prog 206:=fun args w=>Tryz.call206 args w
theorem ZrF : Zh Tryz.prog 207:=fun args w=>Tryz.call207 args w
theorem Ztu : Zh Tryz.prog 208:=fun args w=>Tryz.call208 args w
theorem ZwA : Zh Tryz.prog 209:=fun args w=>Tryz.call209 args w
theorem ZsP : Zh Tryz.prog 210:=fun args w=>Tryz.call210 args w
theorem Zuo : Zh Tryz.prog 211:=fun args w=>Tryz.call211 args w
theorem Zrs : Zh Tryz.prog 212:=fun args w=>Tryz.call212 args w
theorem ZuF : Zh Tryz.prog 213:=fun args w=>Tryz.call213 args w
theorem Zqr : Zh Tryz.prog 214:=fun args w=>Tryz.call214 args w
theorem ZvW : Zh Tryz.prog 215:=fun args w=>Tryz.call215 args w
theorem Zqp : Zh Tryz.prog 219:=fun args w=>Tryz.call219 args w
theorem ZtA : Zh Tryz.prog 220:=fun args w=>Tryz.call220 args w
theorem Zr0 : Zh Tryz.prog 221:=fun args w=>Tryz.call221 args w
theorem ZsA : Zh Tryz.prog 222:=fun args w=>Tryz.call222 args w
theorem Zvw : Zh Tryz.prog 223:=fun args w=>Tryz.call223 args w
theorem Ztz : Zh Tryz.prog 224:=fun args w=>Tryz.call224 args w
theorem Ztv : Zh Tryz.prog 225:=fun args w=>Tryz.call225 args w
theorem Zsx : Zh Tryz.prog 226:=fun args w=>Tryz.call226 args w
theorem Zs3 : Zh Tryz.prog 227:=fun args w=>Tryz.call227 args w
theorem ZvS : Zh Tryz.prog 228:=fun args w=>Tryz.call228 args w
theorem Zs5 : Zh Tryz.prog 229:=fun args w=>Tryz.call229 args w
theorem ZlN : Zh Tryz.prog 230:=fun args w=>Tryz.call230 args w
theorem ZqP : Zh Tryz.prog 231:=fun args w=>Tryz.call231 args w
theorem Zrg : Zh Tryz.prog 232:=fun args w=>Tryz.call232 args w
theorem Zuw : Zh Tryz.prog 233:=fun args w=>Tryz.call233 args w
theorem Zs6 : Zh Tryz.prog 234:=fun args w=>Tryz.call234 args w
theorem ZuI : Zh Tryz.prog 235:=fun args w=>Tryz.call235 args w
theorem Zr3 : Zh Tryz.prog 236:=fun args w=>Tryz.call236 args w
theorem Zvd : Zh Tryz.prog 237:=fun args w=>Tryz.call237 args w
theorem Zr5 : Zh Tryz.prog 238:=fun args w=>Tryz.call238 args w
theorem ZsL : Zh Tryz.prog 239:=fun args w=>Tryz.call239 args w
theorem Zq3 : Zh Tryz.prog 240:=fun args w=>Tryz.call240 args w
theorem ZuY : Zh Tryz.prog 241:=fun args w=>Tryz.call241 args w
theorem Zsf : Zh Tryz.prog 242:=fun args w=>Tryz.call242 args w
theorem Zwd : Zh Tryz.prog 243:=fun args w=>Tryz.call243 args w
theorem Zun : Zh Tryz.prog 244:=fun args w=>Tryz.call244 args w
theorem ZvZ : Zh Tryz.prog 245:=fun args w=>Tryz.call245 args w
theorem Zu1 : Zh Tryz.prog 246:=fun args w=>Tryz.call246 args w
theorem Zv9 : Zh Tryz.prog 247:=fun args w=>Tryz.call247 args w
theorem Zte : Zh Tryz.prog 248:=fun args w=>Tryz.call248 args w
theorem ZtQ : Zh Tryz.prog 249:=fun args w=>Tryz.call249 args w
theorem ZqW : Zh Tryz.prog 250:=fun args w=>Tryz.call250 args w
theorem ZwC : Zh Tryz.prog 251:=fun args w=>Tryz.call251 args w
theorem ZsF : Zh Tryz.prog 252:=fun args w=>Tryz.call252 args w
theorem ZwE : Zh Tryz.prog 253:=fun args w=>Tryz.call253 args w
theorem Ztp : Zh Tryz.prog 254:=fun args w=>Tryz.call254 args w
theorem ZuT : Zh Tryz.prog 255:=fun args w=>Tryz.call255 args w
theorem Zwy : Zh Tryz.prog 256:=fun args w=>Tryz.call256 args w
theorem Zwm : Zh Tryz.prog 257:=fun args w=>Tryz.call257 args w
theorem Zve : Zh Tryz.prog 258:=fun args w=>Tryz.call258 args w
theorem ZwJ : Zh Tryz.prog 259:=fun args w=>Tryz.call259 args w
theorem Zq0 : Zh Tryz.prog 260:=fun args w=>Tryz.call260 args w
theorem ZrQ : Zh Tryz.prog 261:=fun args w=>Tryz.call261 args w
theorem ZvA : Zh Tryz.prog 262:=fun args w=>Tryz.call262 args w
theorem Zwj : Zh Tryz.prog 263:=fun args w=>Tryz.call263 args w
theorem ZvK : Zh Tryz.prog 264:=fun args w=>Tryz.call264 args w
theorem Zsh : Zh Tryz.prog 265:=fun args w=>Tryz.call265 args w
theorem Zt6 : Zh Tryz.prog 266:=fun args w=>Tryz.call266 args w
theorem Ztd : Zh Tryz.prog 267:=fun args w=>Tryz.call267 args w
theorem Zvk : Zh Tryz.prog 268:=fun args w=>Tryz.call268 args w
theorem ZsN : Zh Tryz.prog 269:=fun args w=>Tryz.call269 args w
theorem Zvy : Zh Tryz.prog 270:=fun args w=>Tryz.call270 args w
theorem Zrz : Zh Tryz.prog 271:=fun args w=>Tryz.call271 args w
theorem ZtH : Zh Tryz.prog 272:=fun args w=>Tryz.call272 args w
theorem Zut : Zh Tryz.prog 273:=fun args w=>Tryz.call273 args w
theorem ZqU : Zh Tryz.prog 274:=fun args w=>Tryz.call274 args w
theorem Zsq : Zh Tryz.prog 278:=fun args w=>Tryz.call278 args w
theorem mixed : Tryz.prog.follows .mixedOrders=true:=by kernel_rfl
end Go.Proofs.YthmplgaldjpgiaaGreatDoor.K
