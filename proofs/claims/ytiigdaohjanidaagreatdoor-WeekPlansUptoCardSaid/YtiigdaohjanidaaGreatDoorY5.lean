/- Declarations that the closing texts need, part 5: joined by tools/slim.py. -/
import Derived.Test.YtiigdaohjanidaaGreatDoorY4
import Derived.KernelRfl
import Derived.Test.YtiigdaohjanidaaGreatDoorProg
namespace Go.Proofs.YtiigdaohjanidaaGreatDoor.K
open Go Go.AM Go.Proofs
abbrev PC (f:FuncId) (a:List V) (y:PV):=ACalls Tryz.prog f a [] fun x H'=>x= .p y/\H'= []
abbrev PT (f:FuncId) (a:List V) (b:List V):=ACalls Tryz.prog f a [] fun x H'=>x= .tup b/\H'= []
theorem kf {α:Type} {a b:α} (h:a=b:=by kernel_rfl):a=b:=Zw h rfl
theorem Zd {p:Prop} (h:p:=by kernel_rfl):p:=h
@[go_sem] theorem Zpi : Tryz.prog.underlying 3=some (.int .i64):=kf
@[go_sem] theorem ZnB : Yw Tryz.prog 3=some 1:=kf
@[go_sem] theorem Zos : Xw Tryz.prog 3=some false:=kf
@[go_sem] theorem Zlo : Xf Tryz.prog 3=some [.int .i64 0]:=kf
@[go_sem] theorem Zpj : Tryz.prog.underlying 4=some .bool:=kf
@[go_sem] theorem Zpf : Yw Tryz.prog 4=some 1:=kf
@[go_sem] theorem Zot : Xw Tryz.prog 4=some false:=kf
@[go_sem] theorem Zpk : Tryz.prog.underlying 5=some (.int .u8):=kf
@[go_sem] theorem Zpg : Yw Tryz.prog 5=some 1:=kf
@[go_sem] theorem Zou : Xw Tryz.prog 5=some false:=kf
@[go_sem] theorem Zpl : Tryz.prog.underlying 9=some .string:=kf
@[go_sem] theorem Zph : Yw Tryz.prog 9=some 1:=kf
@[go_sem] theorem Zov : Xw Tryz.prog 9=some false:=kf
@[go_sem] theorem ZoY : Tryz.prog.underlying 22=some (.slice 43):=kf
@[go_sem] theorem ZmT : YK Tryz.prog 22=some (none,6):=kf
@[go_sem] theorem Zmh : UI Tryz.prog 22=some 6:=kf
@[go_sem] theorem sX : Qz Tryz.prog 22=some (6,144):=kf
@[go_sem] theorem ZfB (H:List AM.Obj) (u:TypeId) (o n:Nat) (y:V):Wy Tryz.prog H 22 u (.sl o 0 n n) y=Ud H (some (6,144)) (oat H o) o n (YA (Tryz.prog.underlying u) H y):=Yn sX
@[go_sem] theorem ZoZ : Tryz.prog.underlying 25=some (.slice 33):=kf
@[go_sem] theorem ZmU : YK Tryz.prog 25=some (none,2):=kf
@[go_sem] theorem Zmi : UI Tryz.prog 25=some 2:=kf
@[go_sem] theorem sY : Qz Tryz.prog 25=some (2,48):=kf
@[go_sem] theorem ZfC (H:List AM.Obj) (u:TypeId) (o n:Nat) (y:V):Wy Tryz.prog H 25 u (.sl o 0 n n) y=Ud H (some (2,48)) (oat H o) o n (YA (Tryz.prog.underlying u) H y):=Yn sY
@[go_sem] theorem ZoC : Yw Tryz.prog 26=some 1:=kf
@[go_sem] theorem Zmy : Xw Tryz.prog 26=some false:=kf
@[go_sem] theorem Zo0 : Tryz.prog.underlying 30=some (.slice 49):=kf
@[go_sem] theorem ZoD : Yw Tryz.prog 30=some 1:=kf
@[go_sem] theorem Zmz : Xw Tryz.prog 30=some false:=kf
@[go_sem] theorem ZmV : YK Tryz.prog 30=some (none,4):=kf
@[go_sem] theorem Zmj : UI Tryz.prog 30=some 4:=kf
@[go_sem] theorem sZ : Qz Tryz.prog 30=some (4,64):=kf
@[go_sem] theorem ZfD (H:List AM.Obj) (u:TypeId) (o n:Nat) (y:V):Wy Tryz.prog H 30 u (.sl o 0 n n) y=Ud H (some (4,64)) (oat H o) o n (YA (Tryz.prog.underlying u) H y):=Yn sZ
@[go_sem] theorem Zo1 : Tryz.prog.underlying 31=some (.slice 3):=kf
@[go_sem] theorem ZoE : Yw Tryz.prog 31=some 1:=kf
@[go_sem] theorem ZmA : Xw Tryz.prog 31=some false:=kf
@[go_sem] theorem ZmW : YK Tryz.prog 31=some (none,1):=kf
@[go_sem] theorem Zmk : UI Tryz.prog 31=some 1:=kf
@[go_sem] theorem TR : Qz Tryz.prog 31=some (1,8):=kf
@[go_sem] theorem Zfz (H:List AM.Obj) (u:TypeId) (y:V):Wy Tryz.prog H 31 u (.p (.list true [])) y=IA H (some (1,8)) (YA (Tryz.prog.underlying u) H y):=AS TR
@[go_sem] theorem ZfE (H:List AM.Obj) (u:TypeId) (o n:Nat) (y:V):Wy Tryz.prog H 31 u (.sl o 0 n n) y=Ud H (some (1,8)) (oat H o) o n (YA (Tryz.prog.underlying u) H y):=Yn TR
@[go_sem] theorem mE : LB Tryz.prog 31=some (1,8,.int .i64 0):=kf
@[go_sem] theorem Zn6 (H:List AM.Obj) (fr:List V) (x y:Operand):Wj Tryz.prog (.makeSlice 31 x y) fr H=Un (some (1,8,.int .i64 0)) H (ev fr x) (ev fr y):=Ax mE
@[go_sem] theorem ZoF : Yw Tryz.prog 33=some 2:=kf
@[go_sem] theorem ZmB : Xw Tryz.prog 33=some true:=kf
@[go_sem] theorem Zin : ZM Tryz.prog 33 0=some 0:=kf
@[go_sem] theorem Zio : ZM Tryz.prog 33 1=some 1:=kf
@[go_sem] theorem Zow : C4 Tryz.prog 33=some (CX [(0,1),(1,1)]):=kf
@[go_sem] theorem Zjl : Xf Tryz.prog 33=some [.list true [],.list true []]:=kf
@[go_sem] theorem Zo2 : Tryz.prog.underlying 35=some (.slice 9):=kf
@[go_sem] theorem ZoG : Yw Tryz.prog 35=some 1:=kf
@[go_sem] theorem ZmC : Xw Tryz.prog 35=some false:=kf
@[go_sem] theorem ZmX : YK Tryz.prog 35=some (none,1):=kf
@[go_sem] theorem Zo3 : Tryz.prog.underlying 36=some (.slice 129):=kf
@[go_sem] theorem ZoH : Yw Tryz.prog 36=some 1:=kf
@[go_sem] theorem ZmD : Xw Tryz.prog 36=some false:=kf
@[go_sem] theorem ZmY : YK Tryz.prog 36=some (none,6):=kf
@[go_sem] theorem ZoI : Yw Tryz.prog 38=some 2:=kf
@[go_sem] theorem ZmE : Xw Tryz.prog 38=some true:=kf
@[go_sem] theorem Zoq : ZM Tryz.prog 38 0=some 0:=kf
@[go_sem] theorem Ziq : ZM Tryz.prog 38 1=some 1:=kf
@[go_sem] theorem Zo4 : Tryz.prog.underlying 39=some (.slice 82):=kf
@[go_sem] theorem ZoJ : Yw Tryz.prog 39=some 1:=kf
@[go_sem] theorem ZmF : Xw Tryz.prog 39=some false:=kf
@[go_sem] theorem ZmZ : YK Tryz.prog 39=some (none,14):=kf
@[go_sem] theorem Zo5 : Tryz.prog.underlying 40=some (.slice 59):=kf
@[go_sem] theorem ZoK : Yw Tryz.prog 40=some 1:=kf
@[go_sem] theorem ZmG : Xw Tryz.prog 40=some false:=kf
@[go_sem] theorem Zm0 : YK Tryz.prog 40=some (none,16):=kf
@[go_sem] theorem Zml : UI Tryz.prog 40=some 16:=kf
@[go_sem] theorem tA : Qz Tryz.prog 40=some (16,152):=kf
@[go_sem] theorem ZfF (H:List AM.Obj) (u:TypeId) (o n:Nat) (y:V):Wy Tryz.prog H 40 u (.sl o 0 n n) y=Ud H (some (16,152)) (oat H o) o n (YA (Tryz.prog.underlying u) H y):=Yn tA
@[go_sem] theorem mF : LB Tryz.prog 40=some (16,152,.agg [.str [],.list true [],.int .i64 0,.int .i64 0,.int .i64 0,.int .i64 0,.int .i64 0,.int .i64 0,.int .i64 0,.int .i64 0,.int .i64 0,.int .i64 0,.int .i64 0,.int .i64 0,.int .i64 0,.bool false]):=kf
@[go_sem] theorem Zn7 (H:List AM.Obj) (fr:List V) (x y:Operand):Wj Tryz.prog (.makeSlice 40 x y) fr H=Un (some (16,152,.agg [.str [],.list true [],.int .i64 0,.int .i64 0,.int .i64 0,.int .i64 0,.int .i64 0,.int .i64 0,.int .i64 0,.int .i64 0,.int .i64 0,.int .i64 0,.int .i64 0,.int .i64 0,.int .i64 0,.bool false])) H (ev fr x) (ev fr y):=Ax mF
@[go_sem] theorem Zo6 : Tryz.prog.underlying 41=some (.slice 132):=kf
@[go_sem] theorem ZoL : Yw Tryz.prog 41=some 1:=kf
@[go_sem] theorem ZmH : Xw Tryz.prog 41=some false:=kf
@[go_sem] theorem Zm1 : YK Tryz.prog 41=some (none,2):=kf
@[go_sem] theorem ZoM : Yw Tryz.prog 43=some 6:=kf
@[go_sem] theorem ZmI : Xw Tryz.prog 43=some true:=kf
@[go_sem] theorem Zir : ZM Tryz.prog 43 0=some 0:=kf
@[go_sem] theorem Zis : ZM Tryz.prog 43 1=some 2:=kf
@[go_sem] theorem Zit : ZM Tryz.prog 43 2=some 3:=kf
@[go_sem] theorem Ziu : ZM Tryz.prog 43 3=some 4:=kf
@[go_sem] theorem Ziv : ZM Tryz.prog 43 4=some 5:=kf
@[go_sem] theorem Zox : C4 Tryz.prog 43=some (CX [(0,2),(2,1),(3,1),(4,1),(5,1)]):=kf
@[go_sem] theorem Zjm : Xf Tryz.prog 43=some [.list true [],.list true [],.list true [],.list true [],.list true [],.list true []]:=kf
@[go_sem] theorem Zo7 : Tryz.prog.underlying 46=some (.slice 4):=kf
@[go_sem] theorem ZoN : Yw Tryz.prog 46=some 1:=kf
@[go_sem] theorem ZmJ : Xw Tryz.prog 46=some false:=kf
@[go_sem] theorem Zm2 : YK Tryz.prog 46=some (none,1):=kf
@[go_sem] theorem Zmm : UI Tryz.prog 46=some 1:=kf
@[go_sem] theorem tB : Qz Tryz.prog 46=some (1,1):=kf
@[go_sem] theorem ZfA (H:List AM.Obj) (u:TypeId) (y:V):Wy Tryz.prog H 46 u (.p (.list true [])) y=IA H (some (1,1)) (YA (Tryz.prog.underlying u) H y):=AS tB
@[go_sem] theorem mG : LB Tryz.prog 46=some (1,1,.bool false):=kf
@[go_sem] theorem Zn8 (H:List AM.Obj) (fr:List V) (x y:Operand):Wj Tryz.prog (.makeSlice 46 x y) fr H=Un (some (1,1,.bool false)) H (ev fr x) (ev fr y):=Ax mG
@[go_sem] theorem Zo8 : Tryz.prog.underlying 47=some (.slice 126):=kf
@[go_sem] theorem ZoO : Yw Tryz.prog 47=some 1:=kf
@[go_sem] theorem ZmK : Xw Tryz.prog 47=some false:=kf
@[go_sem] theorem Zm3 : YK Tryz.prog 47=some (none,2):=kf
@[go_sem] theorem Zmn : UI Tryz.prog 47=some 2:=kf
@[go_sem] theorem TS : Qz Tryz.prog 47=some (2,16):=kf
@[go_sem] theorem ZfG (H:List AM.Obj) (u:TypeId) (o n:Nat) (y:V):Wy Tryz.prog H 47 u (.sl o 0 n n) y=Ud H (some (2,16)) (oat H o) o n (YA (Tryz.prog.underlying u) H y):=Yn TS
@[go_sem] theorem ZoP : Yw Tryz.prog 49=some 4:=kf
@[go_sem] theorem ZmL : Xw Tryz.prog 49=some true:=kf
@[go_sem] theorem Ziw : ZM Tryz.prog 49 0=some 0:=kf
@[go_sem] theorem Zix : ZM Tryz.prog 49 1=some 1:=kf
@[go_sem] theorem Ziy : ZM Tryz.prog 49 2=some 2:=kf
@[go_sem] theorem Ziz : ZM Tryz.prog 49 3=some 3:=kf
@[go_sem] theorem Zoy : C4 Tryz.prog 49=some (CX [(0,1),(1,1),(2,1),(3,1)]):=kf
@[go_sem] theorem Zjn : Xf Tryz.prog 49=some [.int .i64 0,.int .i64 0,.list true [],.list true []]:=kf
@[go_sem] theorem ZoQ : Yw Tryz.prog 51=some 4:=kf
@[go_sem] theorem ZmM : Xw Tryz.prog 51=some true:=kf
@[go_sem] theorem ZiA : ZM Tryz.prog 51 0=some 0:=kf
@[go_sem] theorem ZiB : ZM Tryz.prog 51 1=some 1:=kf
@[go_sem] theorem ZiC : ZM Tryz.prog 51 2=some 2:=kf
@[go_sem] theorem ZiD : ZM Tryz.prog 51 3=some 3:=kf
@[go_sem] theorem Zoz : C4 Tryz.prog 51=some (CX [(0,1),(1,1),(2,1),(3,1)]):=kf
@[go_sem] theorem Zjo : Xf Tryz.prog 51=some [.int .i64 0,.int .i64 0,.int .i64 0,.int .i64 0]:=kf
@[go_sem] theorem ZoR : Yw Tryz.prog 57=some 4:=kf
@[go_sem] theorem ZmN : Xw Tryz.prog 57=some true:=kf
@[go_sem] theorem ZiE : ZM Tryz.prog 57 0=some 0:=kf
@[go_sem] theorem ZiF : ZM Tryz.prog 57 1=some 1:=kf
@[go_sem] theorem ZiG : ZM Tryz.prog 57 2=some 2:=kf
@[go_sem] theorem ZiH : ZM Tryz.prog 57 3=some 3:=kf
@[go_sem] theorem oB : Tryz.prog.stoodInHeld 57=false:=kf
@[go_sem] theorem ZoA : C4 Tryz.prog 57=some (CX [(0,1),(1,1),(2,1),(3,1)]):=kf
@[go_sem] theorem Zn5 (d:Nat) (a b:List PV):AU Tryz.prog d 57 (Tryz.prog.underlying 57) (.agg a) (.agg b)=JO (eqP (Y9 Tryz.prog d 3) (apart Tryz.prog 3 a 0) (apart Tryz.prog 3 b 0)) (JO (eqP (Y9 Tryz.prog d 3) (apart Tryz.prog 3 a 1) (apart Tryz.prog 3 b 1)) (JO (eqP (Y9 Tryz.prog d 3) (apart Tryz.prog 3 a 2) (apart Tryz.prog 3 b 2)) (JO (eqP (Y9 Tryz.prog d 3) (apart Tryz.prog 3 a 3) (apart Tryz.prog 3 b 3)) (some true)))):=by rw [Tryz.underlying57,VE oB];simp [Qx,JU]
@[go_sem] theorem Zok : Tryz.prog.eqGuardType Tryz.prog.depth 57=false:=kf
@[go_sem] theorem Zjp : Xf Tryz.prog 57=some [.int .i64 0,.int .i64 0,.int .i64 0,.int .i64 0]:=kf
@[go_sem] theorem ZoS : Yw Tryz.prog 59=some 16:=kf
@[go_sem] theorem ZmO : Xw Tryz.prog 59=some true:=kf
@[go_sem] theorem ZiI : ZM Tryz.prog 59 0=some 0:=kf
@[go_sem] theorem ZiJ : ZM Tryz.prog 59 1=some 1:=kf
@[go_sem] theorem ZiK : ZM Tryz.prog 59 2=some 2:=kf
@[go_sem] theorem ZiL : ZM Tryz.prog 59 3=some 6:=kf
@[go_sem] theorem ZiM : ZM Tryz.prog 59 4=some 10:=kf
@[go_sem] theorem ZiN : ZM Tryz.prog 59 5=some 11:=kf
@[go_sem] theorem ZiO : ZM Tryz.prog 59 6=some 12:=kf
@[go_sem] theorem ZiP : ZM Tryz.prog 59 7=some 13:=kf
@[go_sem] theorem ZiQ : ZM Tryz.prog 59 8=some 14:=kf
@[go_sem] theorem ZiR : ZM Tryz.prog 59 9=some 15:=kf
@[go_sem] theorem Zjq : Xf Tryz.prog 59=some [.str [],.list true [],.int .i64 0,.int .i64 0,.int .i64 0,.int .i64 0,.int .i64 0,.int .i64 0,.int .i64 0,.int .i64 0,.int .i64 0,.int .i64 0,.int .i64 0,.int .i64 0,.int .i64 0,.bool false]:=kf
@[go_sem] theorem ZoT : Yw Tryz.prog 82=some 14:=kf
@[go_sem] theorem ZmP : Xw Tryz.prog 82=some true:=kf
@[go_sem] theorem ZiS : ZM Tryz.prog 82 0=some 0:=kf
@[go_sem] theorem ZiT : ZM Tryz.prog 82 1=some 1:=kf
@[go_sem] theorem ZiU : ZM Tryz.prog 82 2=some 2:=kf
@[go_sem] theorem ZiV : ZM Tryz.prog 82 3=some 3:=kf
@[go_sem] theorem ZiW : ZM Tryz.prog 82 4=some 4:=kf
@[go_sem] theorem ZiX : ZM Tryz.prog 82 5=some 5:=kf
@[go_sem] theorem ZiY : ZM Tryz.prog 82 6=some 6:=kf
@[go_sem] theorem ZiZ : ZM Tryz.prog 82 7=some 7:=kf
@[go_sem] theorem Zi0 : ZM Tryz.prog 82 8=some 8:=kf
@[go_sem] theorem Zi1 : ZM Tryz.prog 82 9=some 9:=kf
@[go_sem] theorem Zer : ZM Tryz.prog 82 10=some 10:=kf
@[go_sem] theorem Zes : ZM Tryz.prog 82 11=some 11:=kf
@[go_sem] theorem Zet : ZM Tryz.prog 82 12=some 12:=kf
@[go_sem] theorem Zeu : ZM Tryz.prog 82 13=some 13:=kf
@[go_sem] theorem Zjr : Xf Tryz.prog 82=some [.str [],.int .i64 0,.int .i64 0,.int .i64 0,.list true [],.int .i64 0,.int .i64 0,.int .i64 0,.int .i64 0,.int .i64 0,.int .i64 0,.int .i64 0,.int .i64 0,.int .i64 0]:=kf
@[go_sem] theorem ZoU : Yw Tryz.prog 90=some 1:=kf
@[go_sem] theorem ZmQ : Xw Tryz.prog 90=some false:=kf
@[go_sem] theorem Zo9 : Tryz.prog.underlying 93=some (.slice 178):=kf
@[go_sem] theorem ZoV : Yw Tryz.prog 93=some 1:=kf
@[go_sem] theorem ZmR : Xw Tryz.prog 93=some false:=kf
@[go_sem] theorem Zm4 : YK Tryz.prog 93=some (none,4):=kf
@[go_sem] theorem Zmo : UI Tryz.prog 93=some 4:=kf
@[go_sem] theorem tC : Qz Tryz.prog 93=some (4,32):=kf
@[go_sem] theorem ZfH (H:List AM.Obj) (u:TypeId) (o n:Nat) (y:V):Wy Tryz.prog H 93 u (.sl o 0 n n) y=Ud H (some (4,32)) (oat H o) o n (YA (Tryz.prog.underlying u) H y):=Yn tC
@[go_sem] theorem ZoW : Yw Tryz.prog 95=some 5:=kf
@[go_sem] theorem ZmS : Xw Tryz.prog 95=some true:=kf
@[go_sem] theorem Zi2 : ZM Tryz.prog 95 0=some 0:=kf
@[go_sem] theorem Zi3 : ZM Tryz.prog 95 1=some 1:=kf
@[go_sem] theorem Zi4 : ZM Tryz.prog 95 2=some 2:=kf
@[go_sem] theorem Zi5 : ZM Tryz.prog 95 3=some 3:=kf
@[go_sem] theorem Zi6 : ZM Tryz.prog 95 4=some 4:=kf
@[go_sem] theorem ZoB : C4 Tryz.prog 95=some (CX [(0,1),(1,1),(2,1),(3,1),(4,1)]):=kf
@[go_sem] theorem Zjs : Xf Tryz.prog 95=some [.bool false,.int .i64 0,.list true [],.int .i64 0,.int .i64 0]:=kf
@[go_sem] theorem ZnK : Tryz.prog.underlying 110=some (.slice 158):=kf
@[go_sem] theorem Znn : Yw Tryz.prog 110=some 1:=kf
@[go_sem] theorem ZkE : Xw Tryz.prog 110=some false:=kf
@[go_sem] theorem ZkZ : YK Tryz.prog 110=some (none,7):=kf
@[go_sem] theorem Zkh : UI Tryz.prog 110=some 7:=kf
@[go_sem] theorem jL : Qz Tryz.prog 110=some (7,88):=kf
@[go_sem] theorem Zb0 (H:List AM.Obj) (u:TypeId) (o n:Nat) (y:V):Wy Tryz.prog H 110 u (.sl o 0 n n) y=Ud H (some (7,88)) (oat H o) o n (YA (Tryz.prog.underlying u) H y):=Yn jL
@[go_sem] theorem ZnL : Tryz.prog.underlying 121=some (.slice 229):=kf
@[go_sem] theorem Zk0 : YK Tryz.prog 121=some (none,2):=kf
@[go_sem] theorem Zki : UI Tryz.prog 121=some 2:=kf
@[go_sem] theorem Ot : Qz Tryz.prog 121=some (2,24):=kf
@[go_sem] theorem ZbY (H:List AM.Obj) (u:TypeId) (y:V):Wy Tryz.prog H 121 u (.p (.list true [])) y=IA H (some (2,24)) (YA (Tryz.prog.underlying u) H y):=AS Ot
@[go_sem] theorem Zb1 (H:List AM.Obj) (u:TypeId) (o n:Nat) (y:V):Wy Tryz.prog H 121 u (.sl o 0 n n) y=Ud H (some (2,24)) (oat H o) o n (YA (Tryz.prog.underlying u) H y):=Yn Ot
@[go_sem] theorem Zno : Yw Tryz.prog 126=some 2:=kf
@[go_sem] theorem ZkF : Xw Tryz.prog 126=some true:=kf
@[go_sem] theorem ZdB : ZM Tryz.prog 126 0=some 0:=kf
@[go_sem] theorem ZdC : ZM Tryz.prog 126 1=some 1:=kf
@[go_sem] theorem gW : Tryz.prog.stoodInHeld 126=false:=kf
@[go_sem] theorem Zm6 : C4 Tryz.prog 126=some (CX [(0,1),(1,1)]):=kf
@[go_sem] theorem ZlC (d:Nat) (a b:List PV):AU Tryz.prog d 126 (Tryz.prog.underlying 126) (.agg a) (.agg b)=JO (eqP (Y9 Tryz.prog d 3) (apart Tryz.prog 3 a 0) (apart Tryz.prog 3 b 0)) (JO (eqP (Y9 Tryz.prog d 4) (apart Tryz.prog 4 a 1) (apart Tryz.prog 4 b 1)) (some true)):=by rw [Tryz.underlying126,VE gW];simp [Qx,JU]
@[go_sem] theorem ZlO : Tryz.prog.eqGuardType Tryz.prog.depth 126=false:=kf
@[go_sem] theorem Zez : Xf Tryz.prog 126=some [.int .i64 0,.bool false]:=kf
@[go_sem] theorem ZnM : Tryz.prog.underlying 127=some (.slice 188):=kf
@[go_sem] theorem Znp : Yw Tryz.prog 127=some 1:=kf
@[go_sem] theorem ZkG : Xw Tryz.prog 127=some false:=kf
@[go_sem] theorem Zk1 : YK Tryz.prog 127=some (none,2):=kf
@[go_sem] theorem Znq : Yw Tryz.prog 129=some 6:=kf
@[go_sem] theorem ZkH : Xw Tryz.prog 129=some true:=kf
@[go_sem] theorem ZdD : ZM Tryz.prog 129 0=some 0:=kf
@[go_sem] theorem ZdE : ZM Tryz.prog 129 1=some 1:=kf
@[go_sem] theorem ZdF : ZM Tryz.prog 129 2=some 2:=kf
@[go_sem] theorem ZdG : ZM Tryz.prog 129 3=some 3:=kf
@[go_sem] theorem ZdH : ZM Tryz.prog 129 4=some 4:=kf
@[go_sem] theorem ZdI : ZM Tryz.prog 129 5=some 5:=kf
@[go_sem] theorem Zm7 : C4 Tryz.prog 129=some (CX [(0,1),(1,1),(2,1),(3,1),(4,1),(5,1)]):=kf
@[go_sem] theorem ZeA : Xf Tryz.prog 129=some [.int .i64 0,.int .i64 0,.int .i64 0,.int .i64 0,.list true [],.list true []]:=kf
@[go_sem] theorem ZnN : Tryz.prog.underlying 132=some (.array 2 3):=kf
@[go_sem] theorem Znr : Yw Tryz.prog 132=some 2:=kf
@[go_sem] theorem ZkI : Xw Tryz.prog 132=some true:=kf
@[go_sem] theorem Zk2 : YK Tryz.prog 132=some ((some 2),1):=kf
@[go_sem] theorem ZlD (d:Nat) (a b:List PV):AU Tryz.prog d 132 (some (.array 2 3)) (.agg a) (.agg b)=Ca (Y9 Tryz.prog d 3) Tryz.prog 3 1 2 0 a b:=MT ZnB
@[go_sem] theorem ZlP : Tryz.prog.eqGuardType Tryz.prog.depth 132=false:=kf
@[go_sem] theorem ZeB : Xf Tryz.prog 132=some [.int .i64 0,.int .i64 0]:=kf
@[go_sem] theorem ZnO : Tryz.prog.underlying 139=some (.int .u64):=kf
@[go_sem] theorem Zk3 : YK Tryz.prog 149=some ((some 6),1):=kf
@[go_sem] theorem Zns : Yw Tryz.prog 151=some 8:=kf
@[go_sem] theorem ZkJ : Xw Tryz.prog 151=some true:=kf
@[go_sem] theorem ZdJ : ZM Tryz.prog 151 0=some 0:=kf
@[go_sem] theorem ZdK : ZM Tryz.prog 151 1=some 1:=kf
@[go_sem] theorem ZdL : ZM Tryz.prog 151 2=some 2:=kf
@[go_sem] theorem Zm8 : C4 Tryz.prog 151=some (CX [(0,1),(1,1),(2,6)]):=kf
@[go_sem] theorem ZeC : Xf Tryz.prog 151=some [.int .i64 0,.int .i64 0,.int .i64 0,.int .i64 0,.int .i64 0,.int .i64 0,.int .i64 0,.int .i64 0]:=kf
@[go_sem] theorem Znt : Yw Tryz.prog 158=some 7:=kf
@[go_sem] theorem ZkK : Xw Tryz.prog 158=some true:=kf
@[go_sem] theorem ZdM : ZM Tryz.prog 158 0=some 0:=kf
@[go_sem] theorem ZdN : ZM Tryz.prog 158 1=some 1:=kf
@[go_sem] theorem ZdO : ZM Tryz.prog 158 2=some 2:=kf
@[go_sem] theorem ZdP : ZM Tryz.prog 158 3=some 3:=kf
@[go_sem] theorem Zm9 : C4 Tryz.prog 158=some (CX [(0,1),(1,1),(2,1),(3,4)]):=kf
@[go_sem] theorem ZeD : Xf Tryz.prog 158=some [.int .i64 0,.int .i64 0,.int .i64 0,.int .i64 0,.int .i64 0,.list true [],.list true []]:=kf
@[go_sem] theorem Znu : Yw Tryz.prog 166=some 3:=kf
@[go_sem] theorem ZkL : Xw Tryz.prog 166=some true:=kf
@[go_sem] theorem ZdQ : ZM Tryz.prog 166 0=some 0:=kf
@[go_sem] theorem ZdR : ZM Tryz.prog 166 1=some 1:=kf
@[go_sem] theorem ZdS : ZM Tryz.prog 166 2=some 2:=kf
@[go_sem] theorem Zna : C4 Tryz.prog 166=some (CX [(0,1),(1,1),(2,1)]):=kf
@[go_sem] theorem ZeE : Xf Tryz.prog 166=some [.bool false,.list true [],.int .i64 0]:=kf
@[go_sem] theorem Znv : Yw Tryz.prog 178=some 4:=kf
@[go_sem] theorem ZkM : Xw Tryz.prog 178=some true:=kf
@[go_sem] theorem ZdT : ZM Tryz.prog 178 1=some 1:=kf
@[go_sem] theorem ZdU : ZM Tryz.prog 178 2=some 2:=kf
@[go_sem] theorem ZdV : ZM Tryz.prog 178 3=some 3:=kf
@[go_sem] theorem Znb : C4 Tryz.prog 178=some (CX [(0,1),(1,1),(2,1),(3,1)]):=kf
@[go_sem] theorem ZeF : Xf Tryz.prog 178=some [.int .i64 0,.int .i64 0,.int .i64 0,.bool false]:=kf
@[go_sem] theorem Znw : Yw Tryz.prog 188=some 2:=kf
@[go_sem] theorem ZkN : Xw Tryz.prog 188=some true:=kf
@[go_sem] theorem ZdW : ZM Tryz.prog 188 0=some 0:=kf
@[go_sem] theorem ZdX : ZM Tryz.prog 188 1=some 1:=kf
@[go_sem] theorem gX : Tryz.prog.stoodInHeld 188=false:=kf
@[go_sem] theorem ZlE (d:Nat) (a b:List PV):AU Tryz.prog d 188 (Tryz.prog.underlying 188) (.agg a) (.agg b)=JO (eqP (Y9 Tryz.prog d 3) (apart Tryz.prog 3 a 0) (apart Tryz.prog 3 b 0)) (JO (eqP (Y9 Tryz.prog d 3) (apart Tryz.prog 3 a 1) (apart Tryz.prog 3 b 1)) (some true)):=by rw [Tryz.underlying188,VE gX];simp [Qx,JU]
@[go_sem] theorem ZlQ : Tryz.prog.eqGuardType Tryz.prog.depth 188=false:=kf
@[go_sem] theorem ZeG : Xf Tryz.prog 188=some [.int .i64 0,.int .i64 0]:=kf
@[go_sem] theorem ZnP : Tryz.prog.underlying 192=some (.slice 31):=kf
@[go_sem] theorem Zk4 : YK Tryz.prog 192=some (none,1):=kf
@[go_sem] theorem Zkj : UI Tryz.prog 192=some 1:=kf
@[go_sem] theorem jM : Qz Tryz.prog 192=some (1,24):=kf
@[go_sem] theorem Zb2 (H:List AM.Obj) (u:TypeId) (o n:Nat) (y:V):Wy Tryz.prog H 192 u (.sl o 0 n n) y=Ud H (some (1,24)) (oat H o) o n (YA (Tryz.prog.underlying u) H y):=Yn jM
@[go_sem] theorem Znx : Yw Tryz.prog 204=some 1:=kf
@[go_sem] theorem ZkO : Xw Tryz.prog 204=some false:=kf
@[go_sem] theorem Zny : Yw Tryz.prog 205=some 1:=kf
@[go_sem] theorem ZkP : Xw Tryz.prog 205=some false:=kf
@[go_sem] theorem Zk5 : YK Tryz.prog 205=some (none,1):=kf
@[go_sem] theorem ZdY : ZM Tryz.prog 207 0=some 0:=kf
@[go_sem] theorem ZdZ : ZM Tryz.prog 207 1=some 6:=kf
@[go_sem] theorem Zd0 : ZM Tryz.prog 207 2=some 7:=kf
@[go_sem] theorem Zd1 : ZM Tryz.prog 207 3=some 8:=kf
@[go_sem] theorem Zd2 : ZM Tryz.prog 207 4=some 9:=kf
@[go_sem] theorem Znc : C4 Tryz.prog 207=some (CX [(0,6),(6,1),(7,1),(8,1),(9,1)]):=kf
@[go_sem] theorem ZeH : Xf Tryz.prog 207=some [.list true [],.list true [],.list true [],.list true [],.list true [],.list true [],.list true [],.list true [],.nilm,.int .i64 0]:=kf
@[go_sem] theorem Zd3 : ZM Tryz.prog 222 0=some 0:=kf
@[go_sem] theorem Zd4 : ZM Tryz.prog 222 1=some 6:=kf
@[go_sem] theorem Zd5 : ZM Tryz.prog 222 2=some 7:=kf
@[go_sem] theorem Znd : C4 Tryz.prog 222=some (CX [(0,6),(6,1),(7,3)]):=kf
@[go_sem] theorem ZeI : Xf Tryz.prog 222=some [.list true [],.list true [],.list true [],.list true [],.list true [],.list true [],.list true [],.bool false,.list true [],.int .i64 0]:=kf
@[go_sem] theorem Zd6 : ZM Tryz.prog 229 0=some 0:=kf
@[go_sem] theorem Zd7 : ZM Tryz.prog 229 1=some 1:=kf
@[go_sem] theorem Zne : C4 Tryz.prog 229=some (CX [(0,1),(1,1)]):=kf
@[go_sem] theorem ZeJ : Xf Tryz.prog 229=some [.int .i64 0,.str []]:=kf
@[go_sem] theorem ZnQ : Tryz.prog.underlying 232=some (.slice 26):=kf
@[go_sem] theorem Zk6 : YK Tryz.prog 232=some (none,1):=kf
@[go_sem] theorem Zkk : UI Tryz.prog 232=some 1:=kf
@[go_sem] theorem jN : Qz Tryz.prog 232=some (1,8):=kf
@[go_sem] theorem Zb3 (H:List AM.Obj) (u:TypeId) (o n:Nat) (y:V):Wy Tryz.prog H 232 u (.sl o 0 n n) y=Ud H (some (1,8)) (oat H o) o n (YA (Tryz.prog.underlying u) H y):=Yn jN
@[go_sem] theorem Zd8 : ZM Tryz.prog 240 0=some 0:=kf
@[go_sem] theorem Zd9 : ZM Tryz.prog 240 1=some 6:=kf
@[go_sem] theorem Zea : ZM Tryz.prog 240 2=some 7:=kf
@[go_sem] theorem Zeb : ZM Tryz.prog 240 3=some 8:=kf
@[go_sem] theorem Zec : ZM Tryz.prog 240 4=some 9:=kf
@[go_sem] theorem Zed : ZM Tryz.prog 240 5=some 16:=kf
@[go_sem] theorem Znf : C4 Tryz.prog 240=some (CX [(0,6),(6,1),(7,1),(8,1),(9,7),(16,1)]):=kf
@[go_sem] theorem ZeK : Xf Tryz.prog 240=some [.list true [],.list true [],.list true [],.list true [],.list true [],.list true [],.int .i64 0,.int .i64 0,.int .i64 0,.int .i64 0,.int .i64 0,.int .i64 0,.int .i64 0,.int .i64 0,.list true [],.list true [],.bool false]:=kf
@[go_sem] theorem ZnR : Tryz.prog.underlying 243=some (.slice 304):=kf
@[go_sem] theorem Zk7 : YK Tryz.prog 243=some (none,2):=kf
@[go_sem] theorem Zkl : UI Tryz.prog 243=some 2:=kf
@[go_sem] theorem Ou : Qz Tryz.prog 243=some (2,16):=kf
@[go_sem] theorem ZbZ (H:List AM.Obj) (u:TypeId) (y:V):Wy Tryz.prog H 243 u (.p (.list true [])) y=IA H (some (2,16)) (YA (Tryz.prog.underlying u) H y):=AS Ou
@[go_sem] theorem Zb4 (H:List AM.Obj) (u:TypeId) (o n:Nat) (y:V):Wy Tryz.prog H 243 u (.sl o 0 n n) y=Ud H (some (2,16)) (oat H o) o n (YA (Tryz.prog.underlying u) H y):=Yn Ou
@[go_sem] theorem Znz : Yw Tryz.prog 267=some 2:=kf
@[go_sem] theorem ZkQ : Xw Tryz.prog 267=some true:=kf
@[go_sem] theorem Zng : C4 Tryz.prog 267=some (CX [(0,1),(1,1)]):=kf
@[go_sem] theorem ZeL : Xf Tryz.prog 267=some [.int .i64 0,.int .i64 0]:=kf
@[go_sem] theorem ZnS : Tryz.prog.underlying 268=some (.array 4 3):=kf
@[go_sem] theorem ZnA : Yw Tryz.prog 268=some 4:=kf
@[go_sem] theorem ZkR : Xw Tryz.prog 268=some true:=kf
@[go_sem] theorem Znh : C4 Tryz.prog 268=some (plA 1):=kf
@[go_sem] theorem ZeM : Xf Tryz.prog 268=some [.int .i64 0,.int .i64 0,.int .i64 0,.int .i64 0]:=kf
@[go_sem] theorem ZnT : Tryz.prog.underlying 286=some (.slice 90):=kf
@[go_sem] theorem Zk8 : YK Tryz.prog 286=some (none,1):=kf
@[go_sem] theorem Zkm : UI Tryz.prog 286=some 1:=kf
@[go_sem] theorem ZnU : Tryz.prog.underlying 292=some (.slice 5):=kf
@[go_sem] theorem Zkn : UI Tryz.prog 292=some 1:=kf
@[go_sem] theorem ZnC : Yw Tryz.prog 304=some 2:=kf
@[go_sem] theorem ZkS : Xw Tryz.prog 304=some true:=kf
@[go_sem] theorem Zee : ZM Tryz.prog 304 0=some 0:=kf
@[go_sem] theorem Zef : ZM Tryz.prog 304 1=some 1:=kf
@[go_sem] theorem gY : Tryz.prog.stoodInHeld 304=false:=kf
@[go_sem] theorem Zni : C4 Tryz.prog 304=some (CX [(0,1),(1,1)]):=kf
@[go_sem] theorem ZlF (d:Nat) (a b:List PV):AU Tryz.prog d 304 (Tryz.prog.underlying 304) (.agg a) (.agg b)=JO (eqP (Y9 Tryz.prog d 3) (apart Tryz.prog 3 a 0) (apart Tryz.prog 3 b 0)) (JO (eqP (Y9 Tryz.prog d 3) (apart Tryz.prog 3 a 1) (apart Tryz.prog 3 b 1)) (some true)):=by rw [Tryz.underlying304,VE gY];simp [Qx,JU]
@[go_sem] theorem ZlR : Tryz.prog.eqGuardType Tryz.prog.depth 304=false:=kf
@[go_sem] theorem ZeN : Xf Tryz.prog 304=some [.int .i64 0,.int .i64 0]:=kf
@[go_sem] theorem ZnD : Yw Tryz.prog 307=some 4:=kf
@[go_sem] theorem ZkT : Xw Tryz.prog 307=some true:=kf
@[go_sem] theorem Zeg : ZM Tryz.prog 307 0=some 0:=kf
@[go_sem] theorem Zeh : ZM Tryz.prog 307 1=some 1:=kf
@[go_sem] theorem Zei : ZM Tryz.prog 307 2=some 2:=kf
@[go_sem] theorem Zej : ZM Tryz.prog 307 3=some 3:=kf
@[go_sem] theorem Znj : C4 Tryz.prog 307=some (CX [(0,1),(1,1),(2,1),(3,1)]):=kf
@[go_sem] theorem ZeO : Xf Tryz.prog 307=some [.int .i64 0,.int .i64 0,.int .i64 0,.int .i64 0]:=kf
@[go_sem] theorem Zk9 : YK Tryz.prog 318=some ((some 64),1):=kf
@[go_sem] theorem ZnV : Tryz.prog.underlying 323=some (.slice 57):=kf
@[go_sem] theorem ZnE : Yw Tryz.prog 323=some 1:=kf
@[go_sem] theorem ZkU : Xw Tryz.prog 323=some false:=kf
@[go_sem] theorem Zla : YK Tryz.prog 323=some (none,4):=kf
@[go_sem] theorem Zko : UI Tryz.prog 323=some 4:=kf
@[go_sem] theorem jO : Qz Tryz.prog 323=some (4,32):=kf
@[go_sem] theorem Zb5 (H:List AM.Obj) (u:TypeId) (o n:Nat) (y:V):Wy Tryz.prog H 323 u (.sl o 0 n n) y=Ud H (some (4,32)) (oat H o) o n (YA (Tryz.prog.underlying u) H y):=Yn jO
@[go_sem] theorem ZnF : Yw Tryz.prog 325=some 25:=kf
@[go_sem] theorem ZkV : Xw Tryz.prog 325=some true:=kf
@[go_sem] theorem Zek : ZM Tryz.prog 325 0=some 0:=kf
@[go_sem] theorem Zel : ZM Tryz.prog 325 1=some 6:=kf
@[go_sem] theorem Zem : ZM Tryz.prog 325 2=some 20:=kf
@[go_sem] theorem Zen : ZM Tryz.prog 325 3=some 24:=kf
@[go_sem] theorem Znk : C4 Tryz.prog 325=some (CX [(0,6),(6,14),(20,4),(24,1)]):=kf
@[go_sem] theorem ZeP : Xf Tryz.prog 325=some [.list true [],.list true [],.list true [],.list true [],.list true [],.list true [],.str [],.int .i64 0,.int .i64 0,.int .i64 0,.list true [],.int .i64 0,.int .i64 0,.int .i64 0,.int .i64 0,.int .i64 0,.int .i64 0,.int .i64 0,.int .i64 0,.int .i64 0,.int .i64 0,.int .i64 0,.list true [],.list true [],.list true []]:=kf
@[go_sem] theorem ZnG : Yw Tryz.prog 329=some 7:=kf
@[go_sem] theorem ZkW : Xw Tryz.prog 329=some true:=kf
@[go_sem] theorem Zeo : ZM Tryz.prog 329 0=some 0:=kf
@[go_sem] theorem Zep : ZM Tryz.prog 329 1=some 1:=kf
@[go_sem] theorem Zeq : ZM Tryz.prog 329 2=some 2:=kf
@[go_sem] theorem Znl : C4 Tryz.prog 329=some (CX [(0,1),(1,1),(2,5)]):=kf
@[go_sem] theorem ZeQ : Xf Tryz.prog 329=some [.int .i64 0,.int .i64 0,.bool false,.int .i64 0,.list true [],.int .i64 0,.int .i64 0]:=kf
@[go_sem] theorem ZnW : Tryz.prog.underlying 331=some (.slice 329):=kf
@[go_sem] theorem Zlb : YK Tryz.prog 331=some (none,7):=kf
@[go_sem] theorem Zkp : UI Tryz.prog 331=some 7:=kf
@[go_sem] theorem jP : Qz Tryz.prog 331=some (7,72):=kf
@[go_sem] theorem Zb6 (H:List AM.Obj) (u:TypeId) (o n:Nat) (y:V):Wy Tryz.prog H 331 u (.sl o 0 n n) y=Ud H (some (7,72)) (oat H o) o n (YA (Tryz.prog.underlying u) H y):=Yn jP
@[go_sem] theorem ZnH : Yw Tryz.prog 366=some 3:=kf
@[go_sem] theorem ZkX : Xw Tryz.prog 366=some true:=kf
@[go_sem] theorem gZ : Tryz.prog.stoodInHeld 366=false:=kf
@[go_sem] theorem Znm : C4 Tryz.prog 366=some (CX [(0,1),(1,1),(2,1)]):=kf
@[go_sem] theorem ZlG (d:Nat) (a b:List PV):AU Tryz.prog d 366 (Tryz.prog.underlying 366) (.agg a) (.agg b)=JO (eqP (Y9 Tryz.prog d 3) (apart Tryz.prog 3 a 0) (apart Tryz.prog 3 b 0)) (JO (eqP (Y9 Tryz.prog d 3) (apart Tryz.prog 3 a 1) (apart Tryz.prog 3 b 1)) (JO (eqP (Y9 Tryz.prog d 3) (apart Tryz.prog 3 a 2) (apart Tryz.prog 3 b 2)) (some true))):=by rw [Tryz.underlying366,VE gZ];simp [Qx,JU]
@[go_sem] theorem ZlS : Tryz.prog.eqGuardType Tryz.prog.depth 366=false:=kf
@[go_sem] theorem ZeR : Xf Tryz.prog 366=some [.int .i64 0,.int .i64 0,.int .i64 0]:=kf
theorem Zmc : Zh Tryz.prog 3:=fun args w=>Tryz.call3 args w
theorem Zmd : Zh Tryz.prog 9:=fun args w=>Tryz.call9 args w
theorem ZgR : Zh Tryz.prog 11:=fun args w=>Tryz.call11 args w
theorem ZgS : Zh Tryz.prog 12:=fun args w=>Tryz.call12 args w
theorem ZgT : Zh Tryz.prog 13:=fun args w=>Tryz.call13 args w
theorem ZgU : Zh Tryz.prog 14:=fun args w=>Tryz.call14 args w
theorem ZgV : Zh Tryz.prog 34:=fun args w=>Tryz.call34 args w
theorem ZgW : Zh Tryz.prog 35:=fun args w=>Tryz.call35 args w
theorem ZgX : Zh Tryz.prog 36:=fun args w=>Tryz.call36 args w
theorem ZgY : Zh Tryz.prog 37:=fun args w=>Tryz.call37 args w
theorem ZgZ : Zh Tryz.prog 38:=fun args w=>Tryz.call38 args w
theorem Zg0 : Zh Tryz.prog 39:=fun args w=>Tryz.call39 args w
theorem Zg1 : Zh Tryz.prog 40:=fun args w=>Tryz.call40 args w
theorem Zg2 : Zh Tryz.prog 41:=fun args w=>Tryz.call41 args w
theorem Zg3 : Zh Tryz.prog 42:=fun args w=>Tryz.call42 args w
theorem Zg4 : Zh Tryz.prog 43:=fun args w=>Tryz.call43 args w
theorem Zg5 : Zh Tryz.prog 44:=fun args w=>Tryz.call44 args w
theorem Zg6 : Zh Tryz.prog 45:=fun args w=>Tryz.call45 args w
theorem Zg7 : Zh Tryz.prog 46:=fun args w=>Tryz.call46 args w
theorem Zg8 : Zh Tryz.prog 48:=fun args w=>Tryz.call48 args w
theorem Zg9 : Zh Tryz.prog 50:=fun args w=>Tryz.call50 args w
theorem Zha : Zh Tryz.prog 53:=fun args w=>Tryz.call53 args w
theorem Zhb : Zh Tryz.prog 55:=fun args w=>Tryz.call55 args w
theorem Zhc : Zh Tryz.prog 59:=fun args w=>Tryz.call59 args w
theorem Zhd : Zh Tryz.prog 60:=fun args w=>Tryz.call60 args w
theorem Zhe : Zh Tryz.prog 64:=fun args w=>Tryz.call64 args w
theorem Zhf : Zh Tryz.prog 66:=fun args w=>Tryz.call66 args w
theorem Zhg : Zh Tryz.prog 74:=fun args w=>Tryz.call74 args w
theorem Zhh : Zh Tryz.prog 78:=fun args w=>Tryz.call78 args w
theorem Zhi : Zh Tryz.prog 79:=fun args w=>Tryz.call79 args w
theorem Zhj : Zh Tryz.prog 80:=fun args w=>Tryz.call80 args w
theorem Zhk : Zh Tryz.prog 81:=fun args w=>Tryz.call81 args w
theorem Zhl : Zh Tryz.prog 82:=fun args w=>Tryz.call82 args w
theorem Zhm : Zh Tryz.prog 83:=fun args w=>Tryz.call83 args w
theorem Zhn : Zh Tryz.prog 84:=fun args w=>Tryz.call84 args w
theorem Zho : Zh Tryz.prog 85:=fun args w=>Tryz.call85 args w
theorem Zhp : Zh Tryz.prog 86:=fun args w=>Tryz.call86 args w
theorem Zhq : Zh Tryz.prog 87:=fun args w=>Tryz.call87 args w
theorem Zhr : Zh Tryz.prog 88:=fun args w=>Tryz.call88 args w
theorem rH : Zh Tryz.prog 89:=fun args w=>Tryz.call89 args w
theorem Zhs : Zh Tryz.prog 90:=fun args w=>Tryz.call90 args w
theorem Zht : Zh Tryz.prog 92:=fun args w=>Tryz.call92 args w
theorem Zhu : Zh Tryz.prog 95:=fun args w=>Tryz.call95 args w
theorem Zhv : Zh Tryz.prog 99:=fun args w=>Tryz.call99 args w
theorem vK : Zh Tryz.prog 100:=fun args w=>Tryz.call100 args w
theorem vL : Zh Tryz.prog 101:=fun args w=>Tryz.call101 args w
theorem vM : Zh Tryz.prog 102:=fun args w=>Tryz.call102 args w
theorem cL : Zh Tryz.prog 103:=fun args w=>Tryz.call103 args w
theorem vN : Zh Tryz.prog 104:=fun args w=>Tryz.call104 args w
theorem vO : Zh Tryz.prog 105:=fun args w=>Tryz.call105 args w
theorem vP : Zh Tryz.prog 106:=fun args w=>Tryz.call106 args w
theorem vQ : Zh Tryz.prog 107:=fun args w=>Tryz.call107 args w
theorem vR : Zh Tryz.prog 110:=fun args w=>Tryz.call110 args w
theorem vS : Zh Tryz.prog 111:=fun args w=>Tryz.call111 args w
theorem vT : Zh Tryz.prog 123:=fun args w=>Tryz.call123 args w
theorem vU : Zh Tryz.prog 125:=fun args w=>Tryz.call125 args w
theorem vV : Zh Tryz.prog 126:=fun args w=>Tryz.call126 args w
theorem vW : Zh Tryz.prog 127:=fun args w=>Tryz.call127 args w
theorem vX : Zh Tryz.prog 128:=fun args w=>Tryz.call128 args w
theorem vY : Zh Tryz.prog 129:=fun args w=>Tryz.call129 args w
theorem vZ : Zh Tryz.prog 130:=fun args w=>Tryz.call130 args w
theorem wA : Zh Tryz.prog 131:=fun args w=>Tryz.call131 args w
theorem wB : Zh Tryz.prog 132:=fun args w=>Tryz.call132 args w
theorem wC : Zh Tryz.prog 133:=fun args w=>Tryz.call133 args w
theorem wD : Zh Tryz.prog 134:=fun args w=>Tryz.call134 args w
theorem wE : Zh Tryz.prog 135:=fun args w=>Tryz.call135 args w
theorem wF : Zh Tryz.prog 136:=fun args w=>Tryz.call136 args w
theorem wG : Zh Tryz.prog 137:=fun args w=>Tryz.call137 args w
theorem wH : Zh Tryz.prog 138:=fun args w=>Tryz.call138 args w
theorem wI : Zh Tryz.prog 139:=fun args w=>Tryz.call139 args w
theorem wJ : Zh Tryz.prog 140:=fun args w=>Tryz.call140 args w
theorem wK : Zh Tryz.prog 141:=fun args w=>Tryz.call141 args w
theorem wL : Zh Tryz.prog 142:=fun args w=>Tryz.call142 args w
theorem wM : Zh Tryz.prog 143:=fun args w=>Tryz.call143 args w
theorem wN : Zh Tryz.prog 144:=fun args w=>Tryz.call144 args w
theorem wO : Zh Tryz.prog 148:=fun args w=>Tryz.call148 args w
theorem wP : Zh Tryz.prog 149:=fun args w=>Tryz.call149 args w
theorem wQ : Zh Tryz.prog 150:=fun args w=>Tryz.call150 args w
theorem wR : Zh Tryz.prog 151:=fun args w=>Tryz.call151 args w
theorem wS : Zh Tryz.prog 152:=fun args w=>Tryz.call152 args w
theorem wT : Zh Tryz.prog 153:=fun args w=>Tryz.call153 args w
theorem wU : Zh Tryz.prog 154:=fun args w=>Tryz.call154 args w
theorem wV : Zh Tryz.prog 155:=fun args w=>Tryz.call155 args w
theorem wW : Zh Tryz.prog 158:=fun args w=>Tryz.call158 args w
theorem wX : Zh Tryz.prog 159:=fun args w=>Tryz.call159 args w
theorem wY : Zh Tryz.prog 162:=fun args w=>Tryz.call162 args w
theorem cM : Zh Tryz.prog 163:=fun args w=>Tryz.call163 args w
theorem wZ : Zh Tryz.prog 164:=fun args w=>Tryz.call164 args w
theorem xA : Zh Tryz.prog 167:=fun args w=>Tryz.call167 args w
theorem xB : Zh Tryz.prog 170:=fun args w=>Tryz.call170 args w
theorem xC : Zh Tryz.prog 171:=fun args w=>Tryz.call171 args w
theorem xD : Zh Tryz.prog 172:=fun args w=>Tryz.call172 args w
theorem xE : Zh Tryz.prog 173:=fun args w=>Tryz.call173 args w
theorem xF : Zh Tryz.prog 174:=fun args w=>Tryz.call174 args w
theorem xG : Zh Tryz.prog 175:=fun args w=>Tryz.call175 args w
theorem xH : Zh Tryz.prog 176:=fun args w=>Tryz.call176 args w
theorem xI : Zh Tryz.prog 177:=fun args w=>Tryz.call177 args w
theorem xJ : Zh Tryz.prog 178:=fun args w=>Tryz.call178 args w
theorem cN : Zh Tryz.prog 179:=fun args w=>Tryz.call179 args w
theorem cO : Zh Tryz.prog 180:=fun args w=>Tryz.call180 args w
theorem xK : Zh Tryz.prog 181:=fun args w=>Tryz.call181 args w
theorem cP : Zh Tryz.prog 182:=fun args w=>Tryz.call182 args w
theorem xL : Zh Tryz.prog 183:=fun args w=>Tryz.call183 args w
theorem xM : Zh Tryz.prog 184:=fun args w=>Tryz.call184 args w
theorem xN : Zh Tryz.prog 185:=fun args w=>Tryz.call185 args w
theorem xO : Zh Tryz.prog 186:=fun args w=>Tryz.call186 args w
theorem xP : Zh Tryz.prog 187:=fun args w=>Tryz.call187 args w
theorem xQ : Zh Tryz.prog 194:=fun args w=>Tryz.call194 args w
theorem xR : Zh Tryz.prog 195:=fun args w=>Tryz.call195 args w
theorem xS : Zh Tryz.prog 196:=fun args w=>Tryz.call196 args w
theorem xT : Zh Tryz.prog 197:=fun args w=>Tryz.call197 args w
theorem xU : Zh Tryz.prog 198:=fun args w=>Tryz.call198 args w
theorem WO : Zh Tryz.prog 210:=fun args w=>Tryz.call210 args w
theorem xV : Zh Tryz.prog 212:=fun args w=>Tryz.call212 args w
theorem xW : Zh Tryz.prog 214:=fun args w=>Tryz.call214 args w
theorem xX : Zh Tryz.prog 215:=fun args w=>Tryz.call215 args w
theorem xY : Zh Tryz.prog 216:=fun args w=>Tryz.call216 args w
theorem xZ : Zh Tryz.prog 217:=fun args w=>Tryz.call217 args w
theorem yA : Zh Tryz.prog 218:=fun args w=>Tryz.call218 args w
theorem yB : Zh Tryz.prog 219:=fun args w=>Tryz.call219 args w
theorem yC : Zh Tryz.prog 220:=fun args w=>Tryz.call220 args w
theorem yD : Zh Tryz.prog 221:=fun args w=>Tryz.call221 args w
theorem yE : Zh Tryz.prog 222:=fun args w=>Tryz.call222 args w
theorem yF : Zh Tryz.prog 225:=fun args w=>Tryz.call225 args w
theorem yG : Zh Tryz.prog 226:=fun args w=>Tryz.call226 args w
theorem yH : Zh Tryz.prog 227:=fun args w=>Tryz.call227 args w
theorem yI : Zh Tryz.prog 228:=fun args w=>Tryz.call228 args w
theorem yJ : Zh Tryz.prog 229:=fun args w=>Tryz.call229 args w
theorem yK : Zh Tryz.prog 230:=fun args w=>Tryz.call230 args w
theorem yL : Zh Tryz.prog 231:=fun args w=>Tryz.call231 args w
theorem yM : Zh Tryz.prog 232:=fun args w=>Tryz.call232 args w
theorem yN : Zh Tryz.prog 233:=fun args w=>Tryz.call233 args w
theorem yO : Zh Tryz.prog 234:=fun args w=>Tryz.call234 args w
theorem yP : Zh Tryz.prog 235:=fun args w=>Tryz.call235 args w
theorem cQ : Zh Tryz.prog 236:=fun args w=>Tryz.call236 args w
theorem yQ : Zh Tryz.prog 237:=fun args w=>Tryz.call237 args w
theorem yR : Zh Tryz.prog 238:=fun args w=>Tryz.call238 args w
theorem yS : Zh Tryz.prog 239:=fun args w=>Tryz.call239 args w
theorem yT : Zh Tryz.prog 240:=fun args w=>Tryz.call240 args w
theorem yU : Zh Tryz.prog 241:=fun args w=>Tryz.call241 args w
theorem yV : Zh Tryz.prog 242:=fun args w=>Tryz.call242 args w
theorem yW : Zh Tryz.prog 243:=fun args w=>Tryz.call243 args w
theorem cR : Zh Tryz.prog 244:=fun args w=>Tryz.call244 args w
theorem yX : Zh Tryz.prog 245:=fun args w=>Tryz.call245 args w
theorem yY : Zh Tryz.prog 246:=fun args w=>Tryz.call246 args w
theorem yZ : Zh Tryz.prog 247:=fun args w=>Tryz.call247 args w
theorem zA : Zh Tryz.prog 248:=fun args w=>Tryz.call248 args w
theorem zB : Zh Tryz.prog 249:=fun args w=>Tryz.call249 args w
theorem zC : Zh Tryz.prog 250:=fun args w=>Tryz.call250 args w
theorem zD : Zh Tryz.prog 258:=fun args w=>Tryz.call258 args w
theorem zF : Zh Tryz.prog 259:=fun args w=>Tryz.call259 args w
theorem zG : Zh Tryz.prog 260:=fun args w=>Tryz.call260 args w
theorem zH : Zh Tryz.prog 261:=fun args w=>Tryz.call261 args w
theorem zJ : Zh Tryz.prog 262:=fun args w=>Tryz.call262 args w
theorem zK : Zh Tryz.prog 263:=fun args w=>Tryz.call263 args w
theorem zL : Zh Tryz.prog 264:=fun args w=>Tryz.call264 args w
theorem zM : Zh Tryz.prog 265:=fun args w=>Tryz.call265 args w
theorem zN : Zh Tryz.prog 266:=fun args w=>Tryz.call266 args w
theorem zO : Zh Tryz.prog 267:=fun args w=>Tryz.call267 args w
theorem zP : Zh Tryz.prog 268:=fun args w=>Tryz.call268 args w
theorem cS : Zh Tryz.prog 269:=fun args w=>Tryz.call269 args w
theorem zQ : Zh Tryz.prog 270:=fun args w=>Tryz.call270 args w
theorem zR : Zh Tryz.prog 271:=fun args w=>Tryz.call271 args w
theorem zS : Zh Tryz.prog 272:=fun args w=>Tryz.call272 args w
theorem zT : Zh Tryz.prog 273:=fun args w=>Tryz.call273 args w
theorem zU : Zh Tryz.prog 274:=fun args w=>Tryz.call274 args w
theorem zV : Zh Tryz.prog 275:=fun args w=>Tryz.call275 args w
theorem zW : Zh Tryz.prog 276:=fun args w=>Tryz.call276 args w
theorem zX : Zh Tryz.prog 277:=fun args w=>Tryz.call277 args w
theorem zY : Zh Tryz.prog 278:=fun args w=>Tryz.call278 args w
theorem zZ : Zh Tryz.prog 279:=fun args w=>Tryz.call279 args w
theorem Zaa : Zh Tryz.prog 280:=fun args w=>Tryz.call280 args w
theorem Zab : Zh Tryz.prog 281:=fun args w=>Tryz.call281 args w
theorem Zac : Zh Tryz.prog 282:=fun args w=>Tryz.call282 args w
theorem Zad : Zh Tryz.prog 283:=fun args w=>Tryz.call283 args w
theorem Zae : Zh Tryz.prog 284:=fun args w=>Tryz.call284 args w
theorem Zaf : Zh Tryz.prog 286:=fun args w=>Tryz.call286 args w
theorem Zag : Zh Tryz.prog 287:=fun args w=>Tryz.call287 args w
theorem Zah : Zh Tryz.prog 288:=fun args w=>Tryz.call288 args w
theorem Zai : Zh Tryz.prog 289:=fun args w=>Tryz.call289 args w
theorem Zaj : Zh Tryz.prog 290:=fun args w=>Tryz.call290 args w
theorem Zak : Zh Tryz.prog 291:=fun args w=>Tryz.call291 args w
theorem Zal : Zh Tryz.prog 292:=fun args w=>Tryz.call292 args w
theorem Zam : Zh Tryz.prog 293:=fun args w=>Tryz.call293 args w
theorem Zan : Zh Tryz.prog 294:=fun args w=>Tryz.call294 args w
theorem Zao : Zh Tryz.prog 295:=fun args w=>Tryz.call295 args w
theorem Zap : Zh Tryz.prog 296:=fun args w=>Tryz.call296 args w
theorem Zaq : Zh Tryz.prog 297:=fun args w=>Tryz.call297 args w
theorem Zar : Zh Tryz.prog 298:=fun args w=>Tryz.call298 args w
theorem Zas : Zh Tryz.prog 299:=fun args w=>Tryz.call299 args w
theorem Zat : Zh Tryz.prog 300:=fun args w=>Tryz.call300 args w
theorem Zau : Zh Tryz.prog 301:=fun args w=>Tryz.call301 args w
theorem Zav : Zh Tryz.prog 302:=fun args w=>Tryz.call302 args w
theorem Zaw : Zh Tryz.prog 303:=fun args w=>Tryz.call303 args w
theorem Zax : Zh Tryz.prog 304:=fun args w=>Tryz.call304 args w
theorem Zay : Zh Tryz.prog 305:=fun args w=>Tryz.call305 args w
theorem Zaz : Zh Tryz.prog 306:=fun args w=>Tryz.call306 args w
theorem ZaA : Zh Tryz.prog 307:=fun args w=>Tryz.call307 args w
theorem ZaB : Zh Tryz.prog 308:=fun args w=>Tryz.call308 args w
theorem ZaC : Zh Tryz.prog 309:=fun args w=>Tryz.call309 args w
theorem ZaD : Zh Tryz.prog 310:=fun args w=>Tryz.call310 args w
theorem ZaE : Zh Tryz.prog 311:=fun args w=>Tryz.call311 args w
theorem ZaF : Zh Tryz.prog 312:=fun args w=>Tryz.call312 args w
theorem ZaG : Zh Tryz.prog 313:=fun args w=>Tryz.call313 args w
theorem ZaH : Zh Tryz.prog 314:=fun args w=>Tryz.call314 args w
theorem ZaI : Zh Tryz.prog 315:=fun args w=>Tryz.call315 args w
theorem ZaJ : Zh Tryz.prog 316:=fun args w=>Tryz.call316 args w
theorem ZaK : Zh Tryz.prog 317:=fun args w=>Tryz.call317 args w
theorem ZaL : Zh Tryz.prog 318:=fun args w=>Tryz.call318 args w
theorem ZaM : Zh Tryz.prog 319:=fun args w=>Tryz.call319 args w
theorem ZaN : Zh Tryz.prog 320:=fun args w=>Tryz.call320 args w
theorem ZaO : Zh Tryz.prog 321:=fun args w=>Tryz.call321 args w
theorem ZaP : Zh Tryz.prog 322:=fun args w=>Tryz.call322 args w
theorem ZaQ : Zh Tryz.prog 323:=fun args w=>Tryz.call323 args w
theorem ZaR : Zh Tryz.prog 324:=fun args w=>Tryz.call324 args w
theorem ZaS : Zh Tryz.prog 325:=fun args w=>Tryz.call325 args w
theorem ZaT : Zh Tryz.prog 326:=fun args w=>Tryz.call326 args w
theorem ZaU : Zh Tryz.prog 327:=fun args w=>Tryz.call327 args w
theorem ZaV : Zh Tryz.prog 328:=fun args w=>Tryz.call328 args w
theorem ZaW : Zh Tryz.prog 329:=fun args w=>Tryz.call329 args w
theorem ZaX : Zh Tryz.prog 330:=fun args w=>Tryz.call330 args w
theorem ZaY : Zh Tryz.prog 331:=fun args w=>Tryz.call331 args w
theorem mixed : Tryz.prog.follows .mixedOrders=true:=Zd
end Go.Proofs.YtiigdaohjanidaaGreatDoor.K
