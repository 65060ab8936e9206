/- Declarations that the closing texts need, part 5: joined by tools/slim.py. -/
import Derived.Test.YtiigdaohjanidaaGreatDoorZ4
import Derived.KernelRfl
import Derived.Test.YtiigdaohjanidaaGreatDoorProg
namespace Go.Proofs.YtiigdaohjanidaaGreatDoor.K
open Go Go.AM Go.Proofs
abbrev PC (f:FuncId) (a:List V) (y:PV):=ACalls Tryz.prog f a [] fun x H'=>x= .p y/\H'= []
abbrev PT (f:FuncId) (a:List V) (b:List V):=ACalls Tryz.prog f a [] fun x H'=>x= .tup b/\H'= []
theorem kf {α:Type} {a b:α} (h:a=b:=by kernel_rfl):a=b:=ZP h rfl
theorem Zd {p:Prop} (h:p:=by kernel_rfl):p:=h
@[go_sem] theorem ZpT : Tryz.prog.underlying 3=some (.int .i64):=kf
@[go_sem] theorem Zod : YC Tryz.prog 3=some 1:=kf
@[go_sem] theorem Zo3 : XH Tryz.prog 3=some false:=kf
@[go_sem] theorem Zl8 : Xi Tryz.prog 3=some [.int .i64 0]:=kf
@[go_sem] theorem ZpU : Tryz.prog.underlying 4=some .bool:=kf
@[go_sem] theorem ZpQ : YC Tryz.prog 4=some 1:=kf
@[go_sem] theorem Zo4 : XH Tryz.prog 4=some false:=kf
@[go_sem] theorem ZpV : Tryz.prog.underlying 5=some (.int .u8):=kf
@[go_sem] theorem ZpR : YC Tryz.prog 5=some 1:=kf
@[go_sem] theorem Zo5 : XH Tryz.prog 5=some false:=kf
@[go_sem] theorem ZpW : Tryz.prog.underlying 9=some .string:=kf
@[go_sem] theorem ZpS : YC Tryz.prog 9=some 1:=kf
@[go_sem] theorem Zo6 : XH Tryz.prog 9=some false:=kf
@[go_sem] theorem Zpd : YC Tryz.prog 26=some 1:=kf
@[go_sem] theorem Znb : XH Tryz.prog 26=some false:=kf
@[go_sem] theorem ZpA : Tryz.prog.underlying 30=some (.slice 49):=kf
@[go_sem] theorem Zpe : YC Tryz.prog 30=some 1:=kf
@[go_sem] theorem Znc : XH Tryz.prog 30=some false:=kf
@[go_sem] theorem Znx : YZ Tryz.prog 30=some (none,4):=kf
@[go_sem] theorem ZmW : Qi Tryz.prog 30=some 4:=kf
@[go_sem] theorem uP : Aj Tryz.prog 30=some (4,64):=kf
@[go_sem] theorem Zf0 (H:List AM.Obj) (u:TypeId) (o n:Nat) (y:V):Ve Tryz.prog H 30 u (.sl o 0 n n) y=UE H (some (4,64)) (oat H o) o n (Wp (Tryz.prog.underlying u) H y):=YS uP
@[go_sem] theorem ZpB : Tryz.prog.underlying 31=some (.slice 3):=kf
@[go_sem] theorem Zpf : YC Tryz.prog 31=some 1:=kf
@[go_sem] theorem Znd : XH Tryz.prog 31=some false:=kf
@[go_sem] theorem Zny : YZ Tryz.prog 31=some (none,1):=kf
@[go_sem] theorem ZmX : Qi Tryz.prog 31=some 1:=kf
@[go_sem] theorem T5 : Aj Tryz.prog 31=some (1,8):=kf
@[go_sem] theorem ZfX (H:List AM.Obj) (u:TypeId) (y:V):Ve Tryz.prog H 31 u (.p (.list true [])) y=IQ H (some (1,8)) (Wp (Tryz.prog.underlying u) H y):=AT T5
@[go_sem] theorem Zf1 (H:List AM.Obj) (u:TypeId) (o n:Nat) (y:V):Ve Tryz.prog H 31 u (.sl o 0 n n) y=UE H (some (1,8)) (oat H o) o n (Wp (Tryz.prog.underlying u) H y):=YS T5
@[go_sem] theorem nX : Pv Tryz.prog 31=some (1,8,.int .i64 0):=kf
@[go_sem] theorem ZoI (H:List AM.Obj) (fr:List V) (x y:Operand):Ws Tryz.prog (.makeSlice 31 x y) fr H=U4 (some (1,8,.int .i64 0)) H (ev fr x) (ev fr y):=DW nX
@[go_sem] theorem Zpg : YC Tryz.prog 33=some 2:=kf
@[go_sem] theorem Zne : XH Tryz.prog 33=some true:=kf
@[go_sem] theorem Zi6 : ZJ Tryz.prog 33 0=some 0:=kf
@[go_sem] theorem Zi7 : ZJ Tryz.prog 33 1=some 1:=kf
@[go_sem] theorem Zo7 : C8 Tryz.prog 33=some (C3 [(0,1),(1,1)]):=kf
@[go_sem] theorem Zj8 : Xi Tryz.prog 33=some [.list true [],.list true []]:=kf
@[go_sem] theorem ZpC : Tryz.prog.underlying 35=some (.slice 9):=kf
@[go_sem] theorem Zph : YC Tryz.prog 35=some 1:=kf
@[go_sem] theorem Znf : XH Tryz.prog 35=some false:=kf
@[go_sem] theorem Znz : YZ Tryz.prog 35=some (none,1):=kf
@[go_sem] theorem ZpD : Tryz.prog.underlying 36=some (.slice 129):=kf
@[go_sem] theorem Zpi : YC Tryz.prog 36=some 1:=kf
@[go_sem] theorem Zng : XH Tryz.prog 36=some false:=kf
@[go_sem] theorem ZnA : YZ Tryz.prog 36=some (none,6):=kf
@[go_sem] theorem Zpj : YC Tryz.prog 38=some 2:=kf
@[go_sem] theorem Znh : XH Tryz.prog 38=some true:=kf
@[go_sem] theorem Zi8 : ZJ Tryz.prog 38 0=some 0:=kf
@[go_sem] theorem Zi9 : ZJ Tryz.prog 38 1=some 1:=kf
@[go_sem] theorem ZpE : Tryz.prog.underlying 39=some (.slice 82):=kf
@[go_sem] theorem Zpk : YC Tryz.prog 39=some 1:=kf
@[go_sem] theorem Zni : XH Tryz.prog 39=some false:=kf
@[go_sem] theorem ZnB : YZ Tryz.prog 39=some (none,14):=kf
@[go_sem] theorem ZpF : Tryz.prog.underlying 40=some (.slice 59):=kf
@[go_sem] theorem Zpl : YC Tryz.prog 40=some 1:=kf
@[go_sem] theorem Znj : XH Tryz.prog 40=some false:=kf
@[go_sem] theorem ZnC : YZ Tryz.prog 40=some (none,16):=kf
@[go_sem] theorem ZmY : Qi Tryz.prog 40=some 16:=kf
@[go_sem] theorem uQ : Aj Tryz.prog 40=some (16,152):=kf
@[go_sem] theorem Zf2 (H:List AM.Obj) (u:TypeId) (o n:Nat) (y:V):Ve Tryz.prog H 40 u (.sl o 0 n n) y=UE H (some (16,152)) (oat H o) o n (Wp (Tryz.prog.underlying u) H y):=YS uQ
@[go_sem] theorem ZpG : Tryz.prog.underlying 41=some (.slice 132):=kf
@[go_sem] theorem Zpm : YC Tryz.prog 41=some 1:=kf
@[go_sem] theorem Znk : XH Tryz.prog 41=some false:=kf
@[go_sem] theorem ZnD : YZ Tryz.prog 41=some (none,2):=kf
@[go_sem] theorem Zpn : YC Tryz.prog 43=some 6:=kf
@[go_sem] theorem Znl : XH Tryz.prog 43=some true:=kf
@[go_sem] theorem Zja : ZJ Tryz.prog 43 0=some 0:=kf
@[go_sem] theorem Zjb : ZJ Tryz.prog 43 1=some 2:=kf
@[go_sem] theorem Zjc : ZJ Tryz.prog 43 2=some 3:=kf
@[go_sem] theorem Zjd : ZJ Tryz.prog 43 3=some 4:=kf
@[go_sem] theorem Zje : ZJ Tryz.prog 43 4=some 5:=kf
@[go_sem] theorem Zo8 : C8 Tryz.prog 43=some (C3 [(0,2),(2,1),(3,1),(4,1),(5,1)]):=kf
@[go_sem] theorem Zj9 : Xi Tryz.prog 43=some [.list true [],.list true [],.list true [],.list true [],.list true [],.list true []]:=kf
@[go_sem] theorem ZpH : Tryz.prog.underlying 46=some (.slice 4):=kf
@[go_sem] theorem Zpo : YC Tryz.prog 46=some 1:=kf
@[go_sem] theorem Znm : XH Tryz.prog 46=some false:=kf
@[go_sem] theorem ZnE : YZ Tryz.prog 46=some (none,1):=kf
@[go_sem] theorem ZmZ : Qi Tryz.prog 46=some 1:=kf
@[go_sem] theorem T6 : Aj Tryz.prog 46=some (1,1):=kf
@[go_sem] theorem ZfY (H:List AM.Obj) (u:TypeId) (y:V):Ve Tryz.prog H 46 u (.p (.list true [])) y=IQ H (some (1,1)) (Wp (Tryz.prog.underlying u) H y):=AT T6
@[go_sem] theorem Zf3 (H:List AM.Obj) (u:TypeId) (o n:Nat) (y:V):Ve Tryz.prog H 46 u (.sl o 0 n n) y=UE H (some (1,1)) (oat H o) o n (Wp (Tryz.prog.underlying u) H y):=YS T6
@[go_sem] theorem nY : Pv Tryz.prog 46=some (1,1,.bool false):=kf
@[go_sem] theorem ZoJ (H:List AM.Obj) (fr:List V) (x y:Operand):Ws Tryz.prog (.makeSlice 46 x y) fr H=U4 (some (1,1,.bool false)) H (ev fr x) (ev fr y):=DW nY
@[go_sem] theorem ZpI : Tryz.prog.underlying 47=some (.slice 126):=kf
@[go_sem] theorem Zpp : YC Tryz.prog 47=some 1:=kf
@[go_sem] theorem Znn : XH Tryz.prog 47=some false:=kf
@[go_sem] theorem ZnF : YZ Tryz.prog 47=some (none,2):=kf
@[go_sem] theorem Zm0 : Qi Tryz.prog 47=some 2:=kf
@[go_sem] theorem T7 : Aj Tryz.prog 47=some (2,16):=kf
@[go_sem] theorem ZfZ (H:List AM.Obj) (u:TypeId) (y:V):Ve Tryz.prog H 47 u (.p (.list true [])) y=IQ H (some (2,16)) (Wp (Tryz.prog.underlying u) H y):=AT T7
@[go_sem] theorem Zf4 (H:List AM.Obj) (u:TypeId) (o n:Nat) (y:V):Ve Tryz.prog H 47 u (.sl o 0 n n) y=UE H (some (2,16)) (oat H o) o n (Wp (Tryz.prog.underlying u) H y):=YS T7
@[go_sem] theorem Zpq : YC Tryz.prog 49=some 4:=kf
@[go_sem] theorem Zno : XH Tryz.prog 49=some true:=kf
@[go_sem] theorem Zjf : ZJ Tryz.prog 49 0=some 0:=kf
@[go_sem] theorem Zjg : ZJ Tryz.prog 49 1=some 1:=kf
@[go_sem] theorem Zjh : ZJ Tryz.prog 49 2=some 2:=kf
@[go_sem] theorem Zji : ZJ Tryz.prog 49 3=some 3:=kf
@[go_sem] theorem Zo9 : C8 Tryz.prog 49=some (C3 [(0,1),(1,1),(2,1),(3,1)]):=kf
@[go_sem] theorem Zka : Xi Tryz.prog 49=some [.int .i64 0,.int .i64 0,.list true [],.list true []]:=kf
@[go_sem] theorem Zpr : YC Tryz.prog 51=some 4:=kf
@[go_sem] theorem Znp : XH Tryz.prog 51=some true:=kf
@[go_sem] theorem Zjj : ZJ Tryz.prog 51 0=some 0:=kf
@[go_sem] theorem Zjk : ZJ Tryz.prog 51 1=some 1:=kf
@[go_sem] theorem Zjl : ZJ Tryz.prog 51 2=some 2:=kf
@[go_sem] theorem Zjm : ZJ Tryz.prog 51 3=some 3:=kf
@[go_sem] theorem Zpa : C8 Tryz.prog 51=some (C3 [(0,1),(1,1),(2,1),(3,1)]):=kf
@[go_sem] theorem Zkb : Xi Tryz.prog 51=some [.int .i64 0,.int .i64 0,.int .i64 0,.int .i64 0]:=kf
@[go_sem] theorem Zps : YC Tryz.prog 57=some 4:=kf
@[go_sem] theorem Znq : XH Tryz.prog 57=some true:=kf
@[go_sem] theorem Zjn : ZJ Tryz.prog 57 0=some 0:=kf
@[go_sem] theorem Zjo : ZJ Tryz.prog 57 1=some 1:=kf
@[go_sem] theorem Zjp : ZJ Tryz.prog 57 2=some 2:=kf
@[go_sem] theorem Zjq : ZJ Tryz.prog 57 3=some 3:=kf
@[go_sem] theorem pZ : Tryz.prog.stoodInHeld 57=false:=kf
@[go_sem] theorem Zpb : C8 Tryz.prog 57=some (C3 [(0,1),(1,1),(2,1),(3,1)]):=kf
@[go_sem] theorem ZoH (d:Nat) (a b:List PV):Cb Tryz.prog d 57 (Tryz.prog.underlying 57) (.agg a) (.agg b)=An (MU (Wr Tryz.prog d 3) (apart Tryz.prog 3 a 0) (apart Tryz.prog 3 b 0)) (An (MU (Wr Tryz.prog d 3) (apart Tryz.prog 3 a 1) (apart Tryz.prog 3 b 1)) (An (MU (Wr Tryz.prog d 3) (apart Tryz.prog 3 a 2) (apart Tryz.prog 3 b 2)) (An (MU (Wr Tryz.prog d 3) (apart Tryz.prog 3 a 3) (apart Tryz.prog 3 b 3)) (some true)))):=by rw [Tryz.underlying57,UJ pZ];simp [KC,AX]
@[go_sem] theorem ZoU : Tryz.prog.eqGuardType Tryz.prog.depth 57=false:=kf
@[go_sem] theorem Zkc : Xi Tryz.prog 57=some [.int .i64 0,.int .i64 0,.int .i64 0,.int .i64 0]:=kf
@[go_sem] theorem Zpt : YC Tryz.prog 59=some 16:=kf
@[go_sem] theorem Znr : XH Tryz.prog 59=some true:=kf
@[go_sem] theorem Zjr : ZJ Tryz.prog 59 0=some 0:=kf
@[go_sem] theorem Zjs : ZJ Tryz.prog 59 1=some 1:=kf
@[go_sem] theorem Zjt : ZJ Tryz.prog 59 2=some 2:=kf
@[go_sem] theorem Zju : ZJ Tryz.prog 59 3=some 6:=kf
@[go_sem] theorem Zjv : ZJ Tryz.prog 59 4=some 10:=kf
@[go_sem] theorem Zjw : ZJ Tryz.prog 59 5=some 11:=kf
@[go_sem] theorem Zjx : ZJ Tryz.prog 59 6=some 12:=kf
@[go_sem] theorem Zjy : ZJ Tryz.prog 59 7=some 13:=kf
@[go_sem] theorem Zjz : ZJ Tryz.prog 59 8=some 14:=kf
@[go_sem] theorem ZjA : ZJ Tryz.prog 59 9=some 15:=kf
@[go_sem] theorem Zkd : Xi Tryz.prog 59=some [.str [],.list true [],.int .i64 0,.int .i64 0,.int .i64 0,.int .i64 0,.int .i64 0,.int .i64 0,.int .i64 0,.int .i64 0,.int .i64 0,.int .i64 0,.int .i64 0,.int .i64 0,.int .i64 0,.bool false]:=kf
@[go_sem] theorem Zpu : YC Tryz.prog 63=some 15:=kf
@[go_sem] theorem Zns : XH Tryz.prog 63=some true:=kf
@[go_sem] theorem ZjB : ZJ Tryz.prog 63 0=some 0:=kf
@[go_sem] theorem ZjC : ZJ Tryz.prog 63 1=some 6:=kf
@[go_sem] theorem ZjD : ZJ Tryz.prog 63 2=some 8:=kf
@[go_sem] theorem ZjE : ZJ Tryz.prog 63 3=some 9:=kf
@[go_sem] theorem Zpv : YC Tryz.prog 82=some 14:=kf
@[go_sem] theorem Znt : XH Tryz.prog 82=some true:=kf
@[go_sem] theorem ZjF : ZJ Tryz.prog 82 0=some 0:=kf
@[go_sem] theorem ZjG : ZJ Tryz.prog 82 1=some 1:=kf
@[go_sem] theorem ZjH : ZJ Tryz.prog 82 2=some 2:=kf
@[go_sem] theorem ZjI : ZJ Tryz.prog 82 3=some 3:=kf
@[go_sem] theorem ZjJ : ZJ Tryz.prog 82 4=some 4:=kf
@[go_sem] theorem ZjK : ZJ Tryz.prog 82 5=some 5:=kf
@[go_sem] theorem ZjL : ZJ Tryz.prog 82 6=some 6:=kf
@[go_sem] theorem ZjM : ZJ Tryz.prog 82 7=some 7:=kf
@[go_sem] theorem ZjN : ZJ Tryz.prog 82 8=some 8:=kf
@[go_sem] theorem ZjO : ZJ Tryz.prog 82 9=some 9:=kf
@[go_sem] theorem ZeR : ZJ Tryz.prog 82 10=some 10:=kf
@[go_sem] theorem ZeS : ZJ Tryz.prog 82 11=some 11:=kf
@[go_sem] theorem ZeT : ZJ Tryz.prog 82 12=some 12:=kf
@[go_sem] theorem ZeU : ZJ Tryz.prog 82 13=some 13:=kf
@[go_sem] theorem Zke : Xi Tryz.prog 82=some [.str [],.int .i64 0,.int .i64 0,.int .i64 0,.list true [],.int .i64 0,.int .i64 0,.int .i64 0,.int .i64 0,.int .i64 0,.int .i64 0,.int .i64 0,.int .i64 0,.int .i64 0]:=kf
@[go_sem] theorem Zpw : YC Tryz.prog 90=some 1:=kf
@[go_sem] theorem Znu : XH Tryz.prog 90=some false:=kf
@[go_sem] theorem ZpJ : Tryz.prog.underlying 93=some (.slice 178):=kf
@[go_sem] theorem Zpx : YC Tryz.prog 93=some 1:=kf
@[go_sem] theorem Znv : XH Tryz.prog 93=some false:=kf
@[go_sem] theorem ZnG : YZ Tryz.prog 93=some (none,4):=kf
@[go_sem] theorem Zm1 : Qi Tryz.prog 93=some 4:=kf
@[go_sem] theorem uR : Aj Tryz.prog 93=some (4,32):=kf
@[go_sem] theorem Zf5 (H:List AM.Obj) (u:TypeId) (o n:Nat) (y:V):Ve Tryz.prog H 93 u (.sl o 0 n n) y=UE H (some (4,32)) (oat H o) o n (Wp (Tryz.prog.underlying u) H y):=YS uR
@[go_sem] theorem Zpy : YC Tryz.prog 95=some 5:=kf
@[go_sem] theorem Znw : XH Tryz.prog 95=some true:=kf
@[go_sem] theorem ZjP : ZJ Tryz.prog 95 0=some 0:=kf
@[go_sem] theorem ZjQ : ZJ Tryz.prog 95 1=some 1:=kf
@[go_sem] theorem ZjR : ZJ Tryz.prog 95 2=some 2:=kf
@[go_sem] theorem ZjS : ZJ Tryz.prog 95 3=some 3:=kf
@[go_sem] theorem ZjT : ZJ Tryz.prog 95 4=some 4:=kf
@[go_sem] theorem Zpc : C8 Tryz.prog 95=some (C3 [(0,1),(1,1),(2,1),(3,1),(4,1)]):=kf
@[go_sem] theorem Zkf : Xi Tryz.prog 95=some [.bool false,.int .i64 0,.list true [],.int .i64 0,.int .i64 0]:=kf
@[go_sem] theorem Zol : Tryz.prog.underlying 110=some (.slice 158):=kf
@[go_sem] theorem ZnZ : YC Tryz.prog 110=some 1:=kf
@[go_sem] theorem Zlq : XH Tryz.prog 110=some false:=kf
@[go_sem] theorem ZlK : YZ Tryz.prog 110=some (none,7):=kf
@[go_sem] theorem Zk4 : Qi Tryz.prog 110=some 7:=kf
@[go_sem] theorem kQ : Aj Tryz.prog 110=some (7,88):=kf
@[go_sem] theorem Zcw (H:List AM.Obj) (u:TypeId) (o n:Nat) (y:V):Ve Tryz.prog H 110 u (.sl o 0 n n) y=UE H (some (7,88)) (oat H o) o n (Wp (Tryz.prog.underlying u) H y):=YS kQ
@[go_sem] theorem Zom : Tryz.prog.underlying 121=some (.slice 229):=kf
@[go_sem] theorem ZlL : YZ Tryz.prog 121=some (none,2):=kf
@[go_sem] theorem Zk5 : Qi Tryz.prog 121=some 2:=kf
@[go_sem] theorem OP : Aj Tryz.prog 121=some (2,24):=kf
@[go_sem] theorem Zcv (H:List AM.Obj) (u:TypeId) (y:V):Ve Tryz.prog H 121 u (.p (.list true [])) y=IQ H (some (2,24)) (Wp (Tryz.prog.underlying u) H y):=AT OP
@[go_sem] theorem Zcx (H:List AM.Obj) (u:TypeId) (o n:Nat) (y:V):Ve Tryz.prog H 121 u (.sl o 0 n n) y=UE H (some (2,24)) (oat H o) o n (Wp (Tryz.prog.underlying u) H y):=YS OP
@[go_sem] theorem Zn0 : YC Tryz.prog 126=some 2:=kf
@[go_sem] theorem Zlr : XH Tryz.prog 126=some true:=kf
@[go_sem] theorem ZdZ : ZJ Tryz.prog 126 0=some 0:=kf
@[go_sem] theorem Zd0 : ZJ Tryz.prog 126 1=some 1:=kf
@[go_sem] theorem iZ : Tryz.prog.stoodInHeld 126=false:=kf
@[go_sem] theorem ZnI : C8 Tryz.prog 126=some (C3 [(0,1),(1,1)]):=kf
@[go_sem] theorem Zml (d:Nat) (a b:List PV):Cb Tryz.prog d 126 (Tryz.prog.underlying 126) (.agg a) (.agg b)=An (MU (Wr Tryz.prog d 3) (apart Tryz.prog 3 a 0) (apart Tryz.prog 3 b 0)) (An (MU (Wr Tryz.prog d 4) (apart Tryz.prog 4 a 1) (apart Tryz.prog 4 b 1)) (some true)):=by rw [Tryz.underlying126,UJ iZ];simp [KC,AX]
@[go_sem] theorem Zmy : Tryz.prog.eqGuardType Tryz.prog.depth 126=false:=kf
@[go_sem] theorem ZeZ : Xi Tryz.prog 126=some [.int .i64 0,.bool false]:=kf
@[go_sem] theorem Zon : Tryz.prog.underlying 127=some (.slice 188):=kf
@[go_sem] theorem Zn1 : YC Tryz.prog 127=some 1:=kf
@[go_sem] theorem Zls : XH Tryz.prog 127=some false:=kf
@[go_sem] theorem ZlM : YZ Tryz.prog 127=some (none,2):=kf
@[go_sem] theorem Zn2 : YC Tryz.prog 129=some 6:=kf
@[go_sem] theorem Zlt : XH Tryz.prog 129=some true:=kf
@[go_sem] theorem Zd1 : ZJ Tryz.prog 129 0=some 0:=kf
@[go_sem] theorem Zd2 : ZJ Tryz.prog 129 1=some 1:=kf
@[go_sem] theorem Zd3 : ZJ Tryz.prog 129 2=some 2:=kf
@[go_sem] theorem Zd4 : ZJ Tryz.prog 129 3=some 3:=kf
@[go_sem] theorem Zd5 : ZJ Tryz.prog 129 4=some 4:=kf
@[go_sem] theorem Zd6 : ZJ Tryz.prog 129 5=some 5:=kf
@[go_sem] theorem ZnJ : C8 Tryz.prog 129=some (C3 [(0,1),(1,1),(2,1),(3,1),(4,1),(5,1)]):=kf
@[go_sem] theorem Ze0 : Xi Tryz.prog 129=some [.int .i64 0,.int .i64 0,.int .i64 0,.int .i64 0,.list true [],.list true []]:=kf
@[go_sem] theorem Zoo : Tryz.prog.underlying 132=some (.array 2 3):=kf
@[go_sem] theorem Zn3 : YC Tryz.prog 132=some 2:=kf
@[go_sem] theorem Zlu : XH Tryz.prog 132=some true:=kf
@[go_sem] theorem ZlN : YZ Tryz.prog 132=some ((some 2),1):=kf
@[go_sem] theorem Zmm (d:Nat) (a b:List PV):Cb Tryz.prog d 132 (some (.array 2 3)) (.agg a) (.agg b)=Ca (Wr Tryz.prog d 3) Tryz.prog 3 1 2 0 a b:=M1 Zod
@[go_sem] theorem Zmz : Tryz.prog.eqGuardType Tryz.prog.depth 132=false:=kf
@[go_sem] theorem Ze1 : Xi Tryz.prog 132=some [.int .i64 0,.int .i64 0]:=kf
@[go_sem] theorem Zop : Tryz.prog.underlying 139=some (.int .u64):=kf
@[go_sem] theorem ZlO : YZ Tryz.prog 149=some ((some 6),1):=kf
@[go_sem] theorem Zn4 : YC Tryz.prog 151=some 8:=kf
@[go_sem] theorem Zlv : XH Tryz.prog 151=some true:=kf
@[go_sem] theorem Zd7 : ZJ Tryz.prog 151 0=some 0:=kf
@[go_sem] theorem Zd8 : ZJ Tryz.prog 151 1=some 1:=kf
@[go_sem] theorem Zd9 : ZJ Tryz.prog 151 2=some 2:=kf
@[go_sem] theorem ZnK : C8 Tryz.prog 151=some (C3 [(0,1),(1,1),(2,6)]):=kf
@[go_sem] theorem Ze2 : Xi Tryz.prog 151=some [.int .i64 0,.int .i64 0,.int .i64 0,.int .i64 0,.int .i64 0,.int .i64 0,.int .i64 0,.int .i64 0]:=kf
@[go_sem] theorem Zn5 : YC Tryz.prog 158=some 7:=kf
@[go_sem] theorem Zlw : XH Tryz.prog 158=some true:=kf
@[go_sem] theorem Zea : ZJ Tryz.prog 158 0=some 0:=kf
@[go_sem] theorem Zeb : ZJ Tryz.prog 158 1=some 1:=kf
@[go_sem] theorem Zec : ZJ Tryz.prog 158 2=some 2:=kf
@[go_sem] theorem Zed : ZJ Tryz.prog 158 3=some 3:=kf
@[go_sem] theorem ZnL : C8 Tryz.prog 158=some (C3 [(0,1),(1,1),(2,1),(3,4)]):=kf
@[go_sem] theorem Ze3 : Xi Tryz.prog 158=some [.int .i64 0,.int .i64 0,.int .i64 0,.int .i64 0,.int .i64 0,.list true [],.list true []]:=kf
@[go_sem] theorem Zn6 : YC Tryz.prog 166=some 3:=kf
@[go_sem] theorem Zlx : XH Tryz.prog 166=some true:=kf
@[go_sem] theorem Zee : ZJ Tryz.prog 166 0=some 0:=kf
@[go_sem] theorem Zef : ZJ Tryz.prog 166 1=some 1:=kf
@[go_sem] theorem Zeg : ZJ Tryz.prog 166 2=some 2:=kf
@[go_sem] theorem ZnM : C8 Tryz.prog 166=some (C3 [(0,1),(1,1),(2,1)]):=kf
@[go_sem] theorem Ze4 : Xi Tryz.prog 166=some [.bool false,.list true [],.int .i64 0]:=kf
@[go_sem] theorem Zn7 : YC Tryz.prog 178=some 4:=kf
@[go_sem] theorem Zly : XH Tryz.prog 178=some true:=kf
@[go_sem] theorem Zeh : ZJ Tryz.prog 178 1=some 1:=kf
@[go_sem] theorem Zei : ZJ Tryz.prog 178 2=some 2:=kf
@[go_sem] theorem Zej : ZJ Tryz.prog 178 3=some 3:=kf
@[go_sem] theorem ZnN : C8 Tryz.prog 178=some (C3 [(0,1),(1,1),(2,1),(3,1)]):=kf
@[go_sem] theorem Ze5 : Xi Tryz.prog 178=some [.int .i64 0,.int .i64 0,.int .i64 0,.bool false]:=kf
@[go_sem] theorem Zn8 : YC Tryz.prog 188=some 2:=kf
@[go_sem] theorem Zlz : XH Tryz.prog 188=some true:=kf
@[go_sem] theorem Zek : ZJ Tryz.prog 188 0=some 0:=kf
@[go_sem] theorem Zel : ZJ Tryz.prog 188 1=some 1:=kf
@[go_sem] theorem jA : Tryz.prog.stoodInHeld 188=false:=kf
@[go_sem] theorem Zmn (d:Nat) (a b:List PV):Cb Tryz.prog d 188 (Tryz.prog.underlying 188) (.agg a) (.agg b)=An (MU (Wr Tryz.prog d 3) (apart Tryz.prog 3 a 0) (apart Tryz.prog 3 b 0)) (An (MU (Wr Tryz.prog d 3) (apart Tryz.prog 3 a 1) (apart Tryz.prog 3 b 1)) (some true)):=by rw [Tryz.underlying188,UJ jA];simp [KC,AX]
@[go_sem] theorem ZmA : Tryz.prog.eqGuardType Tryz.prog.depth 188=false:=kf
@[go_sem] theorem Ze6 : Xi Tryz.prog 188=some [.int .i64 0,.int .i64 0]:=kf
@[go_sem] theorem Zoq : Tryz.prog.underlying 192=some (.slice 31):=kf
@[go_sem] theorem ZlP : YZ Tryz.prog 192=some (none,1):=kf
@[go_sem] theorem Zk6 : Qi Tryz.prog 192=some 1:=kf
@[go_sem] theorem kR : Aj Tryz.prog 192=some (1,24):=kf
@[go_sem] theorem Zcy (H:List AM.Obj) (u:TypeId) (o n:Nat) (y:V):Ve Tryz.prog H 192 u (.sl o 0 n n) y=UE H (some (1,24)) (oat H o) o n (Wp (Tryz.prog.underlying u) H y):=YS kR
@[go_sem] theorem Zor : Tryz.prog.underlying 202=some (.slice 30):=kf
@[go_sem] theorem ZlQ : YZ Tryz.prog 202=some (none,1):=kf
@[go_sem] theorem Zk7 : Qi Tryz.prog 202=some 1:=kf
@[go_sem] theorem Zn9 : YC Tryz.prog 204=some 1:=kf
@[go_sem] theorem ZlA : XH Tryz.prog 204=some false:=kf
@[go_sem] theorem Zoa : YC Tryz.prog 205=some 1:=kf
@[go_sem] theorem ZlB : XH Tryz.prog 205=some false:=kf
@[go_sem] theorem ZlR : YZ Tryz.prog 205=some (none,1):=kf
@[go_sem] theorem Zem : ZJ Tryz.prog 207 0=some 0:=kf
@[go_sem] theorem Zen : ZJ Tryz.prog 207 1=some 6:=kf
@[go_sem] theorem Zeo : ZJ Tryz.prog 207 2=some 7:=kf
@[go_sem] theorem Zep : ZJ Tryz.prog 207 3=some 8:=kf
@[go_sem] theorem Zeq : ZJ Tryz.prog 207 4=some 9:=kf
@[go_sem] theorem ZnO : C8 Tryz.prog 207=some (C3 [(0,6),(6,1),(7,1),(8,1),(9,1)]):=kf
@[go_sem] theorem Ze7 : Xi Tryz.prog 207=some [.list true [],.list true [],.list true [],.list true [],.list true [],.list true [],.list true [],.list true [],.nilm,.int .i64 0]:=kf
@[go_sem] theorem Zer : ZJ Tryz.prog 217 0=some 0:=kf
@[go_sem] theorem Zes : ZJ Tryz.prog 217 1=some 6:=kf
@[go_sem] theorem Zet : ZJ Tryz.prog 217 2=some 7:=kf
@[go_sem] theorem Zeu : ZJ Tryz.prog 217 3=some 8:=kf
@[go_sem] theorem Zev : ZJ Tryz.prog 217 4=some 12:=kf
@[go_sem] theorem ZnP : C8 Tryz.prog 217=some (C3 [(0,6),(6,1),(7,1),(8,4),(12,1)]):=kf
@[go_sem] theorem Ze8 : Xi Tryz.prog 217=some [.list true [],.list true [],.list true [],.list true [],.list true [],.list true [],.int .i64 0,.bool false,.int .i64 0,.int .i64 0,.list true [],.list true [],.int .i64 0]:=kf
@[go_sem] theorem Zew : ZJ Tryz.prog 222 0=some 0:=kf
@[go_sem] theorem Zex : ZJ Tryz.prog 222 1=some 6:=kf
@[go_sem] theorem Zey : ZJ Tryz.prog 222 2=some 7:=kf
@[go_sem] theorem ZnQ : C8 Tryz.prog 222=some (C3 [(0,6),(6,1),(7,3)]):=kf
@[go_sem] theorem Ze9 : Xi Tryz.prog 222=some [.list true [],.list true [],.list true [],.list true [],.list true [],.list true [],.list true [],.bool false,.list true [],.int .i64 0]:=kf
@[go_sem] theorem Zez : ZJ Tryz.prog 229 0=some 0:=kf
@[go_sem] theorem ZeA : ZJ Tryz.prog 229 1=some 1:=kf
@[go_sem] theorem ZnR : C8 Tryz.prog 229=some (C3 [(0,1),(1,1)]):=kf
@[go_sem] theorem Zfa : Xi Tryz.prog 229=some [.int .i64 0,.str []]:=kf
@[go_sem] theorem Zos : Tryz.prog.underlying 232=some (.slice 26):=kf
@[go_sem] theorem ZlS : YZ Tryz.prog 232=some (none,1):=kf
@[go_sem] theorem Zk8 : Qi Tryz.prog 232=some 1:=kf
@[go_sem] theorem kS : Aj Tryz.prog 232=some (1,8):=kf
@[go_sem] theorem Zcz (H:List AM.Obj) (u:TypeId) (o n:Nat) (y:V):Ve Tryz.prog H 232 u (.sl o 0 n n) y=UE H (some (1,8)) (oat H o) o n (Wp (Tryz.prog.underlying u) H y):=YS kS
@[go_sem] theorem ZeB : ZJ Tryz.prog 261 0=some 0:=kf
@[go_sem] theorem ZeC : ZJ Tryz.prog 261 1=some 6:=kf
@[go_sem] theorem ZeD : ZJ Tryz.prog 261 2=some 10:=kf
@[go_sem] theorem ZeE : ZJ Tryz.prog 261 3=some 11:=kf
@[go_sem] theorem ZeF : ZJ Tryz.prog 261 4=some 12:=kf
@[go_sem] theorem ZnS : C8 Tryz.prog 261=some (C3 [(0,6),(6,4),(10,1),(11,1),(12,7)]):=kf
@[go_sem] theorem Zfb : Xi Tryz.prog 261=some [.list true [],.list true [],.list true [],.list true [],.list true [],.list true [],.int .i64 0,.int .i64 0,.list true [],.list true [],.int .i64 0,.bool false,.int .i64 0,.int .i64 0,.int .i64 0,.int .i64 0,.int .i64 0,.list true [],.list true []]:=kf
@[go_sem] theorem Zob : YC Tryz.prog 267=some 2:=kf
@[go_sem] theorem ZlC : XH Tryz.prog 267=some true:=kf
@[go_sem] theorem ZnT : C8 Tryz.prog 267=some (C3 [(0,1),(1,1)]):=kf
@[go_sem] theorem Zfc : Xi Tryz.prog 267=some [.int .i64 0,.int .i64 0]:=kf
@[go_sem] theorem Zot : Tryz.prog.underlying 268=some (.array 4 3):=kf
@[go_sem] theorem Zoc : YC Tryz.prog 268=some 4:=kf
@[go_sem] theorem ZlD : XH Tryz.prog 268=some true:=kf
@[go_sem] theorem ZnU : C8 Tryz.prog 268=some (plA 1):=kf
@[go_sem] theorem Zfd : Xi Tryz.prog 268=some [.int .i64 0,.int .i64 0,.int .i64 0,.int .i64 0]:=kf
@[go_sem] theorem Zou : Tryz.prog.underlying 286=some (.slice 90):=kf
@[go_sem] theorem ZlT : YZ Tryz.prog 286=some (none,1):=kf
@[go_sem] theorem Zk9 : Qi Tryz.prog 286=some 1:=kf
@[go_sem] theorem Zov : Tryz.prog.underlying 292=some (.slice 5):=kf
@[go_sem] theorem Zla : Qi Tryz.prog 292=some 1:=kf
@[go_sem] theorem Zoe : YC Tryz.prog 307=some 4:=kf
@[go_sem] theorem ZlE : XH Tryz.prog 307=some true:=kf
@[go_sem] theorem ZeG : ZJ Tryz.prog 307 0=some 0:=kf
@[go_sem] theorem ZeH : ZJ Tryz.prog 307 1=some 1:=kf
@[go_sem] theorem ZeI : ZJ Tryz.prog 307 2=some 2:=kf
@[go_sem] theorem ZeJ : ZJ Tryz.prog 307 3=some 3:=kf
@[go_sem] theorem ZnV : C8 Tryz.prog 307=some (C3 [(0,1),(1,1),(2,1),(3,1)]):=kf
@[go_sem] theorem Zfe : Xi Tryz.prog 307=some [.int .i64 0,.int .i64 0,.int .i64 0,.int .i64 0]:=kf
@[go_sem] theorem ZlU : YZ Tryz.prog 318=some ((some 64),1):=kf
@[go_sem] theorem Zow : Tryz.prog.underlying 323=some (.slice 57):=kf
@[go_sem] theorem Zof : YC Tryz.prog 323=some 1:=kf
@[go_sem] theorem ZlF : XH Tryz.prog 323=some false:=kf
@[go_sem] theorem ZlV : YZ Tryz.prog 323=some (none,4):=kf
@[go_sem] theorem Zlb : Qi Tryz.prog 323=some 4:=kf
@[go_sem] theorem kT : Aj Tryz.prog 323=some (4,32):=kf
@[go_sem] theorem ZcA (H:List AM.Obj) (u:TypeId) (o n:Nat) (y:V):Ve Tryz.prog H 323 u (.sl o 0 n n) y=UE H (some (4,32)) (oat H o) o n (Wp (Tryz.prog.underlying u) H y):=YS kT
@[go_sem] theorem Zog : YC Tryz.prog 325=some 25:=kf
@[go_sem] theorem ZlG : XH Tryz.prog 325=some true:=kf
@[go_sem] theorem ZeK : ZJ Tryz.prog 325 0=some 0:=kf
@[go_sem] theorem ZeL : ZJ Tryz.prog 325 1=some 6:=kf
@[go_sem] theorem ZeM : ZJ Tryz.prog 325 2=some 20:=kf
@[go_sem] theorem ZeN : ZJ Tryz.prog 325 3=some 24:=kf
@[go_sem] theorem ZnW : C8 Tryz.prog 325=some (C3 [(0,6),(6,14),(20,4),(24,1)]):=kf
@[go_sem] theorem Zff : Xi Tryz.prog 325=some [.list true [],.list true [],.list true [],.list true [],.list true [],.list true [],.str [],.int .i64 0,.int .i64 0,.int .i64 0,.list true [],.int .i64 0,.int .i64 0,.int .i64 0,.int .i64 0,.int .i64 0,.int .i64 0,.int .i64 0,.int .i64 0,.int .i64 0,.int .i64 0,.int .i64 0,.list true [],.list true [],.list true []]:=kf
@[go_sem] theorem Zoh : YC Tryz.prog 329=some 7:=kf
@[go_sem] theorem ZlH : XH Tryz.prog 329=some true:=kf
@[go_sem] theorem ZeO : ZJ Tryz.prog 329 0=some 0:=kf
@[go_sem] theorem ZeP : ZJ Tryz.prog 329 1=some 1:=kf
@[go_sem] theorem ZeQ : ZJ Tryz.prog 329 2=some 2:=kf
@[go_sem] theorem ZnX : C8 Tryz.prog 329=some (C3 [(0,1),(1,1),(2,5)]):=kf
@[go_sem] theorem Zfg : Xi Tryz.prog 329=some [.int .i64 0,.int .i64 0,.bool false,.int .i64 0,.list true [],.int .i64 0,.int .i64 0]:=kf
@[go_sem] theorem Zox : Tryz.prog.underlying 331=some (.slice 329):=kf
@[go_sem] theorem ZlW : YZ Tryz.prog 331=some (none,7):=kf
@[go_sem] theorem Zlc : Qi Tryz.prog 331=some 7:=kf
@[go_sem] theorem kU : Aj Tryz.prog 331=some (7,72):=kf
@[go_sem] theorem ZcB (H:List AM.Obj) (u:TypeId) (o n:Nat) (y:V):Ve Tryz.prog H 331 u (.sl o 0 n n) y=UE H (some (7,72)) (oat H o) o n (Wp (Tryz.prog.underlying u) H y):=YS kU
@[go_sem] theorem Zoi : YC Tryz.prog 366=some 3:=kf
@[go_sem] theorem ZlI : XH Tryz.prog 366=some true:=kf
@[go_sem] theorem jB : Tryz.prog.stoodInHeld 366=false:=kf
@[go_sem] theorem ZnY : C8 Tryz.prog 366=some (C3 [(0,1),(1,1),(2,1)]):=kf
@[go_sem] theorem Zmo (d:Nat) (a b:List PV):Cb Tryz.prog d 366 (Tryz.prog.underlying 366) (.agg a) (.agg b)=An (MU (Wr Tryz.prog d 3) (apart Tryz.prog 3 a 0) (apart Tryz.prog 3 b 0)) (An (MU (Wr Tryz.prog d 3) (apart Tryz.prog 3 a 1) (apart Tryz.prog 3 b 1)) (An (MU (Wr Tryz.prog d 3) (apart Tryz.prog 3 a 2) (apart Tryz.prog 3 b 2)) (some true))):=by rw [Tryz.underlying366,UJ jB];simp [KC,AX]
@[go_sem] theorem ZmB : Tryz.prog.eqGuardType Tryz.prog.depth 366=false:=kf
@[go_sem] theorem Zfh : Xi Tryz.prog 366=some [.int .i64 0,.int .i64 0,.int .i64 0]:=kf
theorem ZmT : Zh Tryz.prog 6:=fun args w=>Tryz.call6 args w
theorem Zhj : Zh Tryz.prog 13:=fun args w=>Tryz.call13 args w
theorem Zhk : Zh Tryz.prog 14:=fun args w=>Tryz.call14 args w
theorem Zhl : Zh Tryz.prog 16:=fun args w=>Tryz.call16 args w
theorem Zhm : Zh Tryz.prog 20:=fun args w=>Tryz.call20 args w
theorem Zhn : Zh Tryz.prog 22:=fun args w=>Tryz.call22 args w
theorem Zho : Zh Tryz.prog 23:=fun args w=>Tryz.call23 args w
theorem Zhp : Zh Tryz.prog 24:=fun args w=>Tryz.call24 args w
theorem Zhq : Zh Tryz.prog 25:=fun args w=>Tryz.call25 args w
theorem Zhr : Zh Tryz.prog 26:=fun args w=>Tryz.call26 args w
theorem Zhs : Zh Tryz.prog 27:=fun args w=>Tryz.call27 args w
theorem Zht : Zh Tryz.prog 32:=fun args w=>Tryz.call32 args w
theorem Zhu : Zh Tryz.prog 34:=fun args w=>Tryz.call34 args w
theorem Zhv : Zh Tryz.prog 41:=fun args w=>Tryz.call41 args w
theorem Zhw : Zh Tryz.prog 42:=fun args w=>Tryz.call42 args w
theorem Zhx : Zh Tryz.prog 43:=fun args w=>Tryz.call43 args w
theorem Zhy : Zh Tryz.prog 44:=fun args w=>Tryz.call44 args w
theorem Zhz : Zh Tryz.prog 45:=fun args w=>Tryz.call45 args w
theorem ZhA : Zh Tryz.prog 46:=fun args w=>Tryz.call46 args w
theorem ZhB : Zh Tryz.prog 47:=fun args w=>Tryz.call47 args w
theorem ZhC : Zh Tryz.prog 48:=fun args w=>Tryz.call48 args w
theorem ZhD : Zh Tryz.prog 50:=fun args w=>Tryz.call50 args w
theorem ZhE : Zh Tryz.prog 53:=fun args w=>Tryz.call53 args w
theorem ZhF : Zh Tryz.prog 55:=fun args w=>Tryz.call55 args w
theorem ZhG : Zh Tryz.prog 56:=fun args w=>Tryz.call56 args w
theorem ZhH : Zh Tryz.prog 57:=fun args w=>Tryz.call57 args w
theorem ZhI : Zh Tryz.prog 58:=fun args w=>Tryz.call58 args w
theorem ZhJ : Zh Tryz.prog 59:=fun args w=>Tryz.call59 args w
theorem ZhK : Zh Tryz.prog 60:=fun args w=>Tryz.call60 args w
theorem ZhL : Zh Tryz.prog 61:=fun args w=>Tryz.call61 args w
theorem ZhM : Zh Tryz.prog 62:=fun args w=>Tryz.call62 args w
theorem ZhN : Zh Tryz.prog 63:=fun args w=>Tryz.call63 args w
theorem ZhO : Zh Tryz.prog 64:=fun args w=>Tryz.call64 args w
theorem ZhP : Zh Tryz.prog 65:=fun args w=>Tryz.call65 args w
theorem ZhQ : Zh Tryz.prog 66:=fun args w=>Tryz.call66 args w
theorem ZhR : Zh Tryz.prog 74:=fun args w=>Tryz.call74 args w
theorem ZhS : Zh Tryz.prog 75:=fun args w=>Tryz.call75 args w
theorem ZhT : Zh Tryz.prog 76:=fun args w=>Tryz.call76 args w
theorem ZhU : Zh Tryz.prog 78:=fun args w=>Tryz.call78 args w
theorem ZhV : Zh Tryz.prog 81:=fun args w=>Tryz.call81 args w
theorem ZhW : Zh Tryz.prog 84:=fun args w=>Tryz.call84 args w
theorem ZhX : Zh Tryz.prog 85:=fun args w=>Tryz.call85 args w
theorem ZhY : Zh Tryz.prog 86:=fun args w=>Tryz.call86 args w
theorem ZhZ : Zh Tryz.prog 87:=fun args w=>Tryz.call87 args w
theorem Zh0 : Zh Tryz.prog 88:=fun args w=>Tryz.call88 args w
theorem sZ : Zh Tryz.prog 89:=fun args w=>Tryz.call89 args w
theorem Zh1 : Zh Tryz.prog 90:=fun args w=>Tryz.call90 args w
theorem Zh2 : Zh Tryz.prog 92:=fun args w=>Tryz.call92 args w
theorem Zh3 : Zh Tryz.prog 93:=fun args w=>Tryz.call93 args w
theorem Zh4 : Zh Tryz.prog 94:=fun args w=>Tryz.call94 args w
theorem Zh5 : Zh Tryz.prog 95:=fun args w=>Tryz.call95 args w
theorem Zh6 : Zh Tryz.prog 96:=fun args w=>Tryz.call96 args w
theorem Zh7 : Zh Tryz.prog 97:=fun args w=>Tryz.call97 args w
theorem Zh8 : Zh Tryz.prog 98:=fun args w=>Tryz.call98 args w
theorem Zh9 : Zh Tryz.prog 99:=fun args w=>Tryz.call99 args w
theorem wZ : Zh Tryz.prog 100:=fun args w=>Tryz.call100 args w
theorem xA : Zh Tryz.prog 101:=fun args w=>Tryz.call101 args w
theorem xB : Zh Tryz.prog 102:=fun args w=>Tryz.call102 args w
theorem dI : Zh Tryz.prog 103:=fun args w=>Tryz.call103 args w
theorem xC : Zh Tryz.prog 104:=fun args w=>Tryz.call104 args w
theorem xD : Zh Tryz.prog 105:=fun args w=>Tryz.call105 args w
theorem xE : Zh Tryz.prog 106:=fun args w=>Tryz.call106 args w
theorem xF : Zh Tryz.prog 107:=fun args w=>Tryz.call107 args w
theorem xG : Zh Tryz.prog 108:=fun args w=>Tryz.call108 args w
theorem xH : Zh Tryz.prog 109:=fun args w=>Tryz.call109 args w
theorem xI : Zh Tryz.prog 110:=fun args w=>Tryz.call110 args w
theorem xJ : Zh Tryz.prog 111:=fun args w=>Tryz.call111 args w
theorem xK : Zh Tryz.prog 121:=fun args w=>Tryz.call121 args w
theorem xL : Zh Tryz.prog 123:=fun args w=>Tryz.call123 args w
theorem xM : Zh Tryz.prog 124:=fun args w=>Tryz.call124 args w
theorem xN : Zh Tryz.prog 125:=fun args w=>Tryz.call125 args w
theorem xO : Zh Tryz.prog 126:=fun args w=>Tryz.call126 args w
theorem xP : Zh Tryz.prog 127:=fun args w=>Tryz.call127 args w
theorem xQ : Zh Tryz.prog 128:=fun args w=>Tryz.call128 args w
theorem xR : Zh Tryz.prog 129:=fun args w=>Tryz.call129 args w
theorem xS : Zh Tryz.prog 130:=fun args w=>Tryz.call130 args w
theorem xT : Zh Tryz.prog 132:=fun args w=>Tryz.call132 args w
theorem xU : Zh Tryz.prog 133:=fun args w=>Tryz.call133 args w
theorem xV : Zh Tryz.prog 135:=fun args w=>Tryz.call135 args w
theorem xW : Zh Tryz.prog 136:=fun args w=>Tryz.call136 args w
theorem xX : Zh Tryz.prog 137:=fun args w=>Tryz.call137 args w
theorem xY : Zh Tryz.prog 138:=fun args w=>Tryz.call138 args w
theorem xZ : Zh Tryz.prog 139:=fun args w=>Tryz.call139 args w
theorem yA : Zh Tryz.prog 140:=fun args w=>Tryz.call140 args w
theorem yB : Zh Tryz.prog 141:=fun args w=>Tryz.call141 args w
theorem yC : Zh Tryz.prog 142:=fun args w=>Tryz.call142 args w
theorem yD : Zh Tryz.prog 143:=fun args w=>Tryz.call143 args w
theorem yE : Zh Tryz.prog 144:=fun args w=>Tryz.call144 args w
theorem dJ : Zh Tryz.prog 146:=fun args w=>Tryz.call146 args w
theorem yF : Zh Tryz.prog 147:=fun args w=>Tryz.call147 args w
theorem yG : Zh Tryz.prog 148:=fun args w=>Tryz.call148 args w
theorem yH : Zh Tryz.prog 149:=fun args w=>Tryz.call149 args w
theorem yI : Zh Tryz.prog 150:=fun args w=>Tryz.call150 args w
theorem yJ : Zh Tryz.prog 151:=fun args w=>Tryz.call151 args w
theorem yK : Zh Tryz.prog 152:=fun args w=>Tryz.call152 args w
theorem yL : Zh Tryz.prog 153:=fun args w=>Tryz.call153 args w
theorem yM : Zh Tryz.prog 154:=fun args w=>Tryz.call154 args w
theorem yN : Zh Tryz.prog 155:=fun args w=>Tryz.call155 args w
theorem yO : Zh Tryz.prog 158:=fun args w=>Tryz.call158 args w
theorem yP : Zh Tryz.prog 159:=fun args w=>Tryz.call159 args w
theorem yQ : Zh Tryz.prog 160:=fun args w=>Tryz.call160 args w
theorem dK : Zh Tryz.prog 161:=fun args w=>Tryz.call161 args w
theorem yR : Zh Tryz.prog 162:=fun args w=>Tryz.call162 args w
theorem dL : Zh Tryz.prog 163:=fun args w=>Tryz.call163 args w
theorem yS : Zh Tryz.prog 164:=fun args w=>Tryz.call164 args w
theorem yT : Zh Tryz.prog 167:=fun args w=>Tryz.call167 args w
theorem yU : Zh Tryz.prog 170:=fun args w=>Tryz.call170 args w
theorem yV : Zh Tryz.prog 171:=fun args w=>Tryz.call171 args w
theorem yW : Zh Tryz.prog 172:=fun args w=>Tryz.call172 args w
theorem yX : Zh Tryz.prog 173:=fun args w=>Tryz.call173 args w
theorem yY : Zh Tryz.prog 174:=fun args w=>Tryz.call174 args w
theorem yZ : Zh Tryz.prog 175:=fun args w=>Tryz.call175 args w
theorem zA : Zh Tryz.prog 176:=fun args w=>Tryz.call176 args w
theorem zB : Zh Tryz.prog 178:=fun args w=>Tryz.call178 args w
theorem zC : Zh Tryz.prog 183:=fun args w=>Tryz.call183 args w
theorem zD : Zh Tryz.prog 184:=fun args w=>Tryz.call184 args w
theorem zF : Zh Tryz.prog 185:=fun args w=>Tryz.call185 args w
theorem zG : Zh Tryz.prog 186:=fun args w=>Tryz.call186 args w
theorem zH : Zh Tryz.prog 187:=fun args w=>Tryz.call187 args w
theorem zJ : Zh Tryz.prog 190:=fun args w=>Tryz.call190 args w
theorem zK : Zh Tryz.prog 191:=fun args w=>Tryz.call191 args w
theorem zL : Zh Tryz.prog 192:=fun args w=>Tryz.call192 args w
theorem dM : Zh Tryz.prog 193:=fun args w=>Tryz.call193 args w
theorem zM : Zh Tryz.prog 194:=fun args w=>Tryz.call194 args w
theorem zN : Zh Tryz.prog 195:=fun args w=>Tryz.call195 args w
theorem zO : Zh Tryz.prog 196:=fun args w=>Tryz.call196 args w
theorem zP : Zh Tryz.prog 197:=fun args w=>Tryz.call197 args w
theorem zQ : Zh Tryz.prog 198:=fun args w=>Tryz.call198 args w
theorem WP : Zh Tryz.prog 210:=fun args w=>Tryz.call210 args w
theorem zR : Zh Tryz.prog 211:=fun args w=>Tryz.call211 args w
theorem zS : Zh Tryz.prog 212:=fun args w=>Tryz.call212 args w
theorem zT : Zh Tryz.prog 213:=fun args w=>Tryz.call213 args w
theorem zU : Zh Tryz.prog 214:=fun args w=>Tryz.call214 args w
theorem zV : Zh Tryz.prog 215:=fun args w=>Tryz.call215 args w
theorem zW : Zh Tryz.prog 216:=fun args w=>Tryz.call216 args w
theorem zX : Zh Tryz.prog 217:=fun args w=>Tryz.call217 args w
theorem zY : Zh Tryz.prog 218:=fun args w=>Tryz.call218 args w
theorem zZ : Zh Tryz.prog 219:=fun args w=>Tryz.call219 args w
theorem Zaa : Zh Tryz.prog 220:=fun args w=>Tryz.call220 args w
theorem Zab : Zh Tryz.prog 221:=fun args w=>Tryz.call221 args w
theorem Zac : Zh Tryz.prog 222:=fun args w=>Tryz.call222 args w
theorem Zad : Zh Tryz.prog 225:=fun args w=>Tryz.call225 args w
theorem Zae : Zh Tryz.prog 226:=fun args w=>Tryz.call226 args w
theorem Zaf : Zh Tryz.prog 227:=fun args w=>Tryz.call227 args w
theorem Zag : Zh Tryz.prog 228:=fun args w=>Tryz.call228 args w
theorem Zah : Zh Tryz.prog 229:=fun args w=>Tryz.call229 args w
theorem Zai : Zh Tryz.prog 230:=fun args w=>Tryz.call230 args w
theorem Zaj : Zh Tryz.prog 231:=fun args w=>Tryz.call231 args w
theorem Zak : Zh Tryz.prog 232:=fun args w=>Tryz.call232 args w
theorem Zal : Zh Tryz.prog 233:=fun args w=>Tryz.call233 args w
theorem Zam : Zh Tryz.prog 234:=fun args w=>Tryz.call234 args w
theorem dN : Zh Tryz.prog 236:=fun args w=>Tryz.call236 args w
theorem Zan : Zh Tryz.prog 237:=fun args w=>Tryz.call237 args w
theorem Zao : Zh Tryz.prog 239:=fun args w=>Tryz.call239 args w
theorem Zap : Zh Tryz.prog 240:=fun args w=>Tryz.call240 args w
theorem Zaq : Zh Tryz.prog 241:=fun args w=>Tryz.call241 args w
theorem Zar : Zh Tryz.prog 247:=fun args w=>Tryz.call247 args w
theorem Zas : Zh Tryz.prog 248:=fun args w=>Tryz.call248 args w
theorem Zat : Zh Tryz.prog 249:=fun args w=>Tryz.call249 args w
theorem Zau : Zh Tryz.prog 250:=fun args w=>Tryz.call250 args w
theorem Zav : Zh Tryz.prog 251:=fun args w=>Tryz.call251 args w
theorem Zaw : Zh Tryz.prog 257:=fun args w=>Tryz.call257 args w
theorem Zax : Zh Tryz.prog 258:=fun args w=>Tryz.call258 args w
theorem Zay : Zh Tryz.prog 259:=fun args w=>Tryz.call259 args w
theorem Zaz : Zh Tryz.prog 260:=fun args w=>Tryz.call260 args w
theorem ZaA : Zh Tryz.prog 261:=fun args w=>Tryz.call261 args w
theorem ZaB : Zh Tryz.prog 262:=fun args w=>Tryz.call262 args w
theorem ZaC : Zh Tryz.prog 263:=fun args w=>Tryz.call263 args w
theorem ZaD : Zh Tryz.prog 264:=fun args w=>Tryz.call264 args w
theorem ZaE : Zh Tryz.prog 265:=fun args w=>Tryz.call265 args w
theorem ZaF : Zh Tryz.prog 266:=fun args w=>Tryz.call266 args w
theorem ZaG : Zh Tryz.prog 267:=fun args w=>Tryz.call267 args w
theorem ZaH : Zh Tryz.prog 268:=fun args w=>Tryz.call268 args w
theorem dO : Zh Tryz.prog 269:=fun args w=>Tryz.call269 args w
theorem ZaI : Zh Tryz.prog 270:=fun args w=>Tryz.call270 args w
theorem ZaJ : Zh Tryz.prog 271:=fun args w=>Tryz.call271 args w
theorem ZaK : Zh Tryz.prog 272:=fun args w=>Tryz.call272 args w
theorem ZaL : Zh Tryz.prog 273:=fun args w=>Tryz.call273 args w
theorem ZaM : Zh Tryz.prog 274:=fun args w=>Tryz.call274 args w
theorem ZaN : Zh Tryz.prog 275:=fun args w=>Tryz.call275 args w
theorem ZaO : Zh Tryz.prog 276:=fun args w=>Tryz.call276 args w
theorem ZaP : Zh Tryz.prog 277:=fun args w=>Tryz.call277 args w
theorem ZaQ : Zh Tryz.prog 278:=fun args w=>Tryz.call278 args w
theorem ZaR : Zh Tryz.prog 283:=fun args w=>Tryz.call283 args w
theorem ZaS : Zh Tryz.prog 284:=fun args w=>Tryz.call284 args w
theorem ZaT : Zh Tryz.prog 286:=fun args w=>Tryz.call286 args w
theorem ZaU : Zh Tryz.prog 287:=fun args w=>Tryz.call287 args w
theorem ZaV : Zh Tryz.prog 288:=fun args w=>Tryz.call288 args w
theorem ZaW : Zh Tryz.prog 289:=fun args w=>Tryz.call289 args w
theorem ZaX : Zh Tryz.prog 290:=fun args w=>Tryz.call290 args w
theorem ZaY : Zh Tryz.prog 291:=fun args w=>Tryz.call291 args w
theorem ZaZ : Zh Tryz.prog 292:=fun args w=>Tryz.call292 args w
theorem Za0 : Zh Tryz.prog 293:=fun args w=>Tryz.call293 args w
theorem Za1 : Zh Tryz.prog 294:=fun args w=>Tryz.call294 args w
theorem Za2 : Zh Tryz.prog 295:=fun args w=>Tryz.call295 args w
theorem Za3 : Zh Tryz.prog 296:=fun args w=>Tryz.call296 args w
theorem Za4 : Zh Tryz.prog 297:=fun args w=>Tryz.call297 args w
theorem Za5 : Zh Tryz.prog 298:=fun args w=>Tryz.call298 args w
theorem Za6 : Zh Tryz.prog 299:=fun args w=>Tryz.call299 args w
theorem Za7 : Zh Tryz.prog 300:=fun args w=>Tryz.call300 args w
theorem Za8 : Zh Tryz.prog 301:=fun args w=>Tryz.call301 args w
theorem Za9 : Zh Tryz.prog 302:=fun args w=>Tryz.call302 args w
theorem Zba : Zh Tryz.prog 303:=fun args w=>Tryz.call303 args w
theorem Zbb : Zh Tryz.prog 304:=fun args w=>Tryz.call304 args w
theorem Zbc : Zh Tryz.prog 307:=fun args w=>Tryz.call307 args w
theorem Zbd : Zh Tryz.prog 308:=fun args w=>Tryz.call308 args w
theorem Zbe : Zh Tryz.prog 309:=fun args w=>Tryz.call309 args w
theorem Zbf : Zh Tryz.prog 310:=fun args w=>Tryz.call310 args w
theorem Zbg : Zh Tryz.prog 311:=fun args w=>Tryz.call311 args w
theorem Zbh : Zh Tryz.prog 312:=fun args w=>Tryz.call312 args w
theorem Zbi : Zh Tryz.prog 313:=fun args w=>Tryz.call313 args w
theorem Zbj : Zh Tryz.prog 314:=fun args w=>Tryz.call314 args w
theorem Zbk : Zh Tryz.prog 315:=fun args w=>Tryz.call315 args w
theorem Zbl : Zh Tryz.prog 316:=fun args w=>Tryz.call316 args w
theorem Zbm : Zh Tryz.prog 317:=fun args w=>Tryz.call317 args w
theorem Zbn : Zh Tryz.prog 318:=fun args w=>Tryz.call318 args w
theorem Zbo : Zh Tryz.prog 319:=fun args w=>Tryz.call319 args w
theorem Zbp : Zh Tryz.prog 320:=fun args w=>Tryz.call320 args w
theorem Zbq : Zh Tryz.prog 321:=fun args w=>Tryz.call321 args w
theorem Zbr : Zh Tryz.prog 322:=fun args w=>Tryz.call322 args w
theorem Zbs : Zh Tryz.prog 323:=fun args w=>Tryz.call323 args w
theorem Zbt : Zh Tryz.prog 324:=fun args w=>Tryz.call324 args w
theorem Zbu : Zh Tryz.prog 325:=fun args w=>Tryz.call325 args w
theorem Zbv : Zh Tryz.prog 326:=fun args w=>Tryz.call326 args w
theorem Zbw : Zh Tryz.prog 327:=fun args w=>Tryz.call327 args w
theorem Zbx : Zh Tryz.prog 328:=fun args w=>Tryz.call328 args w
theorem Zby : Zh Tryz.prog 329:=fun args w=>Tryz.call329 args w
theorem Zbz : Zh Tryz.prog 330:=fun args w=>Tryz.call330 args w
theorem ZbA : Zh Tryz.prog 331:=fun args w=>Tryz.call331 args w
theorem mixed : Tryz.prog.follows .mixedOrders=true:=Zd
end Go.Proofs.YtiigdaohjanidaaGreatDoor.K
