/- Declarations that the closing texts need, part 5: joined by tools/slim.py. -/
import Derived.Test.YtiigdaohjanidaaGreatDoorH4
import Derived.KernelRfl
namespace Go.Proofs.YtiigdaohjanidaaGreatDoor.K
open Go Go.AM Go.Proofs
abbrev PC (f:FuncId) (a:List V) (y:PV):=ACalls Tryz.prog f a [] fun x H'=>x= .p y/\H'= []
abbrev PT (f:FuncId) (a:List V) (b:List V):=ACalls Tryz.prog f a [] fun x H'=>x= .tup b/\H'= []
theorem kf {α:Type} {a b:α} (h:a=b:=by kernel_rfl):a=b:=Zh h rfl
theorem Zd {p:Prop} (h:p:=by kernel_rfl):p:=h
@[go_sem] theorem ZoR : Tryz.prog.underlying 3=some (.int .i64):=kf
@[go_sem] theorem ZoN : YE Tryz.prog 3=some 1:=kf
@[go_sem] theorem ZnZ : XG Tryz.prog 3=some false:=kf
@[go_sem] theorem Zk4 : Xj Tryz.prog 3=some [.int .i64 0]:=kf
@[go_sem] theorem ZoS : Tryz.prog.underlying 4=some .bool:=kf
@[go_sem] theorem ZoO : YE Tryz.prog 4=some 1:=kf
@[go_sem] theorem Zn0 : XG Tryz.prog 4=some false:=kf
@[go_sem] theorem ZoT : Tryz.prog.underlying 5=some (.int .u8):=kf
@[go_sem] theorem ZoP : YE Tryz.prog 5=some 1:=kf
@[go_sem] theorem Zn1 : XG Tryz.prog 5=some false:=kf
@[go_sem] theorem ZoU : Tryz.prog.underlying 9=some .string:=kf
@[go_sem] theorem ZoQ : YE Tryz.prog 9=some 1:=kf
@[go_sem] theorem Zn2 : XG Tryz.prog 9=some false:=kf
@[go_sem] theorem Zov : Tryz.prog.underlying 22=some (.slice 43):=kf
@[go_sem] theorem Zmw : YH Tryz.prog 22=some (none,6):=kf
@[go_sem] theorem ZlT : UU Tryz.prog 22=some 6:=kf
@[go_sem] theorem tP : Q1 Tryz.prog 22=some (6,144):=kf
@[go_sem] theorem Zfs (H:List AM.Obj) (u:TypeId) (o n:Nat) (y:V):WW Tryz.prog H 22 u (.sl o 0 n n) y=Um H (some (6,144)) (oat H o) o n (YO (Tryz.prog.underlying u) H y):=Yy tP
@[go_sem] theorem Zow : Tryz.prog.underlying 25=some (.slice 33):=kf
@[go_sem] theorem Zmx : YH Tryz.prog 25=some (none,2):=kf
@[go_sem] theorem ZlU : UU Tryz.prog 25=some 2:=kf
@[go_sem] theorem tQ : Q1 Tryz.prog 25=some (2,48):=kf
@[go_sem] theorem Zft (H:List AM.Obj) (u:TypeId) (o n:Nat) (y:V):WW Tryz.prog H 25 u (.sl o 0 n n) y=Um H (some (2,48)) (oat H o) o n (YO (Tryz.prog.underlying u) H y):=Yy tQ
@[go_sem] theorem Zn9 : YE Tryz.prog 26=some 1:=kf
@[go_sem] theorem Zmb : XG Tryz.prog 26=some false:=kf
@[go_sem] theorem Zox : Tryz.prog.underlying 30=some (.slice 49):=kf
@[go_sem] theorem Zoa : YE Tryz.prog 30=some 1:=kf
@[go_sem] theorem Zmc : XG Tryz.prog 30=some false:=kf
@[go_sem] theorem Zmy : YH Tryz.prog 30=some (none,4):=kf
@[go_sem] theorem ZlV : UU Tryz.prog 30=some 4:=kf
@[go_sem] theorem tR : Q1 Tryz.prog 30=some (4,64):=kf
@[go_sem] theorem Zfu (H:List AM.Obj) (u:TypeId) (o n:Nat) (y:V):WW Tryz.prog H 30 u (.sl o 0 n n) y=Um H (some (4,64)) (oat H o) o n (YO (Tryz.prog.underlying u) H y):=Yy tR
@[go_sem] theorem Zoy : Tryz.prog.underlying 31=some (.slice 3):=kf
@[go_sem] theorem Zob : YE Tryz.prog 31=some 1:=kf
@[go_sem] theorem Zmd : XG Tryz.prog 31=some false:=kf
@[go_sem] theorem Zmz : YH Tryz.prog 31=some (none,1):=kf
@[go_sem] theorem ZlW : UU Tryz.prog 31=some 1:=kf
@[go_sem] theorem tS : Q1 Tryz.prog 31=some (1,8):=kf
@[go_sem] theorem Zfv (H:List AM.Obj) (u:TypeId) (o n:Nat) (y:V):WW Tryz.prog H 31 u (.sl o 0 n n) y=Um H (some (1,8)) (oat H o) o n (YO (Tryz.prog.underlying u) H y):=Yy tS
@[go_sem] theorem mX : LA Tryz.prog 31=some (1,8,.int .i64 0):=kf
@[go_sem] theorem ZnE (H:List AM.Obj) (fr:List V) (x y:Operand):Wl Tryz.prog (.makeSlice 31 x y) fr H=Ul (some (1,8,.int .i64 0)) H (ev fr x) (ev fr y):=Av mX
@[go_sem] theorem Zoc : YE Tryz.prog 33=some 2:=kf
@[go_sem] theorem Zme : XG Tryz.prog 33=some true:=kf
@[go_sem] theorem Zh3 : ZU Tryz.prog 33 0=some 0:=kf
@[go_sem] theorem Zh4 : ZU Tryz.prog 33 1=some 1:=kf
@[go_sem] theorem Zn3 : DF Tryz.prog 33=some (DB [(0,1),(1,1)]):=kf
@[go_sem] theorem Zi2 : Xj Tryz.prog 33=some [.list true [],.list true []]:=kf
@[go_sem] theorem Zoz : Tryz.prog.underlying 35=some (.slice 9):=kf
@[go_sem] theorem Zod : YE Tryz.prog 35=some 1:=kf
@[go_sem] theorem Zmf : XG Tryz.prog 35=some false:=kf
@[go_sem] theorem ZmA : YH Tryz.prog 35=some (none,1):=kf
@[go_sem] theorem ZoA : Tryz.prog.underlying 36=some (.slice 129):=kf
@[go_sem] theorem Zoe : YE Tryz.prog 36=some 1:=kf
@[go_sem] theorem Zmg : XG Tryz.prog 36=some false:=kf
@[go_sem] theorem ZmB : YH Tryz.prog 36=some (none,6):=kf
@[go_sem] theorem Zof : YE Tryz.prog 38=some 2:=kf
@[go_sem] theorem Zmh : XG Tryz.prog 38=some true:=kf
@[go_sem] theorem Zh5 : ZU Tryz.prog 38 0=some 0:=kf
@[go_sem] theorem Zh6 : ZU Tryz.prog 38 1=some 1:=kf
@[go_sem] theorem ZoB : Tryz.prog.underlying 39=some (.slice 82):=kf
@[go_sem] theorem Zog : YE Tryz.prog 39=some 1:=kf
@[go_sem] theorem Zmi : XG Tryz.prog 39=some false:=kf
@[go_sem] theorem ZmC : YH Tryz.prog 39=some (none,14):=kf
@[go_sem] theorem ZoC : Tryz.prog.underlying 40=some (.slice 59):=kf
@[go_sem] theorem Zoh : YE Tryz.prog 40=some 1:=kf
@[go_sem] theorem Zmj : XG Tryz.prog 40=some false:=kf
@[go_sem] theorem ZmD : YH Tryz.prog 40=some (none,16):=kf
@[go_sem] theorem mY : LA Tryz.prog 40=some (16,152,.agg [.str [],.list true [],.int .i64 0,.int .i64 0,.int .i64 0,.int .i64 0,.int .i64 0,.int .i64 0,.int .i64 0,.int .i64 0,.int .i64 0,.int .i64 0,.int .i64 0,.int .i64 0,.int .i64 0,.bool false]):=kf
@[go_sem] theorem ZnF (H:List AM.Obj) (fr:List V) (x y:Operand):Wl Tryz.prog (.makeSlice 40 x y) fr H=Ul (some (16,152,.agg [.str [],.list true [],.int .i64 0,.int .i64 0,.int .i64 0,.int .i64 0,.int .i64 0,.int .i64 0,.int .i64 0,.int .i64 0,.int .i64 0,.int .i64 0,.int .i64 0,.int .i64 0,.int .i64 0,.bool false])) H (ev fr x) (ev fr y):=Av mY
@[go_sem] theorem ZoD : Tryz.prog.underlying 41=some (.slice 132):=kf
@[go_sem] theorem Zoi : YE Tryz.prog 41=some 1:=kf
@[go_sem] theorem Zmk : XG Tryz.prog 41=some false:=kf
@[go_sem] theorem ZmE : YH Tryz.prog 41=some (none,2):=kf
@[go_sem] theorem Zoj : YE Tryz.prog 43=some 6:=kf
@[go_sem] theorem Zml : XG Tryz.prog 43=some true:=kf
@[go_sem] theorem Zh7 : ZU Tryz.prog 43 0=some 0:=kf
@[go_sem] theorem Zh8 : ZU Tryz.prog 43 1=some 2:=kf
@[go_sem] theorem Zh9 : ZU Tryz.prog 43 2=some 3:=kf
@[go_sem] theorem Zia : ZU Tryz.prog 43 3=some 4:=kf
@[go_sem] theorem Zib : ZU Tryz.prog 43 4=some 5:=kf
@[go_sem] theorem Zn4 : DF Tryz.prog 43=some (DB [(0,2),(2,1),(3,1),(4,1),(5,1)]):=kf
@[go_sem] theorem Zi3 : Xj Tryz.prog 43=some [.list true [],.list true [],.list true [],.list true [],.list true [],.list true []]:=kf
@[go_sem] theorem ZoE : Tryz.prog.underlying 46=some (.slice 4):=kf
@[go_sem] theorem Zok : YE Tryz.prog 46=some 1:=kf
@[go_sem] theorem Zmm : XG Tryz.prog 46=some false:=kf
@[go_sem] theorem ZmF : YH Tryz.prog 46=some (none,1):=kf
@[go_sem] theorem ZlX : UU Tryz.prog 46=some 1:=kf
@[go_sem] theorem tT : Q1 Tryz.prog 46=some (1,1):=kf
@[go_sem] theorem Zfr (H:List AM.Obj) (u:TypeId) (y:V):WW Tryz.prog H 46 u (.p (.list true [])) y=M1 H (some (1,1)) (YO (Tryz.prog.underlying u) H y):=DJ tT
@[go_sem] theorem mZ : LA Tryz.prog 46=some (1,1,.bool false):=kf
@[go_sem] theorem ZnG (H:List AM.Obj) (fr:List V) (x y:Operand):Wl Tryz.prog (.makeSlice 46 x y) fr H=Ul (some (1,1,.bool false)) H (ev fr x) (ev fr y):=Av mZ
@[go_sem] theorem ZoF : Tryz.prog.underlying 47=some (.slice 126):=kf
@[go_sem] theorem Zol : YE Tryz.prog 47=some 1:=kf
@[go_sem] theorem Zmn : XG Tryz.prog 47=some false:=kf
@[go_sem] theorem ZmG : YH Tryz.prog 47=some (none,2):=kf
@[go_sem] theorem ZlY : UU Tryz.prog 47=some 2:=kf
@[go_sem] theorem T2 : Q1 Tryz.prog 47=some (2,16):=kf
@[go_sem] theorem Zfw (H:List AM.Obj) (u:TypeId) (o n:Nat) (y:V):WW Tryz.prog H 47 u (.sl o 0 n n) y=Um H (some (2,16)) (oat H o) o n (YO (Tryz.prog.underlying u) H y):=Yy T2
@[go_sem] theorem Zom : YE Tryz.prog 49=some 4:=kf
@[go_sem] theorem Zmo : XG Tryz.prog 49=some true:=kf
@[go_sem] theorem Zic : ZU Tryz.prog 49 0=some 0:=kf
@[go_sem] theorem Zid : ZU Tryz.prog 49 1=some 1:=kf
@[go_sem] theorem Zie : ZU Tryz.prog 49 2=some 2:=kf
@[go_sem] theorem Zif : ZU Tryz.prog 49 3=some 3:=kf
@[go_sem] theorem Zn5 : DF Tryz.prog 49=some (DB [(0,1),(1,1),(2,1),(3,1)]):=kf
@[go_sem] theorem Zi4 : Xj Tryz.prog 49=some [.int .i64 0,.int .i64 0,.list true [],.list true []]:=kf
@[go_sem] theorem Zon : YE Tryz.prog 51=some 4:=kf
@[go_sem] theorem Zmp : XG Tryz.prog 51=some true:=kf
@[go_sem] theorem Zig : ZU Tryz.prog 51 0=some 0:=kf
@[go_sem] theorem Zih : ZU Tryz.prog 51 1=some 1:=kf
@[go_sem] theorem Zii : ZU Tryz.prog 51 2=some 2:=kf
@[go_sem] theorem Zij : ZU Tryz.prog 51 3=some 3:=kf
@[go_sem] theorem Zn6 : DF Tryz.prog 51=some (DB [(0,1),(1,1),(2,1),(3,1)]):=kf
@[go_sem] theorem Zi5 : Xj Tryz.prog 51=some [.int .i64 0,.int .i64 0,.int .i64 0,.int .i64 0]:=kf
@[go_sem] theorem Zoo : YE Tryz.prog 57=some 4:=kf
@[go_sem] theorem Zmq : XG Tryz.prog 57=some true:=kf
@[go_sem] theorem Zik : ZU Tryz.prog 57 0=some 0:=kf
@[go_sem] theorem Zil : ZU Tryz.prog 57 1=some 1:=kf
@[go_sem] theorem Zim : ZU Tryz.prog 57 2=some 2:=kf
@[go_sem] theorem Zin : ZU Tryz.prog 57 3=some 3:=kf
@[go_sem] theorem Zn7 : DF Tryz.prog 57=some (DB [(0,1),(1,1),(2,1),(3,1)]):=kf
@[go_sem] theorem Zi6 : Xj Tryz.prog 57=some [.int .i64 0,.int .i64 0,.int .i64 0,.int .i64 0]:=kf
@[go_sem] theorem Zop : YE Tryz.prog 59=some 16:=kf
@[go_sem] theorem Zmr : XG Tryz.prog 59=some true:=kf
@[go_sem] theorem Zio : ZU Tryz.prog 59 0=some 0:=kf
@[go_sem] theorem Zl6 : ZU Tryz.prog 59 1=some 1:=kf
@[go_sem] theorem Ziq : ZU Tryz.prog 59 2=some 2:=kf
@[go_sem] theorem Zir : ZU Tryz.prog 59 3=some 6:=kf
@[go_sem] theorem Zis : ZU Tryz.prog 59 4=some 10:=kf
@[go_sem] theorem Zit : ZU Tryz.prog 59 5=some 11:=kf
@[go_sem] theorem Ziu : ZU Tryz.prog 59 6=some 12:=kf
@[go_sem] theorem Ziv : ZU Tryz.prog 59 7=some 13:=kf
@[go_sem] theorem Ziw : ZU Tryz.prog 59 8=some 14:=kf
@[go_sem] theorem Zix : ZU Tryz.prog 59 9=some 15:=kf
@[go_sem] theorem Zi7 : Xj Tryz.prog 59=some [.str [],.list true [],.int .i64 0,.int .i64 0,.int .i64 0,.int .i64 0,.int .i64 0,.int .i64 0,.int .i64 0,.int .i64 0,.int .i64 0,.int .i64 0,.int .i64 0,.int .i64 0,.int .i64 0,.bool false]:=kf
@[go_sem] theorem Zoq : YE Tryz.prog 82=some 14:=kf
@[go_sem] theorem Zms : XG Tryz.prog 82=some true:=kf
@[go_sem] theorem Ziy : ZU Tryz.prog 82 0=some 0:=kf
@[go_sem] theorem Ziz : ZU Tryz.prog 82 1=some 1:=kf
@[go_sem] theorem ZiA : ZU Tryz.prog 82 2=some 2:=kf
@[go_sem] theorem ZiB : ZU Tryz.prog 82 3=some 3:=kf
@[go_sem] theorem ZiC : ZU Tryz.prog 82 4=some 4:=kf
@[go_sem] theorem ZiD : ZU Tryz.prog 82 5=some 5:=kf
@[go_sem] theorem ZiE : ZU Tryz.prog 82 6=some 6:=kf
@[go_sem] theorem ZiF : ZU Tryz.prog 82 7=some 7:=kf
@[go_sem] theorem ZiG : ZU Tryz.prog 82 8=some 8:=kf
@[go_sem] theorem ZiH : ZU Tryz.prog 82 9=some 9:=kf
@[go_sem] theorem Zek : ZU Tryz.prog 82 10=some 10:=kf
@[go_sem] theorem Zel : ZU Tryz.prog 82 11=some 11:=kf
@[go_sem] theorem Zem : ZU Tryz.prog 82 12=some 12:=kf
@[go_sem] theorem Zen : ZU Tryz.prog 82 13=some 13:=kf
@[go_sem] theorem Zi8 : Xj Tryz.prog 82=some [.str [],.int .i64 0,.int .i64 0,.int .i64 0,.list true [],.int .i64 0,.int .i64 0,.int .i64 0,.int .i64 0,.int .i64 0,.int .i64 0,.int .i64 0,.int .i64 0,.int .i64 0]:=kf
@[go_sem] theorem Zor : YE Tryz.prog 90=some 1:=kf
@[go_sem] theorem Zmt : XG Tryz.prog 90=some false:=kf
@[go_sem] theorem ZoG : Tryz.prog.underlying 93=some (.slice 178):=kf
@[go_sem] theorem Zos : YE Tryz.prog 93=some 1:=kf
@[go_sem] theorem Zmu : XG Tryz.prog 93=some false:=kf
@[go_sem] theorem ZmH : YH Tryz.prog 93=some (none,4):=kf
@[go_sem] theorem ZlZ : UU Tryz.prog 93=some 4:=kf
@[go_sem] theorem tU : Q1 Tryz.prog 93=some (4,32):=kf
@[go_sem] theorem Zfx (H:List AM.Obj) (u:TypeId) (o n:Nat) (y:V):WW Tryz.prog H 93 u (.sl o 0 n n) y=Um H (some (4,32)) (oat H o) o n (YO (Tryz.prog.underlying u) H y):=Yy tU
@[go_sem] theorem Zot : YE Tryz.prog 95=some 5:=kf
@[go_sem] theorem Zmv : XG Tryz.prog 95=some true:=kf
@[go_sem] theorem ZiI : ZU Tryz.prog 95 0=some 0:=kf
@[go_sem] theorem ZiJ : ZU Tryz.prog 95 1=some 1:=kf
@[go_sem] theorem ZiK : ZU Tryz.prog 95 2=some 2:=kf
@[go_sem] theorem ZiL : ZU Tryz.prog 95 3=some 3:=kf
@[go_sem] theorem ZiM : ZU Tryz.prog 95 4=some 4:=kf
@[go_sem] theorem Zn8 : DF Tryz.prog 95=some (DB [(0,1),(1,1),(2,1),(3,1),(4,1)]):=kf
@[go_sem] theorem Zi9 : Xj Tryz.prog 95=some [.bool false,.int .i64 0,.list true [],.int .i64 0,.int .i64 0]:=kf
@[go_sem] theorem Znk : Tryz.prog.underlying 110=some (.slice 158):=kf
@[go_sem] theorem ZmY : YE Tryz.prog 110=some 1:=kf
@[go_sem] theorem Zkk : XG Tryz.prog 110=some false:=kf
@[go_sem] theorem ZkE : YH Tryz.prog 110=some (none,7):=kf
@[go_sem] theorem ZjX : UU Tryz.prog 110=some 7:=kf
@[go_sem] theorem jX : Q1 Tryz.prog 110=some (7,88):=kf
@[go_sem] theorem Zb1 (H:List AM.Obj) (u:TypeId) (o n:Nat) (y:V):WW Tryz.prog H 110 u (.sl o 0 n n) y=Um H (some (7,88)) (oat H o) o n (YO (Tryz.prog.underlying u) H y):=Yy jX
@[go_sem] theorem Znl : Tryz.prog.underlying 121=some (.slice 229):=kf
@[go_sem] theorem ZkF : YH Tryz.prog 121=some (none,2):=kf
@[go_sem] theorem ZjY : UU Tryz.prog 121=some 2:=kf
@[go_sem] theorem Oy : Q1 Tryz.prog 121=some (2,24):=kf
@[go_sem] theorem ZbZ (H:List AM.Obj) (u:TypeId) (y:V):WW Tryz.prog H 121 u (.p (.list true [])) y=M1 H (some (2,24)) (YO (Tryz.prog.underlying u) H y):=DJ Oy
@[go_sem] theorem Zb2 (H:List AM.Obj) (u:TypeId) (o n:Nat) (y:V):WW Tryz.prog H 121 u (.sl o 0 n n) y=Um H (some (2,24)) (oat H o) o n (YO (Tryz.prog.underlying u) H y):=Yy Oy
@[go_sem] theorem ZmZ : YE Tryz.prog 126=some 2:=kf
@[go_sem] theorem Zkl : XG Tryz.prog 126=some true:=kf
@[go_sem] theorem ZdA : ZU Tryz.prog 126 0=some 0:=kf
@[go_sem] theorem ZdB : ZU Tryz.prog 126 1=some 1:=kf
@[go_sem] theorem iJ : Tryz.prog.stoodInHeld 126=false:=kf
@[go_sem] theorem ZmJ : DF Tryz.prog 126=some (DB [(0,1),(1,1)]):=kf
@[go_sem] theorem Zli (d:Nat) (a b:List PV):G0 Tryz.prog d 126 (Tryz.prog.underlying 126) (.agg a) (.agg b)=FC (jL (Vl Tryz.prog d 3) (apart Tryz.prog 3 a 0) (apart Tryz.prog 3 b 0)) (FC (jL (Vl Tryz.prog d 4) (apart Tryz.prog 4 a 1) (apart Tryz.prog 4 b 1)) (some true)):=by rw [Tryz.underlying126,JO iJ];simp [B9,DM]
@[go_sem] theorem Zls : Tryz.prog.eqGuardType Tryz.prog.depth 126=false:=kf
@[go_sem] theorem Zet : Xj Tryz.prog 126=some [.int .i64 0,.bool false]:=kf
@[go_sem] theorem Znm : Tryz.prog.underlying 127=some (.slice 188):=kf
@[go_sem] theorem Zm0 : YE Tryz.prog 127=some 1:=kf
@[go_sem] theorem Zkm : XG Tryz.prog 127=some false:=kf
@[go_sem] theorem ZkG : YH Tryz.prog 127=some (none,2):=kf
@[go_sem] theorem Zm1 : YE Tryz.prog 129=some 6:=kf
@[go_sem] theorem Zkn : XG Tryz.prog 129=some true:=kf
@[go_sem] theorem ZdC : ZU Tryz.prog 129 0=some 0:=kf
@[go_sem] theorem ZdD : ZU Tryz.prog 129 1=some 1:=kf
@[go_sem] theorem ZdE : ZU Tryz.prog 129 2=some 2:=kf
@[go_sem] theorem ZdF : ZU Tryz.prog 129 3=some 3:=kf
@[go_sem] theorem ZdG : ZU Tryz.prog 129 4=some 4:=kf
@[go_sem] theorem ZdH : ZU Tryz.prog 129 5=some 5:=kf
@[go_sem] theorem ZmK : DF Tryz.prog 129=some (DB [(0,1),(1,1),(2,1),(3,1),(4,1),(5,1)]):=kf
@[go_sem] theorem Zeu : Xj Tryz.prog 129=some [.int .i64 0,.int .i64 0,.int .i64 0,.int .i64 0,.list true [],.list true []]:=kf
@[go_sem] theorem Zm2 : YE Tryz.prog 132=some 2:=kf
@[go_sem] theorem Zko : XG Tryz.prog 132=some true:=kf
@[go_sem] theorem ZkH : YH Tryz.prog 132=some ((some 2),1):=kf
@[go_sem] theorem Zev : Xj Tryz.prog 132=some [.int .i64 0,.int .i64 0]:=kf
@[go_sem] theorem Znn : Tryz.prog.underlying 139=some (.int .u64):=kf
@[go_sem] theorem ZkI : YH Tryz.prog 149=some ((some 6),1):=kf
@[go_sem] theorem Zm3 : YE Tryz.prog 151=some 8:=kf
@[go_sem] theorem Zkp : XG Tryz.prog 151=some true:=kf
@[go_sem] theorem ZdI : ZU Tryz.prog 151 0=some 0:=kf
@[go_sem] theorem ZdJ : ZU Tryz.prog 151 1=some 1:=kf
@[go_sem] theorem ZdK : ZU Tryz.prog 151 2=some 2:=kf
@[go_sem] theorem ZmL : DF Tryz.prog 151=some (DB [(0,1),(1,1),(2,6)]):=kf
@[go_sem] theorem Zew : Xj Tryz.prog 151=some [.int .i64 0,.int .i64 0,.int .i64 0,.int .i64 0,.int .i64 0,.int .i64 0,.int .i64 0,.int .i64 0]:=kf
@[go_sem] theorem Zm4 : YE Tryz.prog 158=some 7:=kf
@[go_sem] theorem Zkq : XG Tryz.prog 158=some true:=kf
@[go_sem] theorem ZdL : ZU Tryz.prog 158 0=some 0:=kf
@[go_sem] theorem ZdM : ZU Tryz.prog 158 1=some 1:=kf
@[go_sem] theorem ZdN : ZU Tryz.prog 158 2=some 2:=kf
@[go_sem] theorem ZdO : ZU Tryz.prog 158 3=some 3:=kf
@[go_sem] theorem ZmM : DF Tryz.prog 158=some (DB [(0,1),(1,1),(2,1),(3,4)]):=kf
@[go_sem] theorem Zex : Xj Tryz.prog 158=some [.int .i64 0,.int .i64 0,.int .i64 0,.int .i64 0,.int .i64 0,.list true [],.list true []]:=kf
@[go_sem] theorem Zm5 : YE Tryz.prog 178=some 4:=kf
@[go_sem] theorem Zkr : XG Tryz.prog 178=some true:=kf
@[go_sem] theorem ZdP : ZU Tryz.prog 178 1=some 1:=kf
@[go_sem] theorem ZdQ : ZU Tryz.prog 178 2=some 2:=kf
@[go_sem] theorem ZdR : ZU Tryz.prog 178 3=some 3:=kf
@[go_sem] theorem ZmN : DF Tryz.prog 178=some (DB [(0,1),(1,1),(2,1),(3,1)]):=kf
@[go_sem] theorem Zey : Xj Tryz.prog 178=some [.int .i64 0,.int .i64 0,.int .i64 0,.bool false]:=kf
@[go_sem] theorem Zm6 : YE Tryz.prog 188=some 2:=kf
@[go_sem] theorem Zks : XG Tryz.prog 188=some true:=kf
@[go_sem] theorem ZdS : ZU Tryz.prog 188 0=some 0:=kf
@[go_sem] theorem ZdT : ZU Tryz.prog 188 1=some 1:=kf
@[go_sem] theorem Zez : Xj Tryz.prog 188=some [.int .i64 0,.int .i64 0]:=kf
@[go_sem] theorem Zno : Tryz.prog.underlying 192=some (.slice 31):=kf
@[go_sem] theorem ZkJ : YH Tryz.prog 192=some (none,1):=kf
@[go_sem] theorem ZjZ : UU Tryz.prog 192=some 1:=kf
@[go_sem] theorem jY : Q1 Tryz.prog 192=some (1,24):=kf
@[go_sem] theorem Zb3 (H:List AM.Obj) (u:TypeId) (o n:Nat) (y:V):WW Tryz.prog H 192 u (.sl o 0 n n) y=Um H (some (1,24)) (oat H o) o n (YO (Tryz.prog.underlying u) H y):=Yy jY
@[go_sem] theorem Zm7 : YE Tryz.prog 204=some 1:=kf
@[go_sem] theorem Zkt : XG Tryz.prog 204=some false:=kf
@[go_sem] theorem Zm8 : YE Tryz.prog 205=some 1:=kf
@[go_sem] theorem Zku : XG Tryz.prog 205=some false:=kf
@[go_sem] theorem ZkK : YH Tryz.prog 205=some (none,1):=kf
@[go_sem] theorem ZdU : ZU Tryz.prog 207 0=some 0:=kf
@[go_sem] theorem ZdV : ZU Tryz.prog 207 1=some 6:=kf
@[go_sem] theorem ZdW : ZU Tryz.prog 207 2=some 7:=kf
@[go_sem] theorem ZdX : ZU Tryz.prog 207 3=some 8:=kf
@[go_sem] theorem ZdY : ZU Tryz.prog 207 4=some 9:=kf
@[go_sem] theorem ZmO : DF Tryz.prog 207=some (DB [(0,6),(6,1),(7,1),(8,1),(9,1)]):=kf
@[go_sem] theorem ZeA : Xj Tryz.prog 207=some [.list true [],.list true [],.list true [],.list true [],.list true [],.list true [],.list true [],.list true [],.nilm,.int .i64 0]:=kf
@[go_sem] theorem ZdZ : ZU Tryz.prog 229 0=some 0:=kf
@[go_sem] theorem Zd0 : ZU Tryz.prog 229 1=some 1:=kf
@[go_sem] theorem ZmP : DF Tryz.prog 229=some (DB [(0,1),(1,1)]):=kf
@[go_sem] theorem ZeB : Xj Tryz.prog 229=some [.int .i64 0,.str []]:=kf
@[go_sem] theorem Znp : Tryz.prog.underlying 232=some (.slice 26):=kf
@[go_sem] theorem ZkL : YH Tryz.prog 232=some (none,1):=kf
@[go_sem] theorem Zj0 : UU Tryz.prog 232=some 1:=kf
@[go_sem] theorem jZ : Q1 Tryz.prog 232=some (1,8):=kf
@[go_sem] theorem Zb4 (H:List AM.Obj) (u:TypeId) (o n:Nat) (y:V):WW Tryz.prog H 232 u (.sl o 0 n n) y=Um H (some (1,8)) (oat H o) o n (YO (Tryz.prog.underlying u) H y):=Yy jZ
@[go_sem] theorem Zd1 : ZU Tryz.prog 240 0=some 0:=kf
@[go_sem] theorem Zd2 : ZU Tryz.prog 240 1=some 6:=kf
@[go_sem] theorem Zd3 : ZU Tryz.prog 240 2=some 7:=kf
@[go_sem] theorem Zd4 : ZU Tryz.prog 240 3=some 8:=kf
@[go_sem] theorem Zd5 : ZU Tryz.prog 240 4=some 9:=kf
@[go_sem] theorem Zd6 : ZU Tryz.prog 240 5=some 16:=kf
@[go_sem] theorem ZmQ : DF Tryz.prog 240=some (DB [(0,6),(6,1),(7,1),(8,1),(9,7),(16,1)]):=kf
@[go_sem] theorem ZeC : Xj Tryz.prog 240=some [.list true [],.list true [],.list true [],.list true [],.list true [],.list true [],.int .i64 0,.int .i64 0,.int .i64 0,.int .i64 0,.int .i64 0,.int .i64 0,.int .i64 0,.int .i64 0,.list true [],.list true [],.bool false]:=kf
@[go_sem] theorem Znq : Tryz.prog.underlying 243=some (.slice 304):=kf
@[go_sem] theorem ZkM : YH Tryz.prog 243=some (none,2):=kf
@[go_sem] theorem Zj1 : UU Tryz.prog 243=some 2:=kf
@[go_sem] theorem Oz : Q1 Tryz.prog 243=some (2,16):=kf
@[go_sem] theorem Zb0 (H:List AM.Obj) (u:TypeId) (y:V):WW Tryz.prog H 243 u (.p (.list true [])) y=M1 H (some (2,16)) (YO (Tryz.prog.underlying u) H y):=DJ Oz
@[go_sem] theorem Zb5 (H:List AM.Obj) (u:TypeId) (o n:Nat) (y:V):WW Tryz.prog H 243 u (.sl o 0 n n) y=Um H (some (2,16)) (oat H o) o n (YO (Tryz.prog.underlying u) H y):=Yy Oz
@[go_sem] theorem Zm9 : YE Tryz.prog 267=some 2:=kf
@[go_sem] theorem Zkv : XG Tryz.prog 267=some true:=kf
@[go_sem] theorem ZmR : DF Tryz.prog 267=some (DB [(0,1),(1,1)]):=kf
@[go_sem] theorem ZeD : Xj Tryz.prog 267=some [.int .i64 0,.int .i64 0]:=kf
@[go_sem] theorem Znr : Tryz.prog.underlying 268=some (.array 4 3):=kf
@[go_sem] theorem Zna : YE Tryz.prog 268=some 4:=kf
@[go_sem] theorem Zkw : XG Tryz.prog 268=some true:=kf
@[go_sem] theorem ZmS : DF Tryz.prog 268=some (plA 1):=kf
@[go_sem] theorem ZeE : Xj Tryz.prog 268=some [.int .i64 0,.int .i64 0,.int .i64 0,.int .i64 0]:=kf
@[go_sem] theorem Zns : Tryz.prog.underlying 286=some (.slice 90):=kf
@[go_sem] theorem ZkN : YH Tryz.prog 286=some (none,1):=kf
@[go_sem] theorem Zj2 : UU Tryz.prog 286=some 1:=kf
@[go_sem] theorem Znt : Tryz.prog.underlying 292=some (.slice 5):=kf
@[go_sem] theorem Zj3 : UU Tryz.prog 292=some 1:=kf
@[go_sem] theorem Znb : YE Tryz.prog 304=some 2:=kf
@[go_sem] theorem Zkx : XG Tryz.prog 304=some true:=kf
@[go_sem] theorem Zd7 : ZU Tryz.prog 304 0=some 0:=kf
@[go_sem] theorem Zd8 : ZU Tryz.prog 304 1=some 1:=kf
@[go_sem] theorem iK : Tryz.prog.stoodInHeld 304=false:=kf
@[go_sem] theorem ZmT : DF Tryz.prog 304=some (DB [(0,1),(1,1)]):=kf
@[go_sem] theorem Zlj (d:Nat) (a b:List PV):G0 Tryz.prog d 304 (Tryz.prog.underlying 304) (.agg a) (.agg b)=FC (jL (Vl Tryz.prog d 3) (apart Tryz.prog 3 a 0) (apart Tryz.prog 3 b 0)) (FC (jL (Vl Tryz.prog d 3) (apart Tryz.prog 3 a 1) (apart Tryz.prog 3 b 1)) (some true)):=by rw [Tryz.underlying304,JO iK];simp [B9,DM]
@[go_sem] theorem Zlt : Tryz.prog.eqGuardType Tryz.prog.depth 304=false:=kf
@[go_sem] theorem ZeF : Xj Tryz.prog 304=some [.int .i64 0,.int .i64 0]:=kf
@[go_sem] theorem Znc : YE Tryz.prog 307=some 4:=kf
@[go_sem] theorem Zky : XG Tryz.prog 307=some true:=kf
@[go_sem] theorem Zd9 : ZU Tryz.prog 307 0=some 0:=kf
@[go_sem] theorem Zea : ZU Tryz.prog 307 1=some 1:=kf
@[go_sem] theorem Zeb : ZU Tryz.prog 307 2=some 2:=kf
@[go_sem] theorem Zec : ZU Tryz.prog 307 3=some 3:=kf
@[go_sem] theorem ZmU : DF Tryz.prog 307=some (DB [(0,1),(1,1),(2,1),(3,1)]):=kf
@[go_sem] theorem ZeG : Xj Tryz.prog 307=some [.int .i64 0,.int .i64 0,.int .i64 0,.int .i64 0]:=kf
@[go_sem] theorem ZkO : YH Tryz.prog 318=some ((some 64),1):=kf
@[go_sem] theorem Znu : Tryz.prog.underlying 323=some (.slice 57):=kf
@[go_sem] theorem Znd : YE Tryz.prog 323=some 1:=kf
@[go_sem] theorem Zkz : XG Tryz.prog 323=some false:=kf
@[go_sem] theorem ZkP : YH Tryz.prog 323=some (none,4):=kf
@[go_sem] theorem Zj4 : UU Tryz.prog 323=some 4:=kf
@[go_sem] theorem kA : Q1 Tryz.prog 323=some (4,32):=kf
@[go_sem] theorem Zb6 (H:List AM.Obj) (u:TypeId) (o n:Nat) (y:V):WW Tryz.prog H 323 u (.sl o 0 n n) y=Um H (some (4,32)) (oat H o) o n (YO (Tryz.prog.underlying u) H y):=Yy kA
@[go_sem] theorem Zne : YE Tryz.prog 325=some 25:=kf
@[go_sem] theorem ZkA : XG Tryz.prog 325=some true:=kf
@[go_sem] theorem Zed : ZU Tryz.prog 325 0=some 0:=kf
@[go_sem] theorem Zee : ZU Tryz.prog 325 1=some 6:=kf
@[go_sem] theorem Zef : ZU Tryz.prog 325 2=some 20:=kf
@[go_sem] theorem Zeg : ZU Tryz.prog 325 3=some 24:=kf
@[go_sem] theorem ZmV : DF Tryz.prog 325=some (DB [(0,6),(6,14),(20,4),(24,1)]):=kf
@[go_sem] theorem ZeH : Xj Tryz.prog 325=some [.list true [],.list true [],.list true [],.list true [],.list true [],.list true [],.str [],.int .i64 0,.int .i64 0,.int .i64 0,.list true [],.int .i64 0,.int .i64 0,.int .i64 0,.int .i64 0,.int .i64 0,.int .i64 0,.int .i64 0,.int .i64 0,.int .i64 0,.int .i64 0,.int .i64 0,.list true [],.list true [],.list true []]:=kf
@[go_sem] theorem Znf : YE Tryz.prog 329=some 7:=kf
@[go_sem] theorem ZkB : XG Tryz.prog 329=some true:=kf
@[go_sem] theorem Zeh : ZU Tryz.prog 329 0=some 0:=kf
@[go_sem] theorem Zei : ZU Tryz.prog 329 1=some 1:=kf
@[go_sem] theorem Zej : ZU Tryz.prog 329 2=some 2:=kf
@[go_sem] theorem ZmW : DF Tryz.prog 329=some (DB [(0,1),(1,1),(2,5)]):=kf
@[go_sem] theorem ZeI : Xj Tryz.prog 329=some [.int .i64 0,.int .i64 0,.bool false,.int .i64 0,.list true [],.int .i64 0,.int .i64 0]:=kf
@[go_sem] theorem Znv : Tryz.prog.underlying 331=some (.slice 329):=kf
@[go_sem] theorem ZkQ : YH Tryz.prog 331=some (none,7):=kf
@[go_sem] theorem Zj5 : UU Tryz.prog 331=some 7:=kf
@[go_sem] theorem kB : Q1 Tryz.prog 331=some (7,72):=kf
@[go_sem] theorem Zb7 (H:List AM.Obj) (u:TypeId) (o n:Nat) (y:V):WW Tryz.prog H 331 u (.sl o 0 n n) y=Um H (some (7,72)) (oat H o) o n (YO (Tryz.prog.underlying u) H y):=Yy kB
@[go_sem] theorem Zng : YE Tryz.prog 366=some 3:=kf
@[go_sem] theorem ZkC : XG Tryz.prog 366=some true:=kf
@[go_sem] theorem iL : Tryz.prog.stoodInHeld 366=false:=kf
@[go_sem] theorem ZmX : DF Tryz.prog 366=some (DB [(0,1),(1,1),(2,1)]):=kf
@[go_sem] theorem Zlk (d:Nat) (a b:List PV):G0 Tryz.prog d 366 (Tryz.prog.underlying 366) (.agg a) (.agg b)=FC (jL (Vl Tryz.prog d 3) (apart Tryz.prog 3 a 0) (apart Tryz.prog 3 b 0)) (FC (jL (Vl Tryz.prog d 3) (apart Tryz.prog 3 a 1) (apart Tryz.prog 3 b 1)) (FC (jL (Vl Tryz.prog d 3) (apart Tryz.prog 3 a 2) (apart Tryz.prog 3 b 2)) (some true))):=by rw [Tryz.underlying366,JO iL];simp [B9,DM]
@[go_sem] theorem Zlu : Tryz.prog.eqGuardType Tryz.prog.depth 366=false:=kf
@[go_sem] theorem ZeJ : Xj Tryz.prog 366=some [.int .i64 0,.int .i64 0,.int .i64 0]:=kf
theorem ZlO : Zi Tryz.prog 5:=fun args w=>Tryz.call5 args w
theorem ZlP : Zi Tryz.prog 9:=fun args w=>Tryz.call9 args w
theorem ZgG : Zi Tryz.prog 11:=fun args w=>Tryz.call11 args w
theorem ZgH : Zi Tryz.prog 16:=fun args w=>Tryz.call16 args w
theorem ZgI : Zi Tryz.prog 17:=fun args w=>Tryz.call17 args w
theorem ZgJ : Zi Tryz.prog 19:=fun args w=>Tryz.call19 args w
theorem ZgK : Zi Tryz.prog 34:=fun args w=>Tryz.call34 args w
theorem ZgL : Zi Tryz.prog 35:=fun args w=>Tryz.call35 args w
theorem ZgM : Zi Tryz.prog 36:=fun args w=>Tryz.call36 args w
theorem ZgN : Zi Tryz.prog 37:=fun args w=>Tryz.call37 args w
theorem ZgO : Zi Tryz.prog 46:=fun args w=>Tryz.call46 args w
theorem ZgP : Zi Tryz.prog 47:=fun args w=>Tryz.call47 args w
theorem ZgQ : Zi Tryz.prog 48:=fun args w=>Tryz.call48 args w
theorem ZgR : Zi Tryz.prog 49:=fun args w=>Tryz.call49 args w
theorem ZgS : Zi Tryz.prog 50:=fun args w=>Tryz.call50 args w
theorem ZgT : Zi Tryz.prog 52:=fun args w=>Tryz.call52 args w
theorem ZgU : Zi Tryz.prog 53:=fun args w=>Tryz.call53 args w
theorem ZgV : Zi Tryz.prog 54:=fun args w=>Tryz.call54 args w
theorem ZgW : Zi Tryz.prog 55:=fun args w=>Tryz.call55 args w
theorem ZgX : Zi Tryz.prog 59:=fun args w=>Tryz.call59 args w
theorem ZgY : Zi Tryz.prog 60:=fun args w=>Tryz.call60 args w
theorem ZgZ : Zi Tryz.prog 64:=fun args w=>Tryz.call64 args w
theorem Zg0 : Zi Tryz.prog 78:=fun args w=>Tryz.call78 args w
theorem Zg1 : Zi Tryz.prog 79:=fun args w=>Tryz.call79 args w
theorem Zg2 : Zi Tryz.prog 80:=fun args w=>Tryz.call80 args w
theorem Zg3 : Zi Tryz.prog 86:=fun args w=>Tryz.call86 args w
theorem Zg4 : Zi Tryz.prog 87:=fun args w=>Tryz.call87 args w
theorem Zg5 : Zi Tryz.prog 88:=fun args w=>Tryz.call88 args w
theorem rW : Zi Tryz.prog 89:=fun args w=>Tryz.call89 args w
theorem Zg6 : Zi Tryz.prog 90:=fun args w=>Tryz.call90 args w
theorem Zg7 : Zi Tryz.prog 92:=fun args w=>Tryz.call92 args w
theorem Zg8 : Zi Tryz.prog 95:=fun args w=>Tryz.call95 args w
theorem Zg9 : Zi Tryz.prog 99:=fun args w=>Tryz.call99 args w
theorem wD : Zi Tryz.prog 100:=fun args w=>Tryz.call100 args w
theorem wE : Zi Tryz.prog 101:=fun args w=>Tryz.call101 args w
theorem wF : Zi Tryz.prog 102:=fun args w=>Tryz.call102 args w
theorem dG : Zi Tryz.prog 103:=fun args w=>Tryz.call103 args w
theorem wG : Zi Tryz.prog 104:=fun args w=>Tryz.call104 args w
theorem wH : Zi Tryz.prog 105:=fun args w=>Tryz.call105 args w
theorem wI : Zi Tryz.prog 106:=fun args w=>Tryz.call106 args w
theorem wJ : Zi Tryz.prog 107:=fun args w=>Tryz.call107 args w
theorem wK : Zi Tryz.prog 125:=fun args w=>Tryz.call125 args w
theorem wL : Zi Tryz.prog 126:=fun args w=>Tryz.call126 args w
theorem wM : Zi Tryz.prog 127:=fun args w=>Tryz.call127 args w
theorem wN : Zi Tryz.prog 128:=fun args w=>Tryz.call128 args w
theorem wO : Zi Tryz.prog 129:=fun args w=>Tryz.call129 args w
theorem wP : Zi Tryz.prog 130:=fun args w=>Tryz.call130 args w
theorem wQ : Zi Tryz.prog 131:=fun args w=>Tryz.call131 args w
theorem wR : Zi Tryz.prog 133:=fun args w=>Tryz.call133 args w
theorem wS : Zi Tryz.prog 135:=fun args w=>Tryz.call135 args w
theorem wT : Zi Tryz.prog 136:=fun args w=>Tryz.call136 args w
theorem wU : Zi Tryz.prog 137:=fun args w=>Tryz.call137 args w
theorem wV : Zi Tryz.prog 138:=fun args w=>Tryz.call138 args w
theorem wW : Zi Tryz.prog 139:=fun args w=>Tryz.call139 args w
theorem wX : Zi Tryz.prog 140:=fun args w=>Tryz.call140 args w
theorem wY : Zi Tryz.prog 141:=fun args w=>Tryz.call141 args w
theorem wZ : Zi Tryz.prog 142:=fun args w=>Tryz.call142 args w
theorem xA : Zi Tryz.prog 143:=fun args w=>Tryz.call143 args w
theorem xB : Zi Tryz.prog 144:=fun args w=>Tryz.call144 args w
theorem xC : Zi Tryz.prog 148:=fun args w=>Tryz.call148 args w
theorem xD : Zi Tryz.prog 149:=fun args w=>Tryz.call149 args w
theorem xE : Zi Tryz.prog 150:=fun args w=>Tryz.call150 args w
theorem xF : Zi Tryz.prog 151:=fun args w=>Tryz.call151 args w
theorem xG : Zi Tryz.prog 152:=fun args w=>Tryz.call152 args w
theorem xH : Zi Tryz.prog 153:=fun args w=>Tryz.call153 args w
theorem xI : Zi Tryz.prog 154:=fun args w=>Tryz.call154 args w
theorem xJ : Zi Tryz.prog 155:=fun args w=>Tryz.call155 args w
theorem xK : Zi Tryz.prog 158:=fun args w=>Tryz.call158 args w
theorem xL : Zi Tryz.prog 159:=fun args w=>Tryz.call159 args w
theorem xM : Zi Tryz.prog 164:=fun args w=>Tryz.call164 args w
theorem xN : Zi Tryz.prog 167:=fun args w=>Tryz.call167 args w
theorem xO : Zi Tryz.prog 170:=fun args w=>Tryz.call170 args w
theorem xP : Zi Tryz.prog 171:=fun args w=>Tryz.call171 args w
theorem xQ : Zi Tryz.prog 172:=fun args w=>Tryz.call172 args w
theorem xR : Zi Tryz.prog 173:=fun args w=>Tryz.call173 args w
theorem xS : Zi Tryz.prog 174:=fun args w=>Tryz.call174 args w
theorem xT : Zi Tryz.prog 175:=fun args w=>Tryz.call175 args w
theorem xU : Zi Tryz.prog 176:=fun args w=>Tryz.call176 args w
theorem xV : Zi Tryz.prog 177:=fun args w=>Tryz.call177 args w
theorem xW : Zi Tryz.prog 178:=fun args w=>Tryz.call178 args w
theorem dH : Zi Tryz.prog 179:=fun args w=>Tryz.call179 args w
theorem dI : Zi Tryz.prog 180:=fun args w=>Tryz.call180 args w
theorem xX : Zi Tryz.prog 183:=fun args w=>Tryz.call183 args w
theorem xY : Zi Tryz.prog 184:=fun args w=>Tryz.call184 args w
theorem xZ : Zi Tryz.prog 185:=fun args w=>Tryz.call185 args w
theorem yA : Zi Tryz.prog 186:=fun args w=>Tryz.call186 args w
theorem yB : Zi Tryz.prog 187:=fun args w=>Tryz.call187 args w
theorem yC : Zi Tryz.prog 194:=fun args w=>Tryz.call194 args w
theorem yD : Zi Tryz.prog 195:=fun args w=>Tryz.call195 args w
theorem yE : Zi Tryz.prog 196:=fun args w=>Tryz.call196 args w
theorem yF : Zi Tryz.prog 197:=fun args w=>Tryz.call197 args w
theorem yG : Zi Tryz.prog 198:=fun args w=>Tryz.call198 args w
theorem WM : Zi Tryz.prog 210:=fun args w=>Tryz.call210 args w
theorem yH : Zi Tryz.prog 218:=fun args w=>Tryz.call218 args w
theorem yI : Zi Tryz.prog 219:=fun args w=>Tryz.call219 args w
theorem yJ : Zi Tryz.prog 220:=fun args w=>Tryz.call220 args w
theorem yK : Zi Tryz.prog 221:=fun args w=>Tryz.call221 args w
theorem yL : Zi Tryz.prog 222:=fun args w=>Tryz.call222 args w
theorem yM : Zi Tryz.prog 225:=fun args w=>Tryz.call225 args w
theorem yN : Zi Tryz.prog 226:=fun args w=>Tryz.call226 args w
theorem yO : Zi Tryz.prog 227:=fun args w=>Tryz.call227 args w
theorem yP : Zi Tryz.prog 228:=fun args w=>Tryz.call228 args w
theorem yQ : Zi Tryz.prog 229:=fun args w=>Tryz.call229 args w
theorem yR : Zi Tryz.prog 230:=fun args w=>Tryz.call230 args w
theorem yS : Zi Tryz.prog 231:=fun args w=>Tryz.call231 args w
theorem yT : Zi Tryz.prog 232:=fun args w=>Tryz.call232 args w
theorem yU : Zi Tryz.prog 233:=fun args w=>Tryz.call233 args w
theorem yV : Zi Tryz.prog 234:=fun args w=>Tryz.call234 args w
theorem yW : Zi Tryz.prog 235:=fun args w=>Tryz.call235 args w
theorem dJ : Zi Tryz.prog 236:=fun args w=>Tryz.call236 args w
theorem yX : Zi Tryz.prog 237:=fun args w=>Tryz.call237 args w
theorem yY : Zi Tryz.prog 238:=fun args w=>Tryz.call238 args w
theorem yZ : Zi Tryz.prog 239:=fun args w=>Tryz.call239 args w
theorem zA : Zi Tryz.prog 240:=fun args w=>Tryz.call240 args w
theorem zB : Zi Tryz.prog 241:=fun args w=>Tryz.call241 args w
theorem zC : Zi Tryz.prog 242:=fun args w=>Tryz.call242 args w
theorem zD : Zi Tryz.prog 243:=fun args w=>Tryz.call243 args w
theorem dK : Zi Tryz.prog 244:=fun args w=>Tryz.call244 args w
theorem zF : Zi Tryz.prog 247:=fun args w=>Tryz.call247 args w
theorem zG : Zi Tryz.prog 248:=fun args w=>Tryz.call248 args w
theorem zH : Zi Tryz.prog 249:=fun args w=>Tryz.call249 args w
theorem zJ : Zi Tryz.prog 250:=fun args w=>Tryz.call250 args w
theorem zK : Zi Tryz.prog 258:=fun args w=>Tryz.call258 args w
theorem zL : Zi Tryz.prog 259:=fun args w=>Tryz.call259 args w
theorem zM : Zi Tryz.prog 260:=fun args w=>Tryz.call260 args w
theorem zN : Zi Tryz.prog 261:=fun args w=>Tryz.call261 args w
theorem zO : Zi Tryz.prog 262:=fun args w=>Tryz.call262 args w
theorem zP : Zi Tryz.prog 263:=fun args w=>Tryz.call263 args w
theorem zQ : Zi Tryz.prog 264:=fun args w=>Tryz.call264 args w
theorem zR : Zi Tryz.prog 265:=fun args w=>Tryz.call265 args w
theorem zS : Zi Tryz.prog 266:=fun args w=>Tryz.call266 args w
theorem zT : Zi Tryz.prog 267:=fun args w=>Tryz.call267 args w
theorem zU : Zi Tryz.prog 268:=fun args w=>Tryz.call268 args w
theorem dL : Zi Tryz.prog 269:=fun args w=>Tryz.call269 args w
theorem zV : Zi Tryz.prog 270:=fun args w=>Tryz.call270 args w
theorem zW : Zi Tryz.prog 271:=fun args w=>Tryz.call271 args w
theorem zX : Zi Tryz.prog 272:=fun args w=>Tryz.call272 args w
theorem zY : Zi Tryz.prog 273:=fun args w=>Tryz.call273 args w
theorem zZ : Zi Tryz.prog 274:=fun args w=>Tryz.call274 args w
theorem Zaa : Zi Tryz.prog 275:=fun args w=>Tryz.call275 args w
theorem Zab : Zi Tryz.prog 276:=fun args w=>Tryz.call276 args w
theorem Zac : Zi Tryz.prog 277:=fun args w=>Tryz.call277 args w
theorem Zad : Zi Tryz.prog 278:=fun args w=>Tryz.call278 args w
theorem Zae : Zi Tryz.prog 279:=fun args w=>Tryz.call279 args w
theorem Zaf : Zi Tryz.prog 280:=fun args w=>Tryz.call280 args w
theorem Zag : Zi Tryz.prog 283:=fun args w=>Tryz.call283 args w
theorem Zah : Zi Tryz.prog 284:=fun args w=>Tryz.call284 args w
theorem Zai : Zi Tryz.prog 286:=fun args w=>Tryz.call286 args w
theorem Zaj : Zi Tryz.prog 287:=fun args w=>Tryz.call287 args w
theorem Zak : Zi Tryz.prog 288:=fun args w=>Tryz.call288 args w
theorem Zal : Zi Tryz.prog 289:=fun args w=>Tryz.call289 args w
theorem Zam : Zi Tryz.prog 290:=fun args w=>Tryz.call290 args w
theorem Zan : Zi Tryz.prog 291:=fun args w=>Tryz.call291 args w
theorem Zao : Zi Tryz.prog 292:=fun args w=>Tryz.call292 args w
theorem Zap : Zi Tryz.prog 293:=fun args w=>Tryz.call293 args w
theorem Zaq : Zi Tryz.prog 294:=fun args w=>Tryz.call294 args w
theorem Zar : Zi Tryz.prog 295:=fun args w=>Tryz.call295 args w
theorem Zas : Zi Tryz.prog 296:=fun args w=>Tryz.call296 args w
theorem Zat : Zi Tryz.prog 297:=fun args w=>Tryz.call297 args w
theorem Zau : Zi Tryz.prog 298:=fun args w=>Tryz.call298 args w
theorem Zav : Zi Tryz.prog 299:=fun args w=>Tryz.call299 args w
theorem Zaw : Zi Tryz.prog 300:=fun args w=>Tryz.call300 args w
theorem Zax : Zi Tryz.prog 301:=fun args w=>Tryz.call301 args w
theorem Zay : Zi Tryz.prog 302:=fun args w=>Tryz.call302 args w
theorem Zaz : Zi Tryz.prog 303:=fun args w=>Tryz.call303 args w
theorem ZaA : Zi Tryz.prog 304:=fun args w=>Tryz.call304 args w
theorem ZaB : Zi Tryz.prog 305:=fun args w=>Tryz.call305 args w
theorem ZaC : Zi Tryz.prog 307:=fun args w=>Tryz.call307 args w
theorem ZaD : Zi Tryz.prog 308:=fun args w=>Tryz.call308 args w
theorem ZaE : Zi Tryz.prog 309:=fun args w=>Tryz.call309 args w
theorem ZaF : Zi Tryz.prog 310:=fun args w=>Tryz.call310 args w
theorem ZaG : Zi Tryz.prog 311:=fun args w=>Tryz.call311 args w
theorem ZaH : Zi Tryz.prog 312:=fun args w=>Tryz.call312 args w
theorem ZaI : Zi Tryz.prog 313:=fun args w=>Tryz.call313 args w
theorem ZaJ : Zi Tryz.prog 314:=fun args w=>Tryz.call314 args w
theorem ZaK : Zi Tryz.prog 315:=fun args w=>Tryz.call315 args w
theorem ZaL : Zi Tryz.prog 316:=fun args w=>Tryz.call316 args w
theorem ZaM : Zi Tryz.prog 317:=fun args w=>Tryz.call317 args w
theorem ZaN : Zi Tryz.prog 318:=fun args w=>Tryz.call318 args w
theorem ZaO : Zi Tryz.prog 319:=fun args w=>Tryz.call319 args w
theorem ZaP : Zi Tryz.prog 320:=fun args w=>Tryz.call320 args w
theorem ZaQ : Zi Tryz.prog 321:=fun args w=>Tryz.call321 args w
theorem ZaR : Zi Tryz.prog 322:=fun args w=>Tryz.call322 args w
theorem ZaS : Zi Tryz.prog 323:=fun args w=>Tryz.call323 args w
theorem ZaT : Zi Tryz.prog 324:=fun args w=>Tryz.call324 args w
theorem ZaU : Zi Tryz.prog 325:=fun args w=>Tryz.call325 args w
theorem ZaV : Zi Tryz.prog 326:=fun args w=>Tryz.call326 args w
theorem ZaW : Zi Tryz.prog 327:=fun args w=>Tryz.call327 args w
theorem ZaX : Zi Tryz.prog 328:=fun args w=>Tryz.call328 args w
theorem ZaY : Zi Tryz.prog 329:=fun args w=>Tryz.call329 args w
theorem ZaZ : Zi Tryz.prog 330:=fun args w=>Tryz.call330 args w
theorem Za0 : Zi Tryz.prog 331:=fun args w=>Tryz.call331 args w
theorem mixed : Tryz.prog.follows .mixedOrders=true:=Zd
end Go.Proofs.YtiigdaohjanidaaGreatDoor.K
