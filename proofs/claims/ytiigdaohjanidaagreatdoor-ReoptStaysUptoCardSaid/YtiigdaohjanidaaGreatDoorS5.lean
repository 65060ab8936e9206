/- Declarations that the closing texts need, part 5: joined by tools/slim.py. -/
import Derived.Test.YtiigdaohjanidaaGreatDoorS4
import Derived.KernelRfl
namespace Go.Proofs.YtiigdaohjanidaaGreatDoor.K
open Go Go.AM Go.Proofs
abbrev PC (f:FuncId) (a:List V) (y:PV):=ACalls Tryz.prog f a [] fun x H'=>x= .p y/\H'= []
abbrev PT (f:FuncId) (a:List V) (b:List V):=ACalls Tryz.prog f a [] fun x H'=>x= .tup b/\H'= []
theorem kf {α:Type} {a b:α} (h:a=b:=by kernel_rfl):a=b:=Zk h rfl
theorem Ze {p:Prop} (h:p:=by kernel_rfl):p:=h
@[go_sem] theorem ZnR : Tryz.prog.underlying 3=some (.int .i64):=kf
@[go_sem] theorem ZnN : Yx Tryz.prog 3=some 1:=kf
@[go_sem] theorem Zm0 : XH Tryz.prog 3=some false:=kf
@[go_sem] theorem Zki : Xt Tryz.prog 3=some [.int .i64 0]:=kf
@[go_sem] theorem ZnS : Tryz.prog.underlying 4=some .bool:=kf
@[go_sem] theorem ZnO : Yx Tryz.prog 4=some 1:=kf
@[go_sem] theorem Zm1 : XH Tryz.prog 4=some false:=kf
@[go_sem] theorem ZnT : Tryz.prog.underlying 5=some (.int .u8):=kf
@[go_sem] theorem ZnP : Yx Tryz.prog 5=some 1:=kf
@[go_sem] theorem Zm2 : XH Tryz.prog 5=some false:=kf
@[go_sem] theorem ZnU : Tryz.prog.underlying 9=some .string:=kf
@[go_sem] theorem ZnQ : Yx Tryz.prog 9=some 1:=kf
@[go_sem] theorem Zm3 : XH Tryz.prog 9=some false:=kf
@[go_sem] theorem Zna : Yx Tryz.prog 26=some 1:=kf
@[go_sem] theorem Zlg : XH Tryz.prog 26=some false:=kf
@[go_sem] theorem Znx : Tryz.prog.underlying 30=some (.slice 49):=kf
@[go_sem] theorem Znb : Yx Tryz.prog 30=some 1:=kf
@[go_sem] theorem Zlh : XH Tryz.prog 30=some false:=kf
@[go_sem] theorem ZlC : YR Tryz.prog 30=some (none,4):=kf
@[go_sem] theorem Zk1 : U3 Tryz.prog 30=some 4:=kf
@[go_sem] theorem rY : KK Tryz.prog 30=some (4,64):=kf
@[go_sem] theorem Zeo (H:List AM.Obj) (u:TypeId) (o n:Nat) (y:V):Vf Tryz.prog H 30 u (.sl o 0 n n) y=Uu H (some (4,64)) (oat H o) o n (Wo (Tryz.prog.underlying u) H y):=YF rY
@[go_sem] theorem Zny : Tryz.prog.underlying 31=some (.slice 3):=kf
@[go_sem] theorem Znc : Yx Tryz.prog 31=some 1:=kf
@[go_sem] theorem Zli : XH Tryz.prog 31=some false:=kf
@[go_sem] theorem ZlD : YR Tryz.prog 31=some (none,1):=kf
@[go_sem] theorem Zk2 : U3 Tryz.prog 31=some 1:=kf
@[go_sem] theorem rZ : KK Tryz.prog 31=some (1,8):=kf
@[go_sem] theorem Zep (H:List AM.Obj) (u:TypeId) (o n:Nat) (y:V):Vf Tryz.prog H 31 u (.sl o 0 n n) y=Uu H (some (1,8)) (oat H o) o n (Wo (Tryz.prog.underlying u) H y):=YF rZ
@[go_sem] theorem lC : OP Tryz.prog 31=some (1,8,.int .i64 0):=kf
@[go_sem] theorem ZmG (H:List AM.Obj) (fr:List V) (x y:Operand):Wg Tryz.prog (.makeSlice 31 x y) fr H=UP (some (1,8,.int .i64 0)) H (ev fr x) (ev fr y):=Dv lC
@[go_sem] theorem Znd : Yx Tryz.prog 33=some 2:=kf
@[go_sem] theorem Zlj : XH Tryz.prog 33=some true:=kf
@[go_sem] theorem Zhi : ZN Tryz.prog 33 0=some 0:=kf
@[go_sem] theorem Zhj : ZN Tryz.prog 33 1=some 1:=kf
@[go_sem] theorem Zm4 : ER Tryz.prog 33=some (Em [(0,1),(1,1)]):=kf
@[go_sem] theorem Zik : Xt Tryz.prog 33=some [.list true [],.list true []]:=kf
@[go_sem] theorem Znz : Tryz.prog.underlying 35=some (.slice 9):=kf
@[go_sem] theorem Zne : Yx Tryz.prog 35=some 1:=kf
@[go_sem] theorem Zlk : XH Tryz.prog 35=some false:=kf
@[go_sem] theorem ZlE : YR Tryz.prog 35=some (none,1):=kf
@[go_sem] theorem ZnA : Tryz.prog.underlying 36=some (.slice 129):=kf
@[go_sem] theorem Znf : Yx Tryz.prog 36=some 1:=kf
@[go_sem] theorem Zll : XH Tryz.prog 36=some false:=kf
@[go_sem] theorem ZlF : YR Tryz.prog 36=some (none,6):=kf
@[go_sem] theorem Zng : Yx Tryz.prog 38=some 2:=kf
@[go_sem] theorem Zlm : XH Tryz.prog 38=some true:=kf
@[go_sem] theorem Zhk : ZN Tryz.prog 38 0=some 0:=kf
@[go_sem] theorem Zhl : ZN Tryz.prog 38 1=some 1:=kf
@[go_sem] theorem ZnB : Tryz.prog.underlying 39=some (.slice 82):=kf
@[go_sem] theorem Znh : Yx Tryz.prog 39=some 1:=kf
@[go_sem] theorem Zln : XH Tryz.prog 39=some false:=kf
@[go_sem] theorem ZlG : YR Tryz.prog 39=some (none,14):=kf
@[go_sem] theorem ZnC : Tryz.prog.underlying 40=some (.slice 59):=kf
@[go_sem] theorem Zni : Yx Tryz.prog 40=some 1:=kf
@[go_sem] theorem Zlo : XH Tryz.prog 40=some false:=kf
@[go_sem] theorem ZlH : YR Tryz.prog 40=some (none,16):=kf
@[go_sem] theorem Zk3 : U3 Tryz.prog 40=some 16:=kf
@[go_sem] theorem sA : KK Tryz.prog 40=some (16,152):=kf
@[go_sem] theorem Zeq (H:List AM.Obj) (u:TypeId) (o n:Nat) (y:V):Vf Tryz.prog H 40 u (.sl o 0 n n) y=Uu H (some (16,152)) (oat H o) o n (Wo (Tryz.prog.underlying u) H y):=YF sA
@[go_sem] theorem ZnD : Tryz.prog.underlying 41=some (.slice 132):=kf
@[go_sem] theorem Znj : Yx Tryz.prog 41=some 1:=kf
@[go_sem] theorem Zlp : XH Tryz.prog 41=some false:=kf
@[go_sem] theorem ZlI : YR Tryz.prog 41=some (none,2):=kf
@[go_sem] theorem Znk : Yx Tryz.prog 43=some 6:=kf
@[go_sem] theorem Zlq : XH Tryz.prog 43=some true:=kf
@[go_sem] theorem Zhm : ZN Tryz.prog 43 0=some 0:=kf
@[go_sem] theorem Zhn : ZN Tryz.prog 43 1=some 2:=kf
@[go_sem] theorem Zho : ZN Tryz.prog 43 2=some 3:=kf
@[go_sem] theorem Zhp : ZN Tryz.prog 43 3=some 4:=kf
@[go_sem] theorem Zhq : ZN Tryz.prog 43 4=some 5:=kf
@[go_sem] theorem Zm5 : ER Tryz.prog 43=some (Em [(0,2),(2,1),(3,1),(4,1),(5,1)]):=kf
@[go_sem] theorem Zil : Xt Tryz.prog 43=some [.list true [],.list true [],.list true [],.list true [],.list true [],.list true []]:=kf
@[go_sem] theorem ZnE : Tryz.prog.underlying 46=some (.slice 4):=kf
@[go_sem] theorem Znl : Yx Tryz.prog 46=some 1:=kf
@[go_sem] theorem Zlr : XH Tryz.prog 46=some false:=kf
@[go_sem] theorem ZlJ : YR Tryz.prog 46=some (none,1):=kf
@[go_sem] theorem Zk4 : U3 Tryz.prog 46=some 1:=kf
@[go_sem] theorem Tg : KK Tryz.prog 46=some (1,1):=kf
@[go_sem] theorem Zem (H:List AM.Obj) (u:TypeId) (y:V):Vf Tryz.prog H 46 u (.p (.list true [])) y=MA H (some (1,1)) (Wo (Tryz.prog.underlying u) H y):=Dn Tg
@[go_sem] theorem Zer (H:List AM.Obj) (u:TypeId) (o n:Nat) (y:V):Vf Tryz.prog H 46 u (.sl o 0 n n) y=Uu H (some (1,1)) (oat H o) o n (Wo (Tryz.prog.underlying u) H y):=YF Tg
@[go_sem] theorem lD : OP Tryz.prog 46=some (1,1,.bool false):=kf
@[go_sem] theorem ZmH (H:List AM.Obj) (fr:List V) (x y:Operand):Wg Tryz.prog (.makeSlice 46 x y) fr H=UP (some (1,1,.bool false)) H (ev fr x) (ev fr y):=Dv lD
@[go_sem] theorem ZnF : Tryz.prog.underlying 47=some (.slice 126):=kf
@[go_sem] theorem Znm : Yx Tryz.prog 47=some 1:=kf
@[go_sem] theorem Zls : XH Tryz.prog 47=some false:=kf
@[go_sem] theorem ZlK : YR Tryz.prog 47=some (none,2):=kf
@[go_sem] theorem Zk5 : U3 Tryz.prog 47=some 2:=kf
@[go_sem] theorem Th : KK Tryz.prog 47=some (2,16):=kf
@[go_sem] theorem Zen (H:List AM.Obj) (u:TypeId) (y:V):Vf Tryz.prog H 47 u (.p (.list true [])) y=MA H (some (2,16)) (Wo (Tryz.prog.underlying u) H y):=Dn Th
@[go_sem] theorem Zes (H:List AM.Obj) (u:TypeId) (o n:Nat) (y:V):Vf Tryz.prog H 47 u (.sl o 0 n n) y=Uu H (some (2,16)) (oat H o) o n (Wo (Tryz.prog.underlying u) H y):=YF Th
@[go_sem] theorem Znn : Yx Tryz.prog 49=some 4:=kf
@[go_sem] theorem Zlt : XH Tryz.prog 49=some true:=kf
@[go_sem] theorem Zhr : ZN Tryz.prog 49 0=some 0:=kf
@[go_sem] theorem Zhs : ZN Tryz.prog 49 1=some 1:=kf
@[go_sem] theorem Zht : ZN Tryz.prog 49 2=some 2:=kf
@[go_sem] theorem Zhu : ZN Tryz.prog 49 3=some 3:=kf
@[go_sem] theorem Zm6 : ER Tryz.prog 49=some (Em [(0,1),(1,1),(2,1),(3,1)]):=kf
@[go_sem] theorem Zim : Xt Tryz.prog 49=some [.int .i64 0,.int .i64 0,.list true [],.list true []]:=kf
@[go_sem] theorem Zno : Yx Tryz.prog 51=some 4:=kf
@[go_sem] theorem Zlu : XH Tryz.prog 51=some true:=kf
@[go_sem] theorem Zhv : ZN Tryz.prog 51 0=some 0:=kf
@[go_sem] theorem Zhw : ZN Tryz.prog 51 1=some 1:=kf
@[go_sem] theorem Zhx : ZN Tryz.prog 51 2=some 2:=kf
@[go_sem] theorem Zhy : ZN Tryz.prog 51 3=some 3:=kf
@[go_sem] theorem Zm7 : ER Tryz.prog 51=some (Em [(0,1),(1,1),(2,1),(3,1)]):=kf
@[go_sem] theorem Zin : Xt Tryz.prog 51=some [.int .i64 0,.int .i64 0,.int .i64 0,.int .i64 0]:=kf
@[go_sem] theorem Znp : Yx Tryz.prog 57=some 4:=kf
@[go_sem] theorem Zlv : XH Tryz.prog 57=some true:=kf
@[go_sem] theorem Zhz : ZN Tryz.prog 57 0=some 0:=kf
@[go_sem] theorem ZhA : ZN Tryz.prog 57 1=some 1:=kf
@[go_sem] theorem ZhB : ZN Tryz.prog 57 2=some 2:=kf
@[go_sem] theorem ZhC : ZN Tryz.prog 57 3=some 3:=kf
@[go_sem] theorem Zm8 : ER Tryz.prog 57=some (Em [(0,1),(1,1),(2,1),(3,1)]):=kf
@[go_sem] theorem Zio : Xt Tryz.prog 57=some [.int .i64 0,.int .i64 0,.int .i64 0,.int .i64 0]:=kf
@[go_sem] theorem Znq : Yx Tryz.prog 59=some 16:=kf
@[go_sem] theorem Zlw : XH Tryz.prog 59=some true:=kf
@[go_sem] theorem ZhD : ZN Tryz.prog 59 0=some 0:=kf
@[go_sem] theorem ZhE : ZN Tryz.prog 59 1=some 1:=kf
@[go_sem] theorem ZhF : ZN Tryz.prog 59 2=some 2:=kf
@[go_sem] theorem ZhG : ZN Tryz.prog 59 3=some 6:=kf
@[go_sem] theorem ZhH : ZN Tryz.prog 59 4=some 10:=kf
@[go_sem] theorem ZhI : ZN Tryz.prog 59 5=some 11:=kf
@[go_sem] theorem ZhJ : ZN Tryz.prog 59 6=some 12:=kf
@[go_sem] theorem ZhK : ZN Tryz.prog 59 7=some 13:=kf
@[go_sem] theorem ZhL : ZN Tryz.prog 59 8=some 14:=kf
@[go_sem] theorem ZhM : ZN Tryz.prog 59 9=some 15:=kf
@[go_sem] theorem Ziq : Xt Tryz.prog 59=some [.str [],.list true [],.int .i64 0,.int .i64 0,.int .i64 0,.int .i64 0,.int .i64 0,.int .i64 0,.int .i64 0,.int .i64 0,.int .i64 0,.int .i64 0,.int .i64 0,.int .i64 0,.int .i64 0,.bool false]:=kf
@[go_sem] theorem Znr : Yx Tryz.prog 63=some 15:=kf
@[go_sem] theorem Zlx : XH Tryz.prog 63=some true:=kf
@[go_sem] theorem ZhN : ZN Tryz.prog 63 0=some 0:=kf
@[go_sem] theorem ZhO : ZN Tryz.prog 63 1=some 6:=kf
@[go_sem] theorem ZhP : ZN Tryz.prog 63 2=some 8:=kf
@[go_sem] theorem ZhQ : ZN Tryz.prog 63 3=some 9:=kf
@[go_sem] theorem Zns : Yx Tryz.prog 82=some 14:=kf
@[go_sem] theorem Zly : XH Tryz.prog 82=some true:=kf
@[go_sem] theorem ZhR : ZN Tryz.prog 82 0=some 0:=kf
@[go_sem] theorem ZhS : ZN Tryz.prog 82 1=some 1:=kf
@[go_sem] theorem ZhT : ZN Tryz.prog 82 2=some 2:=kf
@[go_sem] theorem ZhU : ZN Tryz.prog 82 3=some 3:=kf
@[go_sem] theorem ZhV : ZN Tryz.prog 82 4=some 4:=kf
@[go_sem] theorem ZhW : ZN Tryz.prog 82 5=some 5:=kf
@[go_sem] theorem ZhX : ZN Tryz.prog 82 6=some 6:=kf
@[go_sem] theorem ZhY : ZN Tryz.prog 82 7=some 7:=kf
@[go_sem] theorem ZhZ : ZN Tryz.prog 82 8=some 8:=kf
@[go_sem] theorem Zh0 : ZN Tryz.prog 82 9=some 9:=kf
@[go_sem] theorem Zdk : ZN Tryz.prog 82 10=some 10:=kf
@[go_sem] theorem Zdl : ZN Tryz.prog 82 11=some 11:=kf
@[go_sem] theorem Zdm : ZN Tryz.prog 82 12=some 12:=kf
@[go_sem] theorem Zdn : ZN Tryz.prog 82 13=some 13:=kf
@[go_sem] theorem Zir : Xt Tryz.prog 82=some [.str [],.int .i64 0,.int .i64 0,.int .i64 0,.list true [],.int .i64 0,.int .i64 0,.int .i64 0,.int .i64 0,.int .i64 0,.int .i64 0,.int .i64 0,.int .i64 0,.int .i64 0]:=kf
@[go_sem] theorem Znt : Yx Tryz.prog 90=some 1:=kf
@[go_sem] theorem Zlz : XH Tryz.prog 90=some false:=kf
@[go_sem] theorem ZnG : Tryz.prog.underlying 93=some (.slice 178):=kf
@[go_sem] theorem Znu : Yx Tryz.prog 93=some 1:=kf
@[go_sem] theorem ZlA : XH Tryz.prog 93=some false:=kf
@[go_sem] theorem ZlL : YR Tryz.prog 93=some (none,4):=kf
@[go_sem] theorem Zk6 : U3 Tryz.prog 93=some 4:=kf
@[go_sem] theorem sB : KK Tryz.prog 93=some (4,32):=kf
@[go_sem] theorem Zet (H:List AM.Obj) (u:TypeId) (o n:Nat) (y:V):Vf Tryz.prog H 93 u (.sl o 0 n n) y=Uu H (some (4,32)) (oat H o) o n (Wo (Tryz.prog.underlying u) H y):=YF sB
@[go_sem] theorem Znv : Yx Tryz.prog 95=some 5:=kf
@[go_sem] theorem ZlB : XH Tryz.prog 95=some true:=kf
@[go_sem] theorem Zh1 : ZN Tryz.prog 95 0=some 0:=kf
@[go_sem] theorem Zh2 : ZN Tryz.prog 95 1=some 1:=kf
@[go_sem] theorem Zh3 : ZN Tryz.prog 95 2=some 2:=kf
@[go_sem] theorem Zh4 : ZN Tryz.prog 95 3=some 3:=kf
@[go_sem] theorem Zh5 : ZN Tryz.prog 95 4=some 4:=kf
@[go_sem] theorem Zm9 : ER Tryz.prog 95=some (Em [(0,1),(1,1),(2,1),(3,1),(4,1)]):=kf
@[go_sem] theorem Zis : Xt Tryz.prog 95=some [.bool false,.int .i64 0,.list true [],.int .i64 0,.int .i64 0]:=kf
@[go_sem] theorem Zml : Tryz.prog.underlying 110=some (.slice 158):=kf
@[go_sem] theorem Zl1 : Yx Tryz.prog 110=some 1:=kf
@[go_sem] theorem ZjB : XH Tryz.prog 110=some false:=kf
@[go_sem] theorem ZjU : YR Tryz.prog 110=some (none,7):=kf
@[go_sem] theorem Zjf : U3 Tryz.prog 110=some 7:=kf
@[go_sem] theorem iF : KK Tryz.prog 110=some (7,88):=kf
@[go_sem] theorem Zbc (H:List AM.Obj) (u:TypeId) (o n:Nat) (y:V):Vf Tryz.prog H 110 u (.sl o 0 n n) y=Uu H (some (7,88)) (oat H o) o n (Wo (Tryz.prog.underlying u) H y):=YF iF
@[go_sem] theorem Zmm : Tryz.prog.underlying 121=some (.slice 229):=kf
@[go_sem] theorem ZjV : YR Tryz.prog 121=some (none,2):=kf
@[go_sem] theorem Zjg : U3 Tryz.prog 121=some 2:=kf
@[go_sem] theorem N7 : KK Tryz.prog 121=some (2,24):=kf
@[go_sem] theorem Zbb (H:List AM.Obj) (u:TypeId) (y:V):Vf Tryz.prog H 121 u (.p (.list true [])) y=MA H (some (2,24)) (Wo (Tryz.prog.underlying u) H y):=Dn N7
@[go_sem] theorem Zbd (H:List AM.Obj) (u:TypeId) (o n:Nat) (y:V):Vf Tryz.prog H 121 u (.sl o 0 n n) y=Uu H (some (2,24)) (oat H o) o n (Wo (Tryz.prog.underlying u) H y):=YF N7
@[go_sem] theorem Zl2 : Yx Tryz.prog 126=some 2:=kf
@[go_sem] theorem ZjC : XH Tryz.prog 126=some true:=kf
@[go_sem] theorem ZcD : ZN Tryz.prog 126 0=some 0:=kf
@[go_sem] theorem ZcE : ZN Tryz.prog 126 1=some 1:=kf
@[go_sem] theorem fS : Tryz.prog.stoodInHeld 126=false:=kf
@[go_sem] theorem ZlN : ER Tryz.prog 126=some (Em [(0,1),(1,1)]):=kf
@[go_sem] theorem Zku (d:Nat) (a b:List PV):Ij Tryz.prog d 126 (Tryz.prog.underlying 126) (.agg a) (.agg b)=Lw (qB (VJ Tryz.prog d 3) (apart Tryz.prog 3 a 0) (apart Tryz.prog 3 b 0)) (Lw (qB (VJ Tryz.prog d 4) (apart Tryz.prog 4 a 1) (apart Tryz.prog 4 b 1)) (some true)):=by rw [Tryz.underlying126,Ct fS];simp [FC,Ik]
@[go_sem] theorem ZkF : Tryz.prog.eqGuardType Tryz.prog.depth 126=false:=kf
@[go_sem] theorem Zds : Xt Tryz.prog 126=some [.int .i64 0,.bool false]:=kf
@[go_sem] theorem Zmn : Tryz.prog.underlying 127=some (.slice 188):=kf
@[go_sem] theorem Zl3 : Yx Tryz.prog 127=some 1:=kf
@[go_sem] theorem ZjD : XH Tryz.prog 127=some false:=kf
@[go_sem] theorem ZjW : YR Tryz.prog 127=some (none,2):=kf
@[go_sem] theorem Zl4 : Yx Tryz.prog 129=some 6:=kf
@[go_sem] theorem ZjE : XH Tryz.prog 129=some true:=kf
@[go_sem] theorem ZcF : ZN Tryz.prog 129 0=some 0:=kf
@[go_sem] theorem ZcG : ZN Tryz.prog 129 1=some 1:=kf
@[go_sem] theorem ZcH : ZN Tryz.prog 129 2=some 2:=kf
@[go_sem] theorem ZcI : ZN Tryz.prog 129 3=some 3:=kf
@[go_sem] theorem ZcJ : ZN Tryz.prog 129 4=some 4:=kf
@[go_sem] theorem ZcK : ZN Tryz.prog 129 5=some 5:=kf
@[go_sem] theorem ZlO : ER Tryz.prog 129=some (Em [(0,1),(1,1),(2,1),(3,1),(4,1),(5,1)]):=kf
@[go_sem] theorem Zdt : Xt Tryz.prog 129=some [.int .i64 0,.int .i64 0,.int .i64 0,.int .i64 0,.list true [],.list true []]:=kf
@[go_sem] theorem Zl5 : Yx Tryz.prog 132=some 2:=kf
@[go_sem] theorem ZjF : XH Tryz.prog 132=some true:=kf
@[go_sem] theorem ZjX : YR Tryz.prog 132=some ((some 2),1):=kf
@[go_sem] theorem Zdu : Xt Tryz.prog 132=some [.int .i64 0,.int .i64 0]:=kf
@[go_sem] theorem Zmo : Tryz.prog.underlying 139=some (.int .u64):=kf
@[go_sem] theorem ZjY : YR Tryz.prog 149=some ((some 6),1):=kf
@[go_sem] theorem Zl6 : Yx Tryz.prog 151=some 8:=kf
@[go_sem] theorem ZjG : XH Tryz.prog 151=some true:=kf
@[go_sem] theorem ZcL : ZN Tryz.prog 151 0=some 0:=kf
@[go_sem] theorem ZcM : ZN Tryz.prog 151 1=some 1:=kf
@[go_sem] theorem ZcN : ZN Tryz.prog 151 2=some 2:=kf
@[go_sem] theorem ZlP : ER Tryz.prog 151=some (Em [(0,1),(1,1),(2,6)]):=kf
@[go_sem] theorem Zdv : Xt Tryz.prog 151=some [.int .i64 0,.int .i64 0,.int .i64 0,.int .i64 0,.int .i64 0,.int .i64 0,.int .i64 0,.int .i64 0]:=kf
@[go_sem] theorem Zl7 : Yx Tryz.prog 158=some 7:=kf
@[go_sem] theorem ZjH : XH Tryz.prog 158=some true:=kf
@[go_sem] theorem ZcO : ZN Tryz.prog 158 0=some 0:=kf
@[go_sem] theorem ZcP : ZN Tryz.prog 158 1=some 1:=kf
@[go_sem] theorem ZcQ : ZN Tryz.prog 158 2=some 2:=kf
@[go_sem] theorem ZcR : ZN Tryz.prog 158 3=some 3:=kf
@[go_sem] theorem ZlQ : ER Tryz.prog 158=some (Em [(0,1),(1,1),(2,1),(3,4)]):=kf
@[go_sem] theorem Zdw : Xt Tryz.prog 158=some [.int .i64 0,.int .i64 0,.int .i64 0,.int .i64 0,.int .i64 0,.list true [],.list true []]:=kf
@[go_sem] theorem Zl8 : Yx Tryz.prog 178=some 4:=kf
@[go_sem] theorem ZjI : XH Tryz.prog 178=some true:=kf
@[go_sem] theorem ZcS : ZN Tryz.prog 178 1=some 1:=kf
@[go_sem] theorem ZcT : ZN Tryz.prog 178 2=some 2:=kf
@[go_sem] theorem ZcU : ZN Tryz.prog 178 3=some 3:=kf
@[go_sem] theorem ZlR : ER Tryz.prog 178=some (Em [(0,1),(1,1),(2,1),(3,1)]):=kf
@[go_sem] theorem Zdx : Xt Tryz.prog 178=some [.int .i64 0,.int .i64 0,.int .i64 0,.bool false]:=kf
@[go_sem] theorem Zl9 : Yx Tryz.prog 188=some 2:=kf
@[go_sem] theorem ZjJ : XH Tryz.prog 188=some true:=kf
@[go_sem] theorem ZcV : ZN Tryz.prog 188 0=some 0:=kf
@[go_sem] theorem ZcW : ZN Tryz.prog 188 1=some 1:=kf
@[go_sem] theorem Zdy : Xt Tryz.prog 188=some [.int .i64 0,.int .i64 0]:=kf
@[go_sem] theorem Zmp : Tryz.prog.underlying 192=some (.slice 31):=kf
@[go_sem] theorem ZjZ : YR Tryz.prog 192=some (none,1):=kf
@[go_sem] theorem Zjh : U3 Tryz.prog 192=some 1:=kf
@[go_sem] theorem iG : KK Tryz.prog 192=some (1,24):=kf
@[go_sem] theorem Zbe (H:List AM.Obj) (u:TypeId) (o n:Nat) (y:V):Vf Tryz.prog H 192 u (.sl o 0 n n) y=Uu H (some (1,24)) (oat H o) o n (Wo (Tryz.prog.underlying u) H y):=YF iG
@[go_sem] theorem Zmq : Tryz.prog.underlying 202=some (.slice 30):=kf
@[go_sem] theorem Zj0 : YR Tryz.prog 202=some (none,1):=kf
@[go_sem] theorem Zji : U3 Tryz.prog 202=some 1:=kf
@[go_sem] theorem Zma : Yx Tryz.prog 204=some 1:=kf
@[go_sem] theorem ZjK : XH Tryz.prog 204=some false:=kf
@[go_sem] theorem Zmb : Yx Tryz.prog 205=some 1:=kf
@[go_sem] theorem ZjL : XH Tryz.prog 205=some false:=kf
@[go_sem] theorem Zj1 : YR Tryz.prog 205=some (none,1):=kf
@[go_sem] theorem ZcX : ZN Tryz.prog 207 0=some 0:=kf
@[go_sem] theorem ZcY : ZN Tryz.prog 207 1=some 6:=kf
@[go_sem] theorem ZcZ : ZN Tryz.prog 207 2=some 7:=kf
@[go_sem] theorem Zc0 : ZN Tryz.prog 207 3=some 8:=kf
@[go_sem] theorem Zc1 : ZN Tryz.prog 207 4=some 9:=kf
@[go_sem] theorem ZlS : ER Tryz.prog 207=some (Em [(0,6),(6,1),(7,1),(8,1),(9,1)]):=kf
@[go_sem] theorem Zdz : Xt Tryz.prog 207=some [.list true [],.list true [],.list true [],.list true [],.list true [],.list true [],.list true [],.list true [],.nilm,.int .i64 0]:=kf
@[go_sem] theorem Zc2 : ZN Tryz.prog 229 0=some 0:=kf
@[go_sem] theorem Zc3 : ZN Tryz.prog 229 1=some 1:=kf
@[go_sem] theorem ZlT : ER Tryz.prog 229=some (Em [(0,1),(1,1)]):=kf
@[go_sem] theorem ZdA : Xt Tryz.prog 229=some [.int .i64 0,.str []]:=kf
@[go_sem] theorem Zmr : Tryz.prog.underlying 232=some (.slice 26):=kf
@[go_sem] theorem Zj2 : YR Tryz.prog 232=some (none,1):=kf
@[go_sem] theorem Zjj : U3 Tryz.prog 232=some 1:=kf
@[go_sem] theorem iH : KK Tryz.prog 232=some (1,8):=kf
@[go_sem] theorem Zbf (H:List AM.Obj) (u:TypeId) (o n:Nat) (y:V):Vf Tryz.prog H 232 u (.sl o 0 n n) y=Uu H (some (1,8)) (oat H o) o n (Wo (Tryz.prog.underlying u) H y):=YF iH
@[go_sem] theorem Zc4 : ZN Tryz.prog 261 0=some 0:=kf
@[go_sem] theorem Zc5 : ZN Tryz.prog 261 1=some 6:=kf
@[go_sem] theorem Zc6 : ZN Tryz.prog 261 2=some 10:=kf
@[go_sem] theorem Zc7 : ZN Tryz.prog 261 3=some 11:=kf
@[go_sem] theorem Zc8 : ZN Tryz.prog 261 4=some 12:=kf
@[go_sem] theorem ZlU : ER Tryz.prog 261=some (Em [(0,6),(6,4),(10,1),(11,1),(12,7)]):=kf
@[go_sem] theorem ZdB : Xt Tryz.prog 261=some [.list true [],.list true [],.list true [],.list true [],.list true [],.list true [],.int .i64 0,.int .i64 0,.list true [],.list true [],.int .i64 0,.bool false,.int .i64 0,.int .i64 0,.int .i64 0,.int .i64 0,.int .i64 0,.list true [],.list true []]:=kf
@[go_sem] theorem Zmc : Yx Tryz.prog 267=some 2:=kf
@[go_sem] theorem ZjM : XH Tryz.prog 267=some true:=kf
@[go_sem] theorem ZlV : ER Tryz.prog 267=some (Em [(0,1),(1,1)]):=kf
@[go_sem] theorem ZdC : Xt Tryz.prog 267=some [.int .i64 0,.int .i64 0]:=kf
@[go_sem] theorem Zms : Tryz.prog.underlying 268=some (.array 4 3):=kf
@[go_sem] theorem Zmd : Yx Tryz.prog 268=some 4:=kf
@[go_sem] theorem ZjN : XH Tryz.prog 268=some true:=kf
@[go_sem] theorem ZlW : ER Tryz.prog 268=some (plA 1):=kf
@[go_sem] theorem ZdD : Xt Tryz.prog 268=some [.int .i64 0,.int .i64 0,.int .i64 0,.int .i64 0]:=kf
@[go_sem] theorem Zmt : Tryz.prog.underlying 286=some (.slice 90):=kf
@[go_sem] theorem Zj3 : YR Tryz.prog 286=some (none,1):=kf
@[go_sem] theorem Zjk : U3 Tryz.prog 286=some 1:=kf
@[go_sem] theorem Zmu : Tryz.prog.underlying 292=some (.slice 5):=kf
@[go_sem] theorem Zjl : U3 Tryz.prog 292=some 1:=kf
@[go_sem] theorem Zme : Yx Tryz.prog 307=some 4:=kf
@[go_sem] theorem ZjO : XH Tryz.prog 307=some true:=kf
@[go_sem] theorem Zc9 : ZN Tryz.prog 307 0=some 0:=kf
@[go_sem] theorem Zda : ZN Tryz.prog 307 1=some 1:=kf
@[go_sem] theorem Zdb : ZN Tryz.prog 307 2=some 2:=kf
@[go_sem] theorem Zdc : ZN Tryz.prog 307 3=some 3:=kf
@[go_sem] theorem ZlX : ER Tryz.prog 307=some (Em [(0,1),(1,1),(2,1),(3,1)]):=kf
@[go_sem] theorem ZdE : Xt Tryz.prog 307=some [.int .i64 0,.int .i64 0,.int .i64 0,.int .i64 0]:=kf
@[go_sem] theorem Zj4 : YR Tryz.prog 318=some ((some 64),1):=kf
@[go_sem] theorem Zmv : Tryz.prog.underlying 323=some (.slice 57):=kf
@[go_sem] theorem Zmf : Yx Tryz.prog 323=some 1:=kf
@[go_sem] theorem ZjP : XH Tryz.prog 323=some false:=kf
@[go_sem] theorem Zj5 : YR Tryz.prog 323=some (none,4):=kf
@[go_sem] theorem Zjm : U3 Tryz.prog 323=some 4:=kf
@[go_sem] theorem iI : KK Tryz.prog 323=some (4,32):=kf
@[go_sem] theorem Zbg (H:List AM.Obj) (u:TypeId) (o n:Nat) (y:V):Vf Tryz.prog H 323 u (.sl o 0 n n) y=Uu H (some (4,32)) (oat H o) o n (Wo (Tryz.prog.underlying u) H y):=YF iI
@[go_sem] theorem Zmg : Yx Tryz.prog 325=some 25:=kf
@[go_sem] theorem ZjQ : XH Tryz.prog 325=some true:=kf
@[go_sem] theorem Zdd : ZN Tryz.prog 325 0=some 0:=kf
@[go_sem] theorem Zde : ZN Tryz.prog 325 1=some 6:=kf
@[go_sem] theorem Zdf : ZN Tryz.prog 325 2=some 20:=kf
@[go_sem] theorem Zdg : ZN Tryz.prog 325 3=some 24:=kf
@[go_sem] theorem ZlY : ER Tryz.prog 325=some (Em [(0,6),(6,14),(20,4),(24,1)]):=kf
@[go_sem] theorem ZdF : Xt Tryz.prog 325=some [.list true [],.list true [],.list true [],.list true [],.list true [],.list true [],.str [],.int .i64 0,.int .i64 0,.int .i64 0,.list true [],.int .i64 0,.int .i64 0,.int .i64 0,.int .i64 0,.int .i64 0,.int .i64 0,.int .i64 0,.int .i64 0,.int .i64 0,.int .i64 0,.int .i64 0,.list true [],.list true [],.list true []]:=kf
@[go_sem] theorem Zmh : Yx Tryz.prog 329=some 7:=kf
@[go_sem] theorem ZjR : XH Tryz.prog 329=some true:=kf
@[go_sem] theorem Zdh : ZN Tryz.prog 329 0=some 0:=kf
@[go_sem] theorem Zdi : ZN Tryz.prog 329 1=some 1:=kf
@[go_sem] theorem Zdj : ZN Tryz.prog 329 2=some 2:=kf
@[go_sem] theorem ZlZ : ER Tryz.prog 329=some (Em [(0,1),(1,1),(2,5)]):=kf
@[go_sem] theorem ZdG : Xt Tryz.prog 329=some [.int .i64 0,.int .i64 0,.bool false,.int .i64 0,.list true [],.int .i64 0,.int .i64 0]:=kf
@[go_sem] theorem Zmw : Tryz.prog.underlying 331=some (.slice 329):=kf
@[go_sem] theorem Zj6 : YR Tryz.prog 331=some (none,7):=kf
@[go_sem] theorem Zjn : U3 Tryz.prog 331=some 7:=kf
@[go_sem] theorem iJ : KK Tryz.prog 331=some (7,72):=kf
@[go_sem] theorem Zbh (H:List AM.Obj) (u:TypeId) (o n:Nat) (y:V):Vf Tryz.prog H 331 u (.sl o 0 n n) y=Uu H (some (7,72)) (oat H o) o n (Wo (Tryz.prog.underlying u) H y):=YF iJ
@[go_sem] theorem Zmi : Yx Tryz.prog 366=some 3:=kf
@[go_sem] theorem ZjS : XH Tryz.prog 366=some true:=kf
@[go_sem] theorem fT : Tryz.prog.stoodInHeld 366=false:=kf
@[go_sem] theorem Zl0 : ER Tryz.prog 366=some (Em [(0,1),(1,1),(2,1)]):=kf
@[go_sem] theorem Zkv (d:Nat) (a b:List PV):Ij Tryz.prog d 366 (Tryz.prog.underlying 366) (.agg a) (.agg b)=Lw (qB (VJ Tryz.prog d 3) (apart Tryz.prog 3 a 0) (apart Tryz.prog 3 b 0)) (Lw (qB (VJ Tryz.prog d 3) (apart Tryz.prog 3 a 1) (apart Tryz.prog 3 b 1)) (Lw (qB (VJ Tryz.prog d 3) (apart Tryz.prog 3 a 2) (apart Tryz.prog 3 b 2)) (some true))):=by rw [Tryz.underlying366,Ct fT];simp [FC,Ik]
@[go_sem] theorem ZkG : Tryz.prog.eqGuardType Tryz.prog.depth 366=false:=kf
@[go_sem] theorem ZdH : Xt Tryz.prog 366=some [.int .i64 0,.int .i64 0,.int .i64 0]:=kf
theorem ZkY : Zi Tryz.prog 8:=fun args w=>Tryz.call8 args w
theorem ZfG : Zi Tryz.prog 13:=fun args w=>Tryz.call13 args w
theorem ZfH : Zi Tryz.prog 16:=fun args w=>Tryz.call16 args w
theorem ZfI : Zi Tryz.prog 20:=fun args w=>Tryz.call20 args w
theorem ZfJ : Zi Tryz.prog 22:=fun args w=>Tryz.call22 args w
theorem ZfK : Zi Tryz.prog 23:=fun args w=>Tryz.call23 args w
theorem ZfL : Zi Tryz.prog 25:=fun args w=>Tryz.call25 args w
theorem ZfM : Zi Tryz.prog 27:=fun args w=>Tryz.call27 args w
theorem ZfN : Zi Tryz.prog 32:=fun args w=>Tryz.call32 args w
theorem ZfO : Zi Tryz.prog 33:=fun args w=>Tryz.call33 args w
theorem ZfP : Zi Tryz.prog 34:=fun args w=>Tryz.call34 args w
theorem ZfQ : Zi Tryz.prog 41:=fun args w=>Tryz.call41 args w
theorem ZfR : Zi Tryz.prog 46:=fun args w=>Tryz.call46 args w
theorem ZfS : Zi Tryz.prog 47:=fun args w=>Tryz.call47 args w
theorem ZfT : Zi Tryz.prog 48:=fun args w=>Tryz.call48 args w
theorem ZfU : Zi Tryz.prog 53:=fun args w=>Tryz.call53 args w
theorem ZfV : Zi Tryz.prog 55:=fun args w=>Tryz.call55 args w
theorem ZfW : Zi Tryz.prog 56:=fun args w=>Tryz.call56 args w
theorem ZfX : Zi Tryz.prog 57:=fun args w=>Tryz.call57 args w
theorem ZfY : Zi Tryz.prog 58:=fun args w=>Tryz.call58 args w
theorem ZfZ : Zi Tryz.prog 59:=fun args w=>Tryz.call59 args w
theorem Zf0 : Zi Tryz.prog 60:=fun args w=>Tryz.call60 args w
theorem Zf1 : Zi Tryz.prog 61:=fun args w=>Tryz.call61 args w
theorem Zf2 : Zi Tryz.prog 62:=fun args w=>Tryz.call62 args w
theorem Zf3 : Zi Tryz.prog 63:=fun args w=>Tryz.call63 args w
theorem Zf4 : Zi Tryz.prog 64:=fun args w=>Tryz.call64 args w
theorem Zf5 : Zi Tryz.prog 75:=fun args w=>Tryz.call75 args w
theorem Zf6 : Zi Tryz.prog 76:=fun args w=>Tryz.call76 args w
theorem Zf7 : Zi Tryz.prog 77:=fun args w=>Tryz.call77 args w
theorem Zf8 : Zi Tryz.prog 78:=fun args w=>Tryz.call78 args w
theorem Zf9 : Zi Tryz.prog 81:=fun args w=>Tryz.call81 args w
theorem Zga : Zi Tryz.prog 86:=fun args w=>Tryz.call86 args w
theorem Zgb : Zi Tryz.prog 87:=fun args w=>Tryz.call87 args w
theorem Zgc : Zi Tryz.prog 88:=fun args w=>Tryz.call88 args w
theorem qG : Zi Tryz.prog 89:=fun args w=>Tryz.call89 args w
theorem Zgd : Zi Tryz.prog 90:=fun args w=>Tryz.call90 args w
theorem Zge : Zi Tryz.prog 92:=fun args w=>Tryz.call92 args w
theorem Zgf : Zi Tryz.prog 93:=fun args w=>Tryz.call93 args w
theorem Zgg : Zi Tryz.prog 94:=fun args w=>Tryz.call94 args w
theorem Zgh : Zi Tryz.prog 95:=fun args w=>Tryz.call95 args w
theorem Zgi : Zi Tryz.prog 96:=fun args w=>Tryz.call96 args w
theorem Zgj : Zi Tryz.prog 97:=fun args w=>Tryz.call97 args w
theorem Zgk : Zi Tryz.prog 98:=fun args w=>Tryz.call98 args w
theorem Zgl : Zi Tryz.prog 99:=fun args w=>Tryz.call99 args w
theorem uL : Zi Tryz.prog 100:=fun args w=>Tryz.call100 args w
theorem uM : Zi Tryz.prog 101:=fun args w=>Tryz.call101 args w
theorem uN : Zi Tryz.prog 102:=fun args w=>Tryz.call102 args w
theorem bI : Zi Tryz.prog 103:=fun args w=>Tryz.call103 args w
theorem uO : Zi Tryz.prog 104:=fun args w=>Tryz.call104 args w
theorem uP : Zi Tryz.prog 105:=fun args w=>Tryz.call105 args w
theorem uQ : Zi Tryz.prog 106:=fun args w=>Tryz.call106 args w
theorem uR : Zi Tryz.prog 107:=fun args w=>Tryz.call107 args w
theorem uS : Zi Tryz.prog 121:=fun args w=>Tryz.call121 args w
theorem uT : Zi Tryz.prog 124:=fun args w=>Tryz.call124 args w
theorem uU : Zi Tryz.prog 125:=fun args w=>Tryz.call125 args w
theorem uV : Zi Tryz.prog 126:=fun args w=>Tryz.call126 args w
theorem uW : Zi Tryz.prog 127:=fun args w=>Tryz.call127 args w
theorem uX : Zi Tryz.prog 128:=fun args w=>Tryz.call128 args w
theorem uY : Zi Tryz.prog 129:=fun args w=>Tryz.call129 args w
theorem uZ : Zi Tryz.prog 130:=fun args w=>Tryz.call130 args w
theorem vA : Zi Tryz.prog 132:=fun args w=>Tryz.call132 args w
theorem vB : Zi Tryz.prog 133:=fun args w=>Tryz.call133 args w
theorem vC : Zi Tryz.prog 135:=fun args w=>Tryz.call135 args w
theorem vD : Zi Tryz.prog 136:=fun args w=>Tryz.call136 args w
theorem vE : Zi Tryz.prog 137:=fun args w=>Tryz.call137 args w
theorem vF : Zi Tryz.prog 138:=fun args w=>Tryz.call138 args w
theorem vG : Zi Tryz.prog 139:=fun args w=>Tryz.call139 args w
theorem vH : Zi Tryz.prog 140:=fun args w=>Tryz.call140 args w
theorem vI : Zi Tryz.prog 141:=fun args w=>Tryz.call141 args w
theorem vJ : Zi Tryz.prog 142:=fun args w=>Tryz.call142 args w
theorem vK : Zi Tryz.prog 143:=fun args w=>Tryz.call143 args w
theorem vL : Zi Tryz.prog 144:=fun args w=>Tryz.call144 args w
theorem bJ : Zi Tryz.prog 146:=fun args w=>Tryz.call146 args w
theorem vM : Zi Tryz.prog 147:=fun args w=>Tryz.call147 args w
theorem vN : Zi Tryz.prog 148:=fun args w=>Tryz.call148 args w
theorem vO : Zi Tryz.prog 149:=fun args w=>Tryz.call149 args w
theorem vP : Zi Tryz.prog 150:=fun args w=>Tryz.call150 args w
theorem vQ : Zi Tryz.prog 151:=fun args w=>Tryz.call151 args w
theorem vR : Zi Tryz.prog 152:=fun args w=>Tryz.call152 args w
theorem vS : Zi Tryz.prog 153:=fun args w=>Tryz.call153 args w
theorem vT : Zi Tryz.prog 154:=fun args w=>Tryz.call154 args w
theorem vU : Zi Tryz.prog 155:=fun args w=>Tryz.call155 args w
theorem vV : Zi Tryz.prog 158:=fun args w=>Tryz.call158 args w
theorem vW : Zi Tryz.prog 159:=fun args w=>Tryz.call159 args w
theorem vX : Zi Tryz.prog 164:=fun args w=>Tryz.call164 args w
theorem vY : Zi Tryz.prog 167:=fun args w=>Tryz.call167 args w
theorem vZ : Zi Tryz.prog 170:=fun args w=>Tryz.call170 args w
theorem wA : Zi Tryz.prog 171:=fun args w=>Tryz.call171 args w
theorem wB : Zi Tryz.prog 172:=fun args w=>Tryz.call172 args w
theorem wC : Zi Tryz.prog 173:=fun args w=>Tryz.call173 args w
theorem wD : Zi Tryz.prog 174:=fun args w=>Tryz.call174 args w
theorem wE : Zi Tryz.prog 175:=fun args w=>Tryz.call175 args w
theorem wF : Zi Tryz.prog 176:=fun args w=>Tryz.call176 args w
theorem wG : Zi Tryz.prog 178:=fun args w=>Tryz.call178 args w
theorem wH : Zi Tryz.prog 183:=fun args w=>Tryz.call183 args w
theorem wI : Zi Tryz.prog 184:=fun args w=>Tryz.call184 args w
theorem wJ : Zi Tryz.prog 185:=fun args w=>Tryz.call185 args w
theorem wK : Zi Tryz.prog 186:=fun args w=>Tryz.call186 args w
theorem wL : Zi Tryz.prog 187:=fun args w=>Tryz.call187 args w
theorem wM : Zi Tryz.prog 190:=fun args w=>Tryz.call190 args w
theorem wN : Zi Tryz.prog 191:=fun args w=>Tryz.call191 args w
theorem wO : Zi Tryz.prog 192:=fun args w=>Tryz.call192 args w
theorem bK : Zi Tryz.prog 193:=fun args w=>Tryz.call193 args w
theorem wP : Zi Tryz.prog 194:=fun args w=>Tryz.call194 args w
theorem wQ : Zi Tryz.prog 195:=fun args w=>Tryz.call195 args w
theorem wR : Zi Tryz.prog 196:=fun args w=>Tryz.call196 args w
theorem wS : Zi Tryz.prog 197:=fun args w=>Tryz.call197 args w
theorem wT : Zi Tryz.prog 198:=fun args w=>Tryz.call198 args w
theorem WE : Zi Tryz.prog 210:=fun args w=>Tryz.call210 args w
theorem wU : Zi Tryz.prog 218:=fun args w=>Tryz.call218 args w
theorem wV : Zi Tryz.prog 219:=fun args w=>Tryz.call219 args w
theorem wW : Zi Tryz.prog 220:=fun args w=>Tryz.call220 args w
theorem wX : Zi Tryz.prog 221:=fun args w=>Tryz.call221 args w
theorem wY : Zi Tryz.prog 222:=fun args w=>Tryz.call222 args w
theorem wZ : Zi Tryz.prog 225:=fun args w=>Tryz.call225 args w
theorem xA : Zi Tryz.prog 226:=fun args w=>Tryz.call226 args w
theorem xB : Zi Tryz.prog 227:=fun args w=>Tryz.call227 args w
theorem xC : Zi Tryz.prog 228:=fun args w=>Tryz.call228 args w
theorem xD : Zi Tryz.prog 229:=fun args w=>Tryz.call229 args w
theorem xE : Zi Tryz.prog 230:=fun args w=>Tryz.call230 args w
theorem xF : Zi Tryz.prog 231:=fun args w=>Tryz.call231 args w
theorem xG : Zi Tryz.prog 232:=fun args w=>Tryz.call232 args w
theorem xH : Zi Tryz.prog 233:=fun args w=>Tryz.call233 args w
theorem xI : Zi Tryz.prog 234:=fun args w=>Tryz.call234 args w
theorem bL : Zi Tryz.prog 236:=fun args w=>Tryz.call236 args w
theorem xJ : Zi Tryz.prog 237:=fun args w=>Tryz.call237 args w
theorem xK : Zi Tryz.prog 239:=fun args w=>Tryz.call239 args w
theorem xL : Zi Tryz.prog 240:=fun args w=>Tryz.call240 args w
theorem xM : Zi Tryz.prog 241:=fun args w=>Tryz.call241 args w
theorem xN : Zi Tryz.prog 247:=fun args w=>Tryz.call247 args w
theorem xO : Zi Tryz.prog 248:=fun args w=>Tryz.call248 args w
theorem xP : Zi Tryz.prog 249:=fun args w=>Tryz.call249 args w
theorem xQ : Zi Tryz.prog 250:=fun args w=>Tryz.call250 args w
theorem xR : Zi Tryz.prog 251:=fun args w=>Tryz.call251 args w
theorem xS : Zi Tryz.prog 258:=fun args w=>Tryz.call258 args w
theorem xT : Zi Tryz.prog 259:=fun args w=>Tryz.call259 args w
theorem xU : Zi Tryz.prog 260:=fun args w=>Tryz.call260 args w
theorem xV : Zi Tryz.prog 261:=fun args w=>Tryz.call261 args w
theorem xW : Zi Tryz.prog 262:=fun args w=>Tryz.call262 args w
theorem xX : Zi Tryz.prog 263:=fun args w=>Tryz.call263 args w
theorem xY : Zi Tryz.prog 264:=fun args w=>Tryz.call264 args w
theorem xZ : Zi Tryz.prog 265:=fun args w=>Tryz.call265 args w
theorem yA : Zi Tryz.prog 266:=fun args w=>Tryz.call266 args w
theorem yB : Zi Tryz.prog 267:=fun args w=>Tryz.call267 args w
theorem yC : Zi Tryz.prog 268:=fun args w=>Tryz.call268 args w
theorem bM : Zi Tryz.prog 269:=fun args w=>Tryz.call269 args w
theorem yD : Zi Tryz.prog 270:=fun args w=>Tryz.call270 args w
theorem yE : Zi Tryz.prog 271:=fun args w=>Tryz.call271 args w
theorem yF : Zi Tryz.prog 272:=fun args w=>Tryz.call272 args w
theorem yG : Zi Tryz.prog 273:=fun args w=>Tryz.call273 args w
theorem yH : Zi Tryz.prog 274:=fun args w=>Tryz.call274 args w
theorem yI : Zi Tryz.prog 275:=fun args w=>Tryz.call275 args w
theorem yJ : Zi Tryz.prog 276:=fun args w=>Tryz.call276 args w
theorem yK : Zi Tryz.prog 277:=fun args w=>Tryz.call277 args w
theorem yL : Zi Tryz.prog 278:=fun args w=>Tryz.call278 args w
theorem yM : Zi Tryz.prog 283:=fun args w=>Tryz.call283 args w
theorem yN : Zi Tryz.prog 284:=fun args w=>Tryz.call284 args w
theorem yO : Zi Tryz.prog 286:=fun args w=>Tryz.call286 args w
theorem yP : Zi Tryz.prog 287:=fun args w=>Tryz.call287 args w
theorem yQ : Zi Tryz.prog 288:=fun args w=>Tryz.call288 args w
theorem yR : Zi Tryz.prog 289:=fun args w=>Tryz.call289 args w
theorem yS : Zi Tryz.prog 290:=fun args w=>Tryz.call290 args w
theorem yT : Zi Tryz.prog 291:=fun args w=>Tryz.call291 args w
theorem yU : Zi Tryz.prog 292:=fun args w=>Tryz.call292 args w
theorem yV : Zi Tryz.prog 293:=fun args w=>Tryz.call293 args w
theorem yW : Zi Tryz.prog 294:=fun args w=>Tryz.call294 args w
theorem yX : Zi Tryz.prog 295:=fun args w=>Tryz.call295 args w
theorem yY : Zi Tryz.prog 296:=fun args w=>Tryz.call296 args w
theorem yZ : Zi Tryz.prog 297:=fun args w=>Tryz.call297 args w
theorem zA : Zi Tryz.prog 298:=fun args w=>Tryz.call298 args w
theorem zB : Zi Tryz.prog 299:=fun args w=>Tryz.call299 args w
theorem zC : Zi Tryz.prog 300:=fun args w=>Tryz.call300 args w
theorem zD : Zi Tryz.prog 301:=fun args w=>Tryz.call301 args w
theorem zF : Zi Tryz.prog 302:=fun args w=>Tryz.call302 args w
theorem zG : Zi Tryz.prog 303:=fun args w=>Tryz.call303 args w
theorem zH : Zi Tryz.prog 304:=fun args w=>Tryz.call304 args w
theorem zJ : Zi Tryz.prog 307:=fun args w=>Tryz.call307 args w
theorem zK : Zi Tryz.prog 308:=fun args w=>Tryz.call308 args w
theorem zL : Zi Tryz.prog 309:=fun args w=>Tryz.call309 args w
theorem zM : Zi Tryz.prog 310:=fun args w=>Tryz.call310 args w
theorem zN : Zi Tryz.prog 311:=fun args w=>Tryz.call311 args w
theorem zO : Zi Tryz.prog 312:=fun args w=>Tryz.call312 args w
theorem zP : Zi Tryz.prog 313:=fun args w=>Tryz.call313 args w
theorem zQ : Zi Tryz.prog 314:=fun args w=>Tryz.call314 args w
theorem zR : Zi Tryz.prog 315:=fun args w=>Tryz.call315 args w
theorem zS : Zi Tryz.prog 316:=fun args w=>Tryz.call316 args w
theorem zT : Zi Tryz.prog 317:=fun args w=>Tryz.call317 args w
theorem zU : Zi Tryz.prog 318:=fun args w=>Tryz.call318 args w
theorem zV : Zi Tryz.prog 319:=fun args w=>Tryz.call319 args w
theorem zW : Zi Tryz.prog 320:=fun args w=>Tryz.call320 args w
theorem zX : Zi Tryz.prog 321:=fun args w=>Tryz.call321 args w
theorem zY : Zi Tryz.prog 322:=fun args w=>Tryz.call322 args w
theorem zZ : Zi Tryz.prog 323:=fun args w=>Tryz.call323 args w
theorem Zaa : Zi Tryz.prog 324:=fun args w=>Tryz.call324 args w
theorem Zab : Zi Tryz.prog 325:=fun args w=>Tryz.call325 args w
theorem Zac : Zi Tryz.prog 326:=fun args w=>Tryz.call326 args w
theorem Zad : Zi Tryz.prog 327:=fun args w=>Tryz.call327 args w
theorem Zae : Zi Tryz.prog 328:=fun args w=>Tryz.call328 args w
theorem Zaf : Zi Tryz.prog 329:=fun args w=>Tryz.call329 args w
theorem Zag : Zi Tryz.prog 330:=fun args w=>Tryz.call330 args w
theorem Zah : Zi Tryz.prog 331:=fun args w=>Tryz.call331 args w
theorem mixed : Tryz.prog.follows .mixedOrders=true:=Ze
end Go.Proofs.YtiigdaohjanidaaGreatDoor.K
