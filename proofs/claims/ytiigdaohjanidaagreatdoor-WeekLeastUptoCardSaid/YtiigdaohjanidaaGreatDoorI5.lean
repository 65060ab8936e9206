/- Declarations that the closing texts need, part 5: joined by tools/slim.py. -/
import Derived.Test.YtiigdaohjanidaaGreatDoorI4
import Derived.KernelRfl
namespace Go.Proofs.YtiigdaohjanidaaGreatDoor.K
open Go Go.AM Go.Proofs
abbrev PC (f:FuncId) (a:List V) (y:PV):=ACalls Tryz.prog f a [] fun x H'=>x= .p y/\H'= []
abbrev PT (f:FuncId) (a:List V) (b:List V):=ACalls Tryz.prog f a [] fun x H'=>x= .tup b/\H'= []
theorem kf {α:Type} {a b:α} (h:a=b:=by kernel_rfl):a=b:=Zh h rfl
theorem Zd {p:Prop} (h:p:=by kernel_rfl):p:=h
@[go_sem] theorem Zpq : Tryz.prog.underlying 3=some (.int .i64):=kf
@[go_sem] theorem Zpm : YI Tryz.prog 3=some 1:=kf
@[go_sem] theorem Zoy : XF Tryz.prog 3=some false:=kf
@[go_sem] theorem ZlD : Xm Tryz.prog 3=some [.int .i64 0]:=kf
@[go_sem] theorem Zpr : Tryz.prog.underlying 4=some .bool:=kf
@[go_sem] theorem Zpn : YI Tryz.prog 4=some 1:=kf
@[go_sem] theorem Zoz : XF Tryz.prog 4=some false:=kf
@[go_sem] theorem Zps : Tryz.prog.underlying 5=some (.int .u8):=kf
@[go_sem] theorem Zpo : YI Tryz.prog 5=some 1:=kf
@[go_sem] theorem ZoA : XF Tryz.prog 5=some false:=kf
@[go_sem] theorem Zpt : Tryz.prog.underlying 9=some .string:=kf
@[go_sem] theorem Zpp : YI Tryz.prog 9=some 1:=kf
@[go_sem] theorem ZoB : XF Tryz.prog 9=some false:=kf
@[go_sem] theorem Zo4 : Tryz.prog.underlying 22=some (.slice 43):=kf
@[go_sem] theorem Zm5 : YK Tryz.prog 22=some (none,6):=kf
@[go_sem] theorem Zmt : UX Tryz.prog 22=some 6:=kf
@[go_sem] theorem uM : Jd Tryz.prog 22=some (6,144):=kf
@[go_sem] theorem ZfS (H:List AM.Obj) (u:TypeId) (o n:Nat) (y:V):W2 Tryz.prog H 22 u (.sl o 0 n n) y=Uv H (some (6,144)) (oat H o) o n (YS (Tryz.prog.underlying u) H y):=YB uM
@[go_sem] theorem Zo5 : Tryz.prog.underlying 25=some (.slice 33):=kf
@[go_sem] theorem Zm6 : YK Tryz.prog 25=some (none,2):=kf
@[go_sem] theorem Zmu : UX Tryz.prog 25=some 2:=kf
@[go_sem] theorem uN : Jd Tryz.prog 25=some (2,48):=kf
@[go_sem] theorem ZfT (H:List AM.Obj) (u:TypeId) (o n:Nat) (y:V):W2 Tryz.prog H 25 u (.sl o 0 n n) y=Uv H (some (2,48)) (oat H o) o n (YS (Tryz.prog.underlying u) H y):=YB uN
@[go_sem] theorem ZoI : YI Tryz.prog 26=some 1:=kf
@[go_sem] theorem ZmK : XF Tryz.prog 26=some false:=kf
@[go_sem] theorem Zo6 : Tryz.prog.underlying 30=some (.slice 49):=kf
@[go_sem] theorem ZoJ : YI Tryz.prog 30=some 1:=kf
@[go_sem] theorem ZmL : XF Tryz.prog 30=some false:=kf
@[go_sem] theorem Zm7 : YK Tryz.prog 30=some (none,4):=kf
@[go_sem] theorem Zmv : UX Tryz.prog 30=some 4:=kf
@[go_sem] theorem uO : Jd Tryz.prog 30=some (4,64):=kf
@[go_sem] theorem ZfU (H:List AM.Obj) (u:TypeId) (o n:Nat) (y:V):W2 Tryz.prog H 30 u (.sl o 0 n n) y=Uv H (some (4,64)) (oat H o) o n (YS (Tryz.prog.underlying u) H y):=YB uO
@[go_sem] theorem Zo7 : Tryz.prog.underlying 31=some (.slice 3):=kf
@[go_sem] theorem ZoK : YI Tryz.prog 31=some 1:=kf
@[go_sem] theorem ZmM : XF Tryz.prog 31=some false:=kf
@[go_sem] theorem Zm8 : YK Tryz.prog 31=some (none,1):=kf
@[go_sem] theorem Zmw : UX Tryz.prog 31=some 1:=kf
@[go_sem] theorem uP : Jd Tryz.prog 31=some (1,8):=kf
@[go_sem] theorem ZfV (H:List AM.Obj) (u:TypeId) (o n:Nat) (y:V):W2 Tryz.prog H 31 u (.sl o 0 n n) y=Uv H (some (1,8)) (oat H o) o n (YS (Tryz.prog.underlying u) H y):=YB uP
@[go_sem] theorem nP : LQ Tryz.prog 31=some (1,8,.int .i64 0):=kf
@[go_sem] theorem Zod (H:List AM.Obj) (fr:List V) (x y:Operand):Wn Tryz.prog (.makeSlice 31 x y) fr H=Uu (some (1,8,.int .i64 0)) H (ev fr x) (ev fr y):=AL nP
@[go_sem] theorem ZoL : YI Tryz.prog 33=some 2:=kf
@[go_sem] theorem ZmN : XF Tryz.prog 33=some true:=kf
@[go_sem] theorem ZiC : ZU Tryz.prog 33 0=some 0:=kf
@[go_sem] theorem ZiD : ZU Tryz.prog 33 1=some 1:=kf
@[go_sem] theorem ZoC : DV Tryz.prog 33=some (DQ [(0,1),(1,1)]):=kf
@[go_sem] theorem ZjB : Xm Tryz.prog 33=some [.list true [],.list true []]:=kf
@[go_sem] theorem Zo8 : Tryz.prog.underlying 35=some (.slice 9):=kf
@[go_sem] theorem ZoM : YI Tryz.prog 35=some 1:=kf
@[go_sem] theorem ZmO : XF Tryz.prog 35=some false:=kf
@[go_sem] theorem Zm9 : YK Tryz.prog 35=some (none,1):=kf
@[go_sem] theorem Zo9 : Tryz.prog.underlying 36=some (.slice 129):=kf
@[go_sem] theorem ZoN : YI Tryz.prog 36=some 1:=kf
@[go_sem] theorem ZmP : XF Tryz.prog 36=some false:=kf
@[go_sem] theorem Zna : YK Tryz.prog 36=some (none,6):=kf
@[go_sem] theorem ZoO : YI Tryz.prog 38=some 2:=kf
@[go_sem] theorem ZmQ : XF Tryz.prog 38=some true:=kf
@[go_sem] theorem ZiE : ZU Tryz.prog 38 0=some 0:=kf
@[go_sem] theorem ZiF : ZU Tryz.prog 38 1=some 1:=kf
@[go_sem] theorem Zpa : Tryz.prog.underlying 39=some (.slice 82):=kf
@[go_sem] theorem ZoP : YI Tryz.prog 39=some 1:=kf
@[go_sem] theorem ZmR : XF Tryz.prog 39=some false:=kf
@[go_sem] theorem Znb : YK Tryz.prog 39=some (none,14):=kf
@[go_sem] theorem Zpb : Tryz.prog.underlying 40=some (.slice 59):=kf
@[go_sem] theorem ZoQ : YI Tryz.prog 40=some 1:=kf
@[go_sem] theorem ZmS : XF Tryz.prog 40=some false:=kf
@[go_sem] theorem Znc : YK Tryz.prog 40=some (none,16):=kf
@[go_sem] theorem nQ : LQ Tryz.prog 40=some (16,152,.agg [.str [],.list true [],.int .i64 0,.int .i64 0,.int .i64 0,.int .i64 0,.int .i64 0,.int .i64 0,.int .i64 0,.int .i64 0,.int .i64 0,.int .i64 0,.int .i64 0,.int .i64 0,.int .i64 0,.bool false]):=kf
@[go_sem] theorem Zoe (H:List AM.Obj) (fr:List V) (x y:Operand):Wn Tryz.prog (.makeSlice 40 x y) fr H=Uu (some (16,152,.agg [.str [],.list true [],.int .i64 0,.int .i64 0,.int .i64 0,.int .i64 0,.int .i64 0,.int .i64 0,.int .i64 0,.int .i64 0,.int .i64 0,.int .i64 0,.int .i64 0,.int .i64 0,.int .i64 0,.bool false])) H (ev fr x) (ev fr y):=AL nQ
@[go_sem] theorem Zpc : Tryz.prog.underlying 41=some (.slice 132):=kf
@[go_sem] theorem ZoR : YI Tryz.prog 41=some 1:=kf
@[go_sem] theorem ZmT : XF Tryz.prog 41=some false:=kf
@[go_sem] theorem Znd : YK Tryz.prog 41=some (none,2):=kf
@[go_sem] theorem ZoS : YI Tryz.prog 43=some 6:=kf
@[go_sem] theorem ZmU : XF Tryz.prog 43=some true:=kf
@[go_sem] theorem ZiG : ZU Tryz.prog 43 0=some 0:=kf
@[go_sem] theorem ZiH : ZU Tryz.prog 43 1=some 2:=kf
@[go_sem] theorem ZiI : ZU Tryz.prog 43 2=some 3:=kf
@[go_sem] theorem ZiJ : ZU Tryz.prog 43 3=some 4:=kf
@[go_sem] theorem ZiK : ZU Tryz.prog 43 4=some 5:=kf
@[go_sem] theorem ZoD : DV Tryz.prog 43=some (DQ [(0,2),(2,1),(3,1),(4,1),(5,1)]):=kf
@[go_sem] theorem ZjC : Xm Tryz.prog 43=some [.list true [],.list true [],.list true [],.list true [],.list true [],.list true []]:=kf
@[go_sem] theorem Zpd : Tryz.prog.underlying 46=some (.slice 4):=kf
@[go_sem] theorem ZoT : YI Tryz.prog 46=some 1:=kf
@[go_sem] theorem ZmV : XF Tryz.prog 46=some false:=kf
@[go_sem] theorem Zne : YK Tryz.prog 46=some (none,1):=kf
@[go_sem] theorem Zmx : UX Tryz.prog 46=some 1:=kf
@[go_sem] theorem uQ : Jd Tryz.prog 46=some (1,1):=kf
@[go_sem] theorem ZfR (H:List AM.Obj) (u:TypeId) (y:V):W2 Tryz.prog H 46 u (.p (.list true [])) y=Ni H (some (1,1)) (YS (Tryz.prog.underlying u) H y):=D0 uQ
@[go_sem] theorem nR : LQ Tryz.prog 46=some (1,1,.bool false):=kf
@[go_sem] theorem Zof (H:List AM.Obj) (fr:List V) (x y:Operand):Wn Tryz.prog (.makeSlice 46 x y) fr H=Uu (some (1,1,.bool false)) H (ev fr x) (ev fr y):=AL nR
@[go_sem] theorem Zpe : Tryz.prog.underlying 47=some (.slice 126):=kf
@[go_sem] theorem ZoU : YI Tryz.prog 47=some 1:=kf
@[go_sem] theorem ZmW : XF Tryz.prog 47=some false:=kf
@[go_sem] theorem Znf : YK Tryz.prog 47=some (none,2):=kf
@[go_sem] theorem Zmy : UX Tryz.prog 47=some 2:=kf
@[go_sem] theorem T8 : Jd Tryz.prog 47=some (2,16):=kf
@[go_sem] theorem ZfW (H:List AM.Obj) (u:TypeId) (o n:Nat) (y:V):W2 Tryz.prog H 47 u (.sl o 0 n n) y=Uv H (some (2,16)) (oat H o) o n (YS (Tryz.prog.underlying u) H y):=YB T8
@[go_sem] theorem ZoV : YI Tryz.prog 49=some 4:=kf
@[go_sem] theorem ZmX : XF Tryz.prog 49=some true:=kf
@[go_sem] theorem ZiL : ZU Tryz.prog 49 0=some 0:=kf
@[go_sem] theorem ZiM : ZU Tryz.prog 49 1=some 1:=kf
@[go_sem] theorem ZiN : ZU Tryz.prog 49 2=some 2:=kf
@[go_sem] theorem ZiO : ZU Tryz.prog 49 3=some 3:=kf
@[go_sem] theorem ZoE : DV Tryz.prog 49=some (DQ [(0,1),(1,1),(2,1),(3,1)]):=kf
@[go_sem] theorem ZjD : Xm Tryz.prog 49=some [.int .i64 0,.int .i64 0,.list true [],.list true []]:=kf
@[go_sem] theorem ZoW : YI Tryz.prog 51=some 4:=kf
@[go_sem] theorem ZmY : XF Tryz.prog 51=some true:=kf
@[go_sem] theorem ZiP : ZU Tryz.prog 51 0=some 0:=kf
@[go_sem] theorem ZiQ : ZU Tryz.prog 51 1=some 1:=kf
@[go_sem] theorem ZiR : ZU Tryz.prog 51 2=some 2:=kf
@[go_sem] theorem ZiS : ZU Tryz.prog 51 3=some 3:=kf
@[go_sem] theorem ZoF : DV Tryz.prog 51=some (DQ [(0,1),(1,1),(2,1),(3,1)]):=kf
@[go_sem] theorem ZjE : Xm Tryz.prog 51=some [.int .i64 0,.int .i64 0,.int .i64 0,.int .i64 0]:=kf
@[go_sem] theorem ZoX : YI Tryz.prog 57=some 4:=kf
@[go_sem] theorem ZmZ : XF Tryz.prog 57=some true:=kf
@[go_sem] theorem ZiT : ZU Tryz.prog 57 0=some 0:=kf
@[go_sem] theorem ZiU : ZU Tryz.prog 57 1=some 1:=kf
@[go_sem] theorem ZiV : ZU Tryz.prog 57 2=some 2:=kf
@[go_sem] theorem ZiW : ZU Tryz.prog 57 3=some 3:=kf
@[go_sem] theorem ZoG : DV Tryz.prog 57=some (DQ [(0,1),(1,1),(2,1),(3,1)]):=kf
@[go_sem] theorem ZjF : Xm Tryz.prog 57=some [.int .i64 0,.int .i64 0,.int .i64 0,.int .i64 0]:=kf
@[go_sem] theorem ZoY : YI Tryz.prog 59=some 16:=kf
@[go_sem] theorem Zm0 : XF Tryz.prog 59=some true:=kf
@[go_sem] theorem ZiX : ZU Tryz.prog 59 0=some 0:=kf
@[go_sem] theorem ZiY : ZU Tryz.prog 59 1=some 1:=kf
@[go_sem] theorem ZiZ : ZU Tryz.prog 59 2=some 2:=kf
@[go_sem] theorem Zi0 : ZU Tryz.prog 59 3=some 6:=kf
@[go_sem] theorem Zi1 : ZU Tryz.prog 59 4=some 10:=kf
@[go_sem] theorem Zi2 : ZU Tryz.prog 59 5=some 11:=kf
@[go_sem] theorem Zi3 : ZU Tryz.prog 59 6=some 12:=kf
@[go_sem] theorem Zi4 : ZU Tryz.prog 59 7=some 13:=kf
@[go_sem] theorem Zi5 : ZU Tryz.prog 59 8=some 14:=kf
@[go_sem] theorem Zi6 : ZU Tryz.prog 59 9=some 15:=kf
@[go_sem] theorem ZjG : Xm Tryz.prog 59=some [.str [],.list true [],.int .i64 0,.int .i64 0,.int .i64 0,.int .i64 0,.int .i64 0,.int .i64 0,.int .i64 0,.int .i64 0,.int .i64 0,.int .i64 0,.int .i64 0,.int .i64 0,.int .i64 0,.bool false]:=kf
@[go_sem] theorem ZoZ : YI Tryz.prog 82=some 14:=kf
@[go_sem] theorem Zm1 : XF Tryz.prog 82=some true:=kf
@[go_sem] theorem Zi7 : ZU Tryz.prog 82 0=some 0:=kf
@[go_sem] theorem Zi8 : ZU Tryz.prog 82 1=some 1:=kf
@[go_sem] theorem Zi9 : ZU Tryz.prog 82 2=some 2:=kf
@[go_sem] theorem Zja : ZU Tryz.prog 82 3=some 3:=kf
@[go_sem] theorem Zjb : ZU Tryz.prog 82 4=some 4:=kf
@[go_sem] theorem Zjc : ZU Tryz.prog 82 5=some 5:=kf
@[go_sem] theorem Zjd : ZU Tryz.prog 82 6=some 6:=kf
@[go_sem] theorem Zje : ZU Tryz.prog 82 7=some 7:=kf
@[go_sem] theorem Zjf : ZU Tryz.prog 82 8=some 8:=kf
@[go_sem] theorem Zjg : ZU Tryz.prog 82 9=some 9:=kf
@[go_sem] theorem ZeK : ZU Tryz.prog 82 10=some 10:=kf
@[go_sem] theorem ZeL : ZU Tryz.prog 82 11=some 11:=kf
@[go_sem] theorem ZeM : ZU Tryz.prog 82 12=some 12:=kf
@[go_sem] theorem ZeN : ZU Tryz.prog 82 13=some 13:=kf
@[go_sem] theorem ZjH : Xm Tryz.prog 82=some [.str [],.int .i64 0,.int .i64 0,.int .i64 0,.list true [],.int .i64 0,.int .i64 0,.int .i64 0,.int .i64 0,.int .i64 0,.int .i64 0,.int .i64 0,.int .i64 0,.int .i64 0]:=kf
@[go_sem] theorem Zo0 : YI Tryz.prog 90=some 1:=kf
@[go_sem] theorem Zm2 : XF Tryz.prog 90=some false:=kf
@[go_sem] theorem Zpf : Tryz.prog.underlying 93=some (.slice 178):=kf
@[go_sem] theorem Zo1 : YI Tryz.prog 93=some 1:=kf
@[go_sem] theorem Zm3 : XF Tryz.prog 93=some false:=kf
@[go_sem] theorem Zng : YK Tryz.prog 93=some (none,4):=kf
@[go_sem] theorem Zmz : UX Tryz.prog 93=some 4:=kf
@[go_sem] theorem uR : Jd Tryz.prog 93=some (4,32):=kf
@[go_sem] theorem ZfX (H:List AM.Obj) (u:TypeId) (o n:Nat) (y:V):W2 Tryz.prog H 93 u (.sl o 0 n n) y=Uv H (some (4,32)) (oat H o) o n (YS (Tryz.prog.underlying u) H y):=YB uR
@[go_sem] theorem Zo2 : YI Tryz.prog 95=some 5:=kf
@[go_sem] theorem Zm4 : XF Tryz.prog 95=some true:=kf
@[go_sem] theorem Zjh : ZU Tryz.prog 95 0=some 0:=kf
@[go_sem] theorem Zji : ZU Tryz.prog 95 1=some 1:=kf
@[go_sem] theorem Zjj : ZU Tryz.prog 95 2=some 2:=kf
@[go_sem] theorem Zjk : ZU Tryz.prog 95 3=some 3:=kf
@[go_sem] theorem Zjl : ZU Tryz.prog 95 4=some 4:=kf
@[go_sem] theorem ZoH : DV Tryz.prog 95=some (DQ [(0,1),(1,1),(2,1),(3,1),(4,1)]):=kf
@[go_sem] theorem ZjI : Xm Tryz.prog 95=some [.bool false,.int .i64 0,.list true [],.int .i64 0,.int .i64 0]:=kf
@[go_sem] theorem ZnT : Tryz.prog.underlying 110=some (.slice 158):=kf
@[go_sem] theorem Znx : YI Tryz.prog 110=some 1:=kf
@[go_sem] theorem ZkT : XF Tryz.prog 110=some false:=kf
@[go_sem] theorem Zld : YK Tryz.prog 110=some (none,7):=kf
@[go_sem] theorem Zkw : UX Tryz.prog 110=some 7:=kf
@[go_sem] theorem kL : Jd Tryz.prog 110=some (7,88):=kf
@[go_sem] theorem Zcq (H:List AM.Obj) (u:TypeId) (o n:Nat) (y:V):W2 Tryz.prog H 110 u (.sl o 0 n n) y=Uv H (some (7,88)) (oat H o) o n (YS (Tryz.prog.underlying u) H y):=YB kL
@[go_sem] theorem ZnU : Tryz.prog.underlying 121=some (.slice 229):=kf
@[go_sem] theorem Zle : YK Tryz.prog 121=some (none,2):=kf
@[go_sem] theorem Zkx : UX Tryz.prog 121=some 2:=kf
@[go_sem] theorem OI : Jd Tryz.prog 121=some (2,24):=kf
@[go_sem] theorem Zco (H:List AM.Obj) (u:TypeId) (y:V):W2 Tryz.prog H 121 u (.p (.list true [])) y=Ni H (some (2,24)) (YS (Tryz.prog.underlying u) H y):=D0 OI
@[go_sem] theorem Zcr (H:List AM.Obj) (u:TypeId) (o n:Nat) (y:V):W2 Tryz.prog H 121 u (.sl o 0 n n) y=Uv H (some (2,24)) (oat H o) o n (YS (Tryz.prog.underlying u) H y):=YB OI
@[go_sem] theorem Zny : YI Tryz.prog 126=some 2:=kf
@[go_sem] theorem ZkU : XF Tryz.prog 126=some true:=kf
@[go_sem] theorem Zd0 : ZU Tryz.prog 126 0=some 0:=kf
@[go_sem] theorem Zd1 : ZU Tryz.prog 126 1=some 1:=kf
@[go_sem] theorem iU : Tryz.prog.stoodInHeld 126=false:=kf
@[go_sem] theorem Zni : DV Tryz.prog 126=some (DQ [(0,1),(1,1)]):=kf
@[go_sem] theorem ZlR (d:Nat) (a b:List PV):Hd Tryz.prog d 126 (Tryz.prog.underlying 126) (.agg a) (.agg b)=FN (jZ (Vs Tryz.prog d 3) (apart Tryz.prog 3 a 0) (apart Tryz.prog 3 b 0)) (FN (jZ (Vs Tryz.prog d 4) (apart Tryz.prog 4 a 1) (apart Tryz.prog 4 b 1)) (some true)):=by rw [Tryz.underlying126,JZ iU];simp [Co,D3]
@[go_sem] theorem Zl3 : Tryz.prog.eqGuardType Tryz.prog.depth 126=false:=kf
@[go_sem] theorem ZeT : Xm Tryz.prog 126=some [.int .i64 0,.bool false]:=kf
@[go_sem] theorem ZnV : Tryz.prog.underlying 127=some (.slice 188):=kf
@[go_sem] theorem Znz : YI Tryz.prog 127=some 1:=kf
@[go_sem] theorem ZkV : XF Tryz.prog 127=some false:=kf
@[go_sem] theorem Zlf : YK Tryz.prog 127=some (none,2):=kf
@[go_sem] theorem ZnA : YI Tryz.prog 129=some 6:=kf
@[go_sem] theorem ZkW : XF Tryz.prog 129=some true:=kf
@[go_sem] theorem Zd2 : ZU Tryz.prog 129 0=some 0:=kf
@[go_sem] theorem Zd3 : ZU Tryz.prog 129 1=some 1:=kf
@[go_sem] theorem Zd4 : ZU Tryz.prog 129 2=some 2:=kf
@[go_sem] theorem Zd5 : ZU Tryz.prog 129 3=some 3:=kf
@[go_sem] theorem Zd6 : ZU Tryz.prog 129 4=some 4:=kf
@[go_sem] theorem Zd7 : ZU Tryz.prog 129 5=some 5:=kf
@[go_sem] theorem Znj : DV Tryz.prog 129=some (DQ [(0,1),(1,1),(2,1),(3,1),(4,1),(5,1)]):=kf
@[go_sem] theorem ZeU : Xm Tryz.prog 129=some [.int .i64 0,.int .i64 0,.int .i64 0,.int .i64 0,.list true [],.list true []]:=kf
@[go_sem] theorem ZnB : YI Tryz.prog 132=some 2:=kf
@[go_sem] theorem ZkX : XF Tryz.prog 132=some true:=kf
@[go_sem] theorem Zlg : YK Tryz.prog 132=some ((some 2),1):=kf
@[go_sem] theorem ZeV : Xm Tryz.prog 132=some [.int .i64 0,.int .i64 0]:=kf
@[go_sem] theorem ZnW : Tryz.prog.underlying 139=some (.int .u64):=kf
@[go_sem] theorem Zlh : YK Tryz.prog 149=some ((some 6),1):=kf
@[go_sem] theorem ZnC : YI Tryz.prog 151=some 8:=kf
@[go_sem] theorem ZkY : XF Tryz.prog 151=some true:=kf
@[go_sem] theorem Zd8 : ZU Tryz.prog 151 0=some 0:=kf
@[go_sem] theorem Zd9 : ZU Tryz.prog 151 1=some 1:=kf
@[go_sem] theorem Zea : ZU Tryz.prog 151 2=some 2:=kf
@[go_sem] theorem Znk : DV Tryz.prog 151=some (DQ [(0,1),(1,1),(2,6)]):=kf
@[go_sem] theorem ZeW : Xm Tryz.prog 151=some [.int .i64 0,.int .i64 0,.int .i64 0,.int .i64 0,.int .i64 0,.int .i64 0,.int .i64 0,.int .i64 0]:=kf
@[go_sem] theorem ZnD : YI Tryz.prog 158=some 7:=kf
@[go_sem] theorem ZkZ : XF Tryz.prog 158=some true:=kf
@[go_sem] theorem Zeb : ZU Tryz.prog 158 0=some 0:=kf
@[go_sem] theorem Zec : ZU Tryz.prog 158 1=some 1:=kf
@[go_sem] theorem Zed : ZU Tryz.prog 158 2=some 2:=kf
@[go_sem] theorem Zee : ZU Tryz.prog 158 3=some 3:=kf
@[go_sem] theorem Znl : DV Tryz.prog 158=some (DQ [(0,1),(1,1),(2,1),(3,4)]):=kf
@[go_sem] theorem ZeX : Xm Tryz.prog 158=some [.int .i64 0,.int .i64 0,.int .i64 0,.int .i64 0,.int .i64 0,.list true [],.list true []]:=kf
@[go_sem] theorem ZnE : YI Tryz.prog 178=some 4:=kf
@[go_sem] theorem Zk0 : XF Tryz.prog 178=some true:=kf
@[go_sem] theorem Zef : ZU Tryz.prog 178 1=some 1:=kf
@[go_sem] theorem Zeg : ZU Tryz.prog 178 2=some 2:=kf
@[go_sem] theorem Zeh : ZU Tryz.prog 178 3=some 3:=kf
@[go_sem] theorem Znm : DV Tryz.prog 178=some (DQ [(0,1),(1,1),(2,1),(3,1)]):=kf
@[go_sem] theorem ZeY : Xm Tryz.prog 178=some [.int .i64 0,.int .i64 0,.int .i64 0,.bool false]:=kf
@[go_sem] theorem ZnF : YI Tryz.prog 188=some 2:=kf
@[go_sem] theorem Zk1 : XF Tryz.prog 188=some true:=kf
@[go_sem] theorem Zei : ZU Tryz.prog 188 0=some 0:=kf
@[go_sem] theorem Zej : ZU Tryz.prog 188 1=some 1:=kf
@[go_sem] theorem ZeZ : Xm Tryz.prog 188=some [.int .i64 0,.int .i64 0]:=kf
@[go_sem] theorem ZnX : Tryz.prog.underlying 192=some (.slice 31):=kf
@[go_sem] theorem Zli : YK Tryz.prog 192=some (none,1):=kf
@[go_sem] theorem Zky : UX Tryz.prog 192=some 1:=kf
@[go_sem] theorem kM : Jd Tryz.prog 192=some (1,24):=kf
@[go_sem] theorem Zcs (H:List AM.Obj) (u:TypeId) (o n:Nat) (y:V):W2 Tryz.prog H 192 u (.sl o 0 n n) y=Uv H (some (1,24)) (oat H o) o n (YS (Tryz.prog.underlying u) H y):=YB kM
@[go_sem] theorem ZnG : YI Tryz.prog 204=some 1:=kf
@[go_sem] theorem Zk2 : XF Tryz.prog 204=some false:=kf
@[go_sem] theorem ZnH : YI Tryz.prog 205=some 1:=kf
@[go_sem] theorem Zk3 : XF Tryz.prog 205=some false:=kf
@[go_sem] theorem Zlj : YK Tryz.prog 205=some (none,1):=kf
@[go_sem] theorem Zek : ZU Tryz.prog 207 0=some 0:=kf
@[go_sem] theorem Zel : ZU Tryz.prog 207 1=some 6:=kf
@[go_sem] theorem Zem : ZU Tryz.prog 207 2=some 7:=kf
@[go_sem] theorem Zen : ZU Tryz.prog 207 3=some 8:=kf
@[go_sem] theorem Zeo : ZU Tryz.prog 207 4=some 9:=kf
@[go_sem] theorem Znn : DV Tryz.prog 207=some (DQ [(0,6),(6,1),(7,1),(8,1),(9,1)]):=kf
@[go_sem] theorem Ze0 : Xm Tryz.prog 207=some [.list true [],.list true [],.list true [],.list true [],.list true [],.list true [],.list true [],.list true [],.nilm,.int .i64 0]:=kf
@[go_sem] theorem Zep : ZU Tryz.prog 229 0=some 0:=kf
@[go_sem] theorem Zeq : ZU Tryz.prog 229 1=some 1:=kf
@[go_sem] theorem Zno : DV Tryz.prog 229=some (DQ [(0,1),(1,1)]):=kf
@[go_sem] theorem Ze1 : Xm Tryz.prog 229=some [.int .i64 0,.str []]:=kf
@[go_sem] theorem ZnY : Tryz.prog.underlying 232=some (.slice 26):=kf
@[go_sem] theorem Zlk : YK Tryz.prog 232=some (none,1):=kf
@[go_sem] theorem Zkz : UX Tryz.prog 232=some 1:=kf
@[go_sem] theorem kN : Jd Tryz.prog 232=some (1,8):=kf
@[go_sem] theorem Zct (H:List AM.Obj) (u:TypeId) (o n:Nat) (y:V):W2 Tryz.prog H 232 u (.sl o 0 n n) y=Uv H (some (1,8)) (oat H o) o n (YS (Tryz.prog.underlying u) H y):=YB kN
@[go_sem] theorem Zer : ZU Tryz.prog 240 0=some 0:=kf
@[go_sem] theorem Zes : ZU Tryz.prog 240 1=some 6:=kf
@[go_sem] theorem Zet : ZU Tryz.prog 240 2=some 7:=kf
@[go_sem] theorem Zeu : ZU Tryz.prog 240 3=some 8:=kf
@[go_sem] theorem Zev : ZU Tryz.prog 240 4=some 9:=kf
@[go_sem] theorem Zew : ZU Tryz.prog 240 5=some 16:=kf
@[go_sem] theorem Znp : DV Tryz.prog 240=some (DQ [(0,6),(6,1),(7,1),(8,1),(9,7),(16,1)]):=kf
@[go_sem] theorem Ze2 : Xm Tryz.prog 240=some [.list true [],.list true [],.list true [],.list true [],.list true [],.list true [],.int .i64 0,.int .i64 0,.int .i64 0,.int .i64 0,.int .i64 0,.int .i64 0,.int .i64 0,.int .i64 0,.list true [],.list true [],.bool false]:=kf
@[go_sem] theorem ZnZ : Tryz.prog.underlying 243=some (.slice 304):=kf
@[go_sem] theorem Zll : YK Tryz.prog 243=some (none,2):=kf
@[go_sem] theorem ZkA : UX Tryz.prog 243=some 2:=kf
@[go_sem] theorem OJ : Jd Tryz.prog 243=some (2,16):=kf
@[go_sem] theorem Zcp (H:List AM.Obj) (u:TypeId) (y:V):W2 Tryz.prog H 243 u (.p (.list true [])) y=Ni H (some (2,16)) (YS (Tryz.prog.underlying u) H y):=D0 OJ
@[go_sem] theorem Zcu (H:List AM.Obj) (u:TypeId) (o n:Nat) (y:V):W2 Tryz.prog H 243 u (.sl o 0 n n) y=Uv H (some (2,16)) (oat H o) o n (YS (Tryz.prog.underlying u) H y):=YB OJ
@[go_sem] theorem ZnI : YI Tryz.prog 267=some 2:=kf
@[go_sem] theorem Zk4 : XF Tryz.prog 267=some true:=kf
@[go_sem] theorem Znq : DV Tryz.prog 267=some (DQ [(0,1),(1,1)]):=kf
@[go_sem] theorem Ze3 : Xm Tryz.prog 267=some [.int .i64 0,.int .i64 0]:=kf
@[go_sem] theorem Zn0 : Tryz.prog.underlying 268=some (.array 4 3):=kf
@[go_sem] theorem ZnJ : YI Tryz.prog 268=some 4:=kf
@[go_sem] theorem Zk5 : XF Tryz.prog 268=some true:=kf
@[go_sem] theorem Znr : DV Tryz.prog 268=some (plA 1):=kf
@[go_sem] theorem Ze4 : Xm Tryz.prog 268=some [.int .i64 0,.int .i64 0,.int .i64 0,.int .i64 0]:=kf
@[go_sem] theorem Zn1 : Tryz.prog.underlying 286=some (.slice 90):=kf
@[go_sem] theorem Zlm : YK Tryz.prog 286=some (none,1):=kf
@[go_sem] theorem ZkB : UX Tryz.prog 286=some 1:=kf
@[go_sem] theorem Zn2 : Tryz.prog.underlying 292=some (.slice 5):=kf
@[go_sem] theorem ZkC : UX Tryz.prog 292=some 1:=kf
@[go_sem] theorem ZnK : YI Tryz.prog 304=some 2:=kf
@[go_sem] theorem Zk6 : XF Tryz.prog 304=some true:=kf
@[go_sem] theorem Zex : ZU Tryz.prog 304 0=some 0:=kf
@[go_sem] theorem Zey : ZU Tryz.prog 304 1=some 1:=kf
@[go_sem] theorem iV : Tryz.prog.stoodInHeld 304=false:=kf
@[go_sem] theorem Zns : DV Tryz.prog 304=some (DQ [(0,1),(1,1)]):=kf
@[go_sem] theorem ZlS (d:Nat) (a b:List PV):Hd Tryz.prog d 304 (Tryz.prog.underlying 304) (.agg a) (.agg b)=FN (jZ (Vs Tryz.prog d 3) (apart Tryz.prog 3 a 0) (apart Tryz.prog 3 b 0)) (FN (jZ (Vs Tryz.prog d 3) (apart Tryz.prog 3 a 1) (apart Tryz.prog 3 b 1)) (some true)):=by rw [Tryz.underlying304,JZ iV];simp [Co,D3]
@[go_sem] theorem Zl4 : Tryz.prog.eqGuardType Tryz.prog.depth 304=false:=kf
@[go_sem] theorem Ze5 : Xm Tryz.prog 304=some [.int .i64 0,.int .i64 0]:=kf
@[go_sem] theorem ZnL : YI Tryz.prog 307=some 4:=kf
@[go_sem] theorem Zk7 : XF Tryz.prog 307=some true:=kf
@[go_sem] theorem Zez : ZU Tryz.prog 307 0=some 0:=kf
@[go_sem] theorem ZeA : ZU Tryz.prog 307 1=some 1:=kf
@[go_sem] theorem ZeB : ZU Tryz.prog 307 2=some 2:=kf
@[go_sem] theorem ZeC : ZU Tryz.prog 307 3=some 3:=kf
@[go_sem] theorem Znt : DV Tryz.prog 307=some (DQ [(0,1),(1,1),(2,1),(3,1)]):=kf
@[go_sem] theorem Ze6 : Xm Tryz.prog 307=some [.int .i64 0,.int .i64 0,.int .i64 0,.int .i64 0]:=kf
@[go_sem] theorem Zln : YK Tryz.prog 318=some ((some 64),1):=kf
@[go_sem] theorem Zn3 : Tryz.prog.underlying 323=some (.slice 57):=kf
@[go_sem] theorem ZnM : YI Tryz.prog 323=some 1:=kf
@[go_sem] theorem Zk8 : XF Tryz.prog 323=some false:=kf
@[go_sem] theorem Zlo : YK Tryz.prog 323=some (none,4):=kf
@[go_sem] theorem ZkD : UX Tryz.prog 323=some 4:=kf
@[go_sem] theorem kO : Jd Tryz.prog 323=some (4,32):=kf
@[go_sem] theorem Zcv (H:List AM.Obj) (u:TypeId) (o n:Nat) (y:V):W2 Tryz.prog H 323 u (.sl o 0 n n) y=Uv H (some (4,32)) (oat H o) o n (YS (Tryz.prog.underlying u) H y):=YB kO
@[go_sem] theorem ZnN : YI Tryz.prog 325=some 25:=kf
@[go_sem] theorem Zk9 : XF Tryz.prog 325=some true:=kf
@[go_sem] theorem ZeD : ZU Tryz.prog 325 0=some 0:=kf
@[go_sem] theorem ZeE : ZU Tryz.prog 325 1=some 6:=kf
@[go_sem] theorem ZeF : ZU Tryz.prog 325 2=some 20:=kf
@[go_sem] theorem ZeG : ZU Tryz.prog 325 3=some 24:=kf
@[go_sem] theorem Znu : DV Tryz.prog 325=some (DQ [(0,6),(6,14),(20,4),(24,1)]):=kf
@[go_sem] theorem Ze7 : Xm Tryz.prog 325=some [.list true [],.list true [],.list true [],.list true [],.list true [],.list true [],.str [],.int .i64 0,.int .i64 0,.int .i64 0,.list true [],.int .i64 0,.int .i64 0,.int .i64 0,.int .i64 0,.int .i64 0,.int .i64 0,.int .i64 0,.int .i64 0,.int .i64 0,.int .i64 0,.int .i64 0,.list true [],.list true [],.list true []]:=kf
@[go_sem] theorem ZnO : YI Tryz.prog 329=some 7:=kf
@[go_sem] theorem Zla : XF Tryz.prog 329=some true:=kf
@[go_sem] theorem ZeH : ZU Tryz.prog 329 0=some 0:=kf
@[go_sem] theorem ZeI : ZU Tryz.prog 329 1=some 1:=kf
@[go_sem] theorem ZeJ : ZU Tryz.prog 329 2=some 2:=kf
@[go_sem] theorem Znv : DV Tryz.prog 329=some (DQ [(0,1),(1,1),(2,5)]):=kf
@[go_sem] theorem Ze8 : Xm Tryz.prog 329=some [.int .i64 0,.int .i64 0,.bool false,.int .i64 0,.list true [],.int .i64 0,.int .i64 0]:=kf
@[go_sem] theorem Zn4 : Tryz.prog.underlying 331=some (.slice 329):=kf
@[go_sem] theorem Zlp : YK Tryz.prog 331=some (none,7):=kf
@[go_sem] theorem ZkE : UX Tryz.prog 331=some 7:=kf
@[go_sem] theorem kP : Jd Tryz.prog 331=some (7,72):=kf
@[go_sem] theorem Zcw (H:List AM.Obj) (u:TypeId) (o n:Nat) (y:V):W2 Tryz.prog H 331 u (.sl o 0 n n) y=Uv H (some (7,72)) (oat H o) o n (YS (Tryz.prog.underlying u) H y):=YB kP
@[go_sem] theorem ZnP : YI Tryz.prog 366=some 3:=kf
@[go_sem] theorem Zlb : XF Tryz.prog 366=some true:=kf
@[go_sem] theorem iW : Tryz.prog.stoodInHeld 366=false:=kf
@[go_sem] theorem Znw : DV Tryz.prog 366=some (DQ [(0,1),(1,1),(2,1)]):=kf
@[go_sem] theorem ZlT (d:Nat) (a b:List PV):Hd Tryz.prog d 366 (Tryz.prog.underlying 366) (.agg a) (.agg b)=FN (jZ (Vs Tryz.prog d 3) (apart Tryz.prog 3 a 0) (apart Tryz.prog 3 b 0)) (FN (jZ (Vs Tryz.prog d 3) (apart Tryz.prog 3 a 1) (apart Tryz.prog 3 b 1)) (FN (jZ (Vs Tryz.prog d 3) (apart Tryz.prog 3 a 2) (apart Tryz.prog 3 b 2)) (some true))):=by rw [Tryz.underlying366,JZ iW];simp [Co,D3]
@[go_sem] theorem Zl5 : Tryz.prog.eqGuardType Tryz.prog.depth 366=false:=kf
@[go_sem] theorem Ze9 : Xm Tryz.prog 366=some [.int .i64 0,.int .i64 0,.int .i64 0]:=kf
theorem Zmp : Zi Tryz.prog 4:=fun args w=>Tryz.call4 args w
theorem Zmq : Zi Tryz.prog 9:=fun args w=>Tryz.call9 args w
theorem Zhd : Zi Tryz.prog 11:=fun args w=>Tryz.call11 args w
theorem Zhe : Zi Tryz.prog 15:=fun args w=>Tryz.call15 args w
theorem Zhf : Zi Tryz.prog 16:=fun args w=>Tryz.call16 args w
theorem Zhg : Zi Tryz.prog 17:=fun args w=>Tryz.call17 args w
theorem Zhh : Zi Tryz.prog 18:=fun args w=>Tryz.call18 args w
theorem Zhi : Zi Tryz.prog 34:=fun args w=>Tryz.call34 args w
theorem Zhj : Zi Tryz.prog 35:=fun args w=>Tryz.call35 args w
theorem Zhk : Zi Tryz.prog 36:=fun args w=>Tryz.call36 args w
theorem Zhl : Zi Tryz.prog 37:=fun args w=>Tryz.call37 args w
theorem Zhm : Zi Tryz.prog 46:=fun args w=>Tryz.call46 args w
theorem Zhn : Zi Tryz.prog 47:=fun args w=>Tryz.call47 args w
theorem Zho : Zi Tryz.prog 48:=fun args w=>Tryz.call48 args w
theorem Zhp : Zi Tryz.prog 49:=fun args w=>Tryz.call49 args w
theorem Zhq : Zi Tryz.prog 50:=fun args w=>Tryz.call50 args w
theorem Zhr : Zi Tryz.prog 51:=fun args w=>Tryz.call51 args w
theorem Zhs : Zi Tryz.prog 53:=fun args w=>Tryz.call53 args w
theorem Zht : Zi Tryz.prog 55:=fun args w=>Tryz.call55 args w
theorem Zhu : Zi Tryz.prog 59:=fun args w=>Tryz.call59 args w
theorem Zhv : Zi Tryz.prog 60:=fun args w=>Tryz.call60 args w
theorem Zhw : Zi Tryz.prog 64:=fun args w=>Tryz.call64 args w
theorem Zhx : Zi Tryz.prog 78:=fun args w=>Tryz.call78 args w
theorem Zhy : Zi Tryz.prog 79:=fun args w=>Tryz.call79 args w
theorem Zhz : Zi Tryz.prog 80:=fun args w=>Tryz.call80 args w
theorem ZhA : Zi Tryz.prog 86:=fun args w=>Tryz.call86 args w
theorem ZhB : Zi Tryz.prog 87:=fun args w=>Tryz.call87 args w
theorem ZhC : Zi Tryz.prog 88:=fun args w=>Tryz.call88 args w
theorem sS : Zi Tryz.prog 89:=fun args w=>Tryz.call89 args w
theorem ZhD : Zi Tryz.prog 90:=fun args w=>Tryz.call90 args w
theorem ZhE : Zi Tryz.prog 92:=fun args w=>Tryz.call92 args w
theorem ZhF : Zi Tryz.prog 95:=fun args w=>Tryz.call95 args w
theorem ZhG : Zi Tryz.prog 99:=fun args w=>Tryz.call99 args w
theorem xB : Zi Tryz.prog 100:=fun args w=>Tryz.call100 args w
theorem xC : Zi Tryz.prog 101:=fun args w=>Tryz.call101 args w
theorem xD : Zi Tryz.prog 102:=fun args w=>Tryz.call102 args w
theorem dQ : Zi Tryz.prog 103:=fun args w=>Tryz.call103 args w
theorem xE : Zi Tryz.prog 104:=fun args w=>Tryz.call104 args w
theorem xF : Zi Tryz.prog 105:=fun args w=>Tryz.call105 args w
theorem xG : Zi Tryz.prog 106:=fun args w=>Tryz.call106 args w
theorem xH : Zi Tryz.prog 107:=fun args w=>Tryz.call107 args w
theorem xI : Zi Tryz.prog 125:=fun args w=>Tryz.call125 args w
theorem xJ : Zi Tryz.prog 126:=fun args w=>Tryz.call126 args w
theorem xK : Zi Tryz.prog 127:=fun args w=>Tryz.call127 args w
theorem xL : Zi Tryz.prog 128:=fun args w=>Tryz.call128 args w
theorem xM : Zi Tryz.prog 129:=fun args w=>Tryz.call129 args w
theorem xN : Zi Tryz.prog 130:=fun args w=>Tryz.call130 args w
theorem xO : Zi Tryz.prog 131:=fun args w=>Tryz.call131 args w
theorem xP : Zi Tryz.prog 133:=fun args w=>Tryz.call133 args w
theorem xQ : Zi Tryz.prog 135:=fun args w=>Tryz.call135 args w
theorem xR : Zi Tryz.prog 136:=fun args w=>Tryz.call136 args w
theorem xS : Zi Tryz.prog 137:=fun args w=>Tryz.call137 args w
theorem xT : Zi Tryz.prog 138:=fun args w=>Tryz.call138 args w
theorem xU : Zi Tryz.prog 139:=fun args w=>Tryz.call139 args w
theorem xV : Zi Tryz.prog 140:=fun args w=>Tryz.call140 args w
theorem xW : Zi Tryz.prog 141:=fun args w=>Tryz.call141 args w
theorem xX : Zi Tryz.prog 142:=fun args w=>Tryz.call142 args w
theorem xY : Zi Tryz.prog 143:=fun args w=>Tryz.call143 args w
theorem xZ : Zi Tryz.prog 144:=fun args w=>Tryz.call144 args w
theorem yA : Zi Tryz.prog 148:=fun args w=>Tryz.call148 args w
theorem yB : Zi Tryz.prog 149:=fun args w=>Tryz.call149 args w
theorem yC : Zi Tryz.prog 150:=fun args w=>Tryz.call150 args w
theorem yD : Zi Tryz.prog 151:=fun args w=>Tryz.call151 args w
theorem yE : Zi Tryz.prog 152:=fun args w=>Tryz.call152 args w
theorem yF : Zi Tryz.prog 153:=fun args w=>Tryz.call153 args w
theorem yG : Zi Tryz.prog 154:=fun args w=>Tryz.call154 args w
theorem yH : Zi Tryz.prog 155:=fun args w=>Tryz.call155 args w
theorem yI : Zi Tryz.prog 158:=fun args w=>Tryz.call158 args w
theorem yJ : Zi Tryz.prog 159:=fun args w=>Tryz.call159 args w
theorem yK : Zi Tryz.prog 164:=fun args w=>Tryz.call164 args w
theorem yL : Zi Tryz.prog 167:=fun args w=>Tryz.call167 args w
theorem yM : Zi Tryz.prog 170:=fun args w=>Tryz.call170 args w
theorem yN : Zi Tryz.prog 171:=fun args w=>Tryz.call171 args w
theorem yO : Zi Tryz.prog 172:=fun args w=>Tryz.call172 args w
theorem yP : Zi Tryz.prog 173:=fun args w=>Tryz.call173 args w
theorem yQ : Zi Tryz.prog 174:=fun args w=>Tryz.call174 args w
theorem yR : Zi Tryz.prog 175:=fun args w=>Tryz.call175 args w
theorem yS : Zi Tryz.prog 176:=fun args w=>Tryz.call176 args w
theorem yT : Zi Tryz.prog 177:=fun args w=>Tryz.call177 args w
theorem yU : Zi Tryz.prog 178:=fun args w=>Tryz.call178 args w
theorem dR : Zi Tryz.prog 179:=fun args w=>Tryz.call179 args w
theorem dS : Zi Tryz.prog 180:=fun args w=>Tryz.call180 args w
theorem yV : Zi Tryz.prog 183:=fun args w=>Tryz.call183 args w
theorem yW : Zi Tryz.prog 184:=fun args w=>Tryz.call184 args w
theorem yX : Zi Tryz.prog 185:=fun args w=>Tryz.call185 args w
theorem yY : Zi Tryz.prog 186:=fun args w=>Tryz.call186 args w
theorem yZ : Zi Tryz.prog 187:=fun args w=>Tryz.call187 args w
theorem zA : Zi Tryz.prog 194:=fun args w=>Tryz.call194 args w
theorem zB : Zi Tryz.prog 195:=fun args w=>Tryz.call195 args w
theorem zC : Zi Tryz.prog 196:=fun args w=>Tryz.call196 args w
theorem zD : Zi Tryz.prog 197:=fun args w=>Tryz.call197 args w
theorem zF : Zi Tryz.prog 198:=fun args w=>Tryz.call198 args w
theorem WT : Zi Tryz.prog 210:=fun args w=>Tryz.call210 args w
theorem zG : Zi Tryz.prog 218:=fun args w=>Tryz.call218 args w
theorem zH : Zi Tryz.prog 219:=fun args w=>Tryz.call219 args w
theorem zJ : Zi Tryz.prog 220:=fun args w=>Tryz.call220 args w
theorem zK : Zi Tryz.prog 221:=fun args w=>Tryz.call221 args w
theorem zL : Zi Tryz.prog 222:=fun args w=>Tryz.call222 args w
theorem zM : Zi Tryz.prog 225:=fun args w=>Tryz.call225 args w
theorem zN : Zi Tryz.prog 226:=fun args w=>Tryz.call226 args w
theorem zO : Zi Tryz.prog 227:=fun args w=>Tryz.call227 args w
theorem zP : Zi Tryz.prog 228:=fun args w=>Tryz.call228 args w
theorem zQ : Zi Tryz.prog 229:=fun args w=>Tryz.call229 args w
theorem zR : Zi Tryz.prog 230:=fun args w=>Tryz.call230 args w
theorem zS : Zi Tryz.prog 231:=fun args w=>Tryz.call231 args w
theorem zT : Zi Tryz.prog 232:=fun args w=>Tryz.call232 args w
theorem zU : Zi Tryz.prog 233:=fun args w=>Tryz.call233 args w
theorem zV : Zi Tryz.prog 234:=fun args w=>Tryz.call234 args w
theorem zW : Zi Tryz.prog 235:=fun args w=>Tryz.call235 args w
theorem dU : Zi Tryz.prog 236:=fun args w=>Tryz.call236 args w
theorem zX : Zi Tryz.prog 237:=fun args w=>Tryz.call237 args w
theorem zY : Zi Tryz.prog 238:=fun args w=>Tryz.call238 args w
theorem zZ : Zi Tryz.prog 239:=fun args w=>Tryz.call239 args w
theorem Zaa : Zi Tryz.prog 240:=fun args w=>Tryz.call240 args w
theorem Zab : Zi Tryz.prog 241:=fun args w=>Tryz.call241 args w
theorem Zac : Zi Tryz.prog 242:=fun args w=>Tryz.call242 args w
theorem Zad : Zi Tryz.prog 243:=fun args w=>Tryz.call243 args w
theorem dV : Zi Tryz.prog 244:=fun args w=>Tryz.call244 args w
theorem Zae : Zi Tryz.prog 247:=fun args w=>Tryz.call247 args w
theorem Zaf : Zi Tryz.prog 248:=fun args w=>Tryz.call248 args w
theorem Zag : Zi Tryz.prog 249:=fun args w=>Tryz.call249 args w
theorem Zah : Zi Tryz.prog 250:=fun args w=>Tryz.call250 args w
theorem Zai : Zi Tryz.prog 258:=fun args w=>Tryz.call258 args w
theorem Zaj : Zi Tryz.prog 259:=fun args w=>Tryz.call259 args w
theorem Zak : Zi Tryz.prog 260:=fun args w=>Tryz.call260 args w
theorem Zal : Zi Tryz.prog 261:=fun args w=>Tryz.call261 args w
theorem Zam : Zi Tryz.prog 262:=fun args w=>Tryz.call262 args w
theorem Zan : Zi Tryz.prog 263:=fun args w=>Tryz.call263 args w
theorem Zao : Zi Tryz.prog 264:=fun args w=>Tryz.call264 args w
theorem Zap : Zi Tryz.prog 265:=fun args w=>Tryz.call265 args w
theorem Zaq : Zi Tryz.prog 266:=fun args w=>Tryz.call266 args w
theorem Zar : Zi Tryz.prog 267:=fun args w=>Tryz.call267 args w
theorem Zas : Zi Tryz.prog 268:=fun args w=>Tryz.call268 args w
theorem dW : Zi Tryz.prog 269:=fun args w=>Tryz.call269 args w
theorem Zat : Zi Tryz.prog 270:=fun args w=>Tryz.call270 args w
theorem Zau : Zi Tryz.prog 271:=fun args w=>Tryz.call271 args w
theorem Zav : Zi Tryz.prog 272:=fun args w=>Tryz.call272 args w
theorem Zaw : Zi Tryz.prog 273:=fun args w=>Tryz.call273 args w
theorem Zax : Zi Tryz.prog 274:=fun args w=>Tryz.call274 args w
theorem Zay : Zi Tryz.prog 275:=fun args w=>Tryz.call275 args w
theorem Zaz : Zi Tryz.prog 276:=fun args w=>Tryz.call276 args w
theorem ZaA : Zi Tryz.prog 277:=fun args w=>Tryz.call277 args w
theorem ZaB : Zi Tryz.prog 278:=fun args w=>Tryz.call278 args w
theorem ZaC : Zi Tryz.prog 279:=fun args w=>Tryz.call279 args w
theorem ZaD : Zi Tryz.prog 280:=fun args w=>Tryz.call280 args w
theorem ZaE : Zi Tryz.prog 283:=fun args w=>Tryz.call283 args w
theorem ZaF : Zi Tryz.prog 284:=fun args w=>Tryz.call284 args w
theorem ZaG : Zi Tryz.prog 286:=fun args w=>Tryz.call286 args w
theorem ZaH : Zi Tryz.prog 287:=fun args w=>Tryz.call287 args w
theorem ZaI : Zi Tryz.prog 288:=fun args w=>Tryz.call288 args w
theorem ZaJ : Zi Tryz.prog 289:=fun args w=>Tryz.call289 args w
theorem ZaK : Zi Tryz.prog 290:=fun args w=>Tryz.call290 args w
theorem ZaL : Zi Tryz.prog 291:=fun args w=>Tryz.call291 args w
theorem ZaM : Zi Tryz.prog 292:=fun args w=>Tryz.call292 args w
theorem ZaN : Zi Tryz.prog 293:=fun args w=>Tryz.call293 args w
theorem ZaO : Zi Tryz.prog 294:=fun args w=>Tryz.call294 args w
theorem ZaP : Zi Tryz.prog 295:=fun args w=>Tryz.call295 args w
theorem ZaQ : Zi Tryz.prog 296:=fun args w=>Tryz.call296 args w
theorem ZaR : Zi Tryz.prog 297:=fun args w=>Tryz.call297 args w
theorem ZaS : Zi Tryz.prog 298:=fun args w=>Tryz.call298 args w
theorem ZaT : Zi Tryz.prog 299:=fun args w=>Tryz.call299 args w
theorem ZaU : Zi Tryz.prog 300:=fun args w=>Tryz.call300 args w
theorem ZaV : Zi Tryz.prog 301:=fun args w=>Tryz.call301 args w
theorem ZaW : Zi Tryz.prog 302:=fun args w=>Tryz.call302 args w
theorem ZaX : Zi Tryz.prog 303:=fun args w=>Tryz.call303 args w
theorem ZaY : Zi Tryz.prog 304:=fun args w=>Tryz.call304 args w
theorem ZaZ : Zi Tryz.prog 305:=fun args w=>Tryz.call305 args w
theorem Za0 : Zi Tryz.prog 307:=fun args w=>Tryz.call307 args w
theorem Za1 : Zi Tryz.prog 308:=fun args w=>Tryz.call308 args w
theorem Za2 : Zi Tryz.prog 309:=fun args w=>Tryz.call309 args w
theorem Za3 : Zi Tryz.prog 310:=fun args w=>Tryz.call310 args w
theorem Za4 : Zi Tryz.prog 311:=fun args w=>Tryz.call311 args w
theorem Za5 : Zi Tryz.prog 312:=fun args w=>Tryz.call312 args w
theorem Za6 : Zi Tryz.prog 313:=fun args w=>Tryz.call313 args w
theorem Za7 : Zi Tryz.prog 314:=fun args w=>Tryz.call314 args w
theorem Za8 : Zi Tryz.prog 315:=fun args w=>Tryz.call315 args w
theorem Za9 : Zi Tryz.prog 316:=fun args w=>Tryz.call316 args w
theorem Zba : Zi Tryz.prog 317:=fun args w=>Tryz.call317 args w
theorem Zbb : Zi Tryz.prog 318:=fun args w=>Tryz.call318 args w
theorem Zbc : Zi Tryz.prog 319:=fun args w=>Tryz.call319 args w
theorem Zbd : Zi Tryz.prog 320:=fun args w=>Tryz.call320 args w
theorem Zbe : Zi Tryz.prog 321:=fun args w=>Tryz.call321 args w
theorem Zbf : Zi Tryz.prog 322:=fun args w=>Tryz.call322 args w
theorem Zbg : Zi Tryz.prog 323:=fun args w=>Tryz.call323 args w
theorem Zbh : Zi Tryz.prog 324:=fun args w=>Tryz.call324 args w
theorem Zbi : Zi Tryz.prog 325:=fun args w=>Tryz.call325 args w
theorem Zbj : Zi Tryz.prog 326:=fun args w=>Tryz.call326 args w
theorem Zbk : Zi Tryz.prog 327:=fun args w=>Tryz.call327 args w
theorem Zbl : Zi Tryz.prog 328:=fun args w=>Tryz.call328 args w
theorem Zbm : Zi Tryz.prog 329:=fun args w=>Tryz.call329 args w
theorem Zbn : Zi Tryz.prog 330:=fun args w=>Tryz.call330 args w
theorem Zbo : Zi Tryz.prog 331:=fun args w=>Tryz.call331 args w
theorem mixed : Tryz.prog.follows .mixedOrders=true:=Zd
end Go.Proofs.YtiigdaohjanidaaGreatDoor.K
