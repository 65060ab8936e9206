/- Declarations that the closing texts need, part 5: joined by tools/slim.py. -/
import Derived.Test.YtmbelkfkhclnkaaGreatDoorZM4
import Derived.KernelRfl
namespace Go.Proofs.YtmbelkfkhclnkaaGreatDoor.K
open Go Go.AM Go.Proofs
abbrev PC (f:FuncId) (a:List V) (y:PV):=ACalls Tryz.prog f a [] fun x H'=>x= .p y/\H'= []
abbrev PT (f:FuncId) (a:List V) (b:List V):=ACalls Tryz.prog f a [] fun x H'=>x= .tup b/\H'= []
theorem kf {α:Type} {a b:α} (h:a=b:=by kernel_rfl):a=b:=Eq.trans h rfl
theorem Zg {p:Prop} (h:p:=by kernel_rfl):p:=h
@[go_sem] theorem tJ : Tryz.prog.underlying 3=some (.int .i64):=kf
@[go_sem] theorem tF : Xi Tryz.prog 3=some 1:=kf
@[go_sem] theorem rH : ZO Tryz.prog 3=some false:=kf
@[go_sem] theorem tK : Tryz.prog.underlying 4=some .bool:=kf
@[go_sem] theorem tG : Xi Tryz.prog 4=some 1:=kf
@[go_sem] theorem rI : ZO Tryz.prog 4=some false:=kf
@[go_sem] theorem tL : Tryz.prog.underlying 5=some (.int .u8):=kf
@[go_sem] theorem tM : Tryz.prog.underlying 9=some .string:=kf
@[go_sem] theorem tH : Xi Tryz.prog 9=some 1:=kf
@[go_sem] theorem rJ : ZO Tryz.prog 9=some false:=kf
@[go_sem] theorem sL : Tryz.prog.underlying 22=some (.slice 31):=kf
@[go_sem] theorem oD : Xx Tryz.prog 22=some (none,9):=kf
@[go_sem] theorem mU : Yi Tryz.prog 22=some 9:=kf
@[go_sem] theorem M4 : Ve Tryz.prog 22=some (9,88):=kf
@[go_sem] theorem TH (H:List AM.Obj) (u:TypeId) (o n:Nat) (y:V):Yt Tryz.prog H 22 u (.sl o 0 n n) y=YW H (some (9,88)) (Xt H o) o n (XP (Tryz.prog.underlying u) H y):=Xk M4
@[go_sem] theorem sM : Tryz.prog.underlying 24=some (.slice 32):=kf
@[go_sem] theorem rS : Xi Tryz.prog 24=some 1:=kf
@[go_sem] theorem nL : ZO Tryz.prog 24=some false:=kf
@[go_sem] theorem oE : Xx Tryz.prog 24=some (none,9):=kf
@[go_sem] theorem mV : Yi Tryz.prog 24=some 9:=kf
@[go_sem] theorem M5 : Ve Tryz.prog 24=some (9,88):=kf
@[go_sem] theorem TI (H:List AM.Obj) (u:TypeId) (o n:Nat) (y:V):Yt Tryz.prog H 24 u (.sl o 0 n n) y=YW H (some (9,88)) (Xt H o) o n (XP (Tryz.prog.underlying u) H y):=Xk M5
@[go_sem] theorem rT : Xi Tryz.prog 26=some 2:=kf
@[go_sem] theorem nM : ZO Tryz.prog 26=some true:=kf
@[go_sem] theorem fA : Zr Tryz.prog 26 0=some 0:=kf
@[go_sem] theorem fB : Zr Tryz.prog 26 1=some 1:=kf
@[go_sem] theorem LP : Tryz.prog.stoodInHeld 26=false:=kf
@[go_sem] theorem rK : QV Tryz.prog 26=some (UT [(0,1),(1,1)]):=kf
@[go_sem] theorem qK (d:Nat) (a b:List PV):J4 Tryz.prog d 26 (Tryz.prog.underlying 26) (.agg a) (.agg b)=UJ (E5 (X4 Tryz.prog d 3) (apart Tryz.prog 3 a 0) (apart Tryz.prog 3 b 0)) (UJ (E5 (X4 Tryz.prog d 4) (apart Tryz.prog 4 a 1) (apart Tryz.prog 4 b 1)) (some true)):=by rw [Tryz.underlying26,WG LP];simp [V8,U0]
@[go_sem] theorem qW : Tryz.prog.eqGuardType Tryz.prog.depth 26=false:=kf
@[go_sem] theorem gS : ZB Tryz.prog 26=some [.int .i64 0,.bool false]:=kf
@[go_sem] theorem rU : Xi Tryz.prog 28=some 4:=kf
@[go_sem] theorem nN : ZO Tryz.prog 28=some true:=kf
@[go_sem] theorem fC : Zr Tryz.prog 28 0=some 0:=kf
@[go_sem] theorem fD : Zr Tryz.prog 28 1=some 1:=kf
@[go_sem] theorem fE : Zr Tryz.prog 28 2=some 2:=kf
@[go_sem] theorem fF : Zr Tryz.prog 28 3=some 3:=kf
@[go_sem] theorem LQ : Tryz.prog.stoodInHeld 28=false:=kf
@[go_sem] theorem rL : QV Tryz.prog 28=some (UT [(0,1),(1,1),(2,1),(3,1)]):=kf
@[go_sem] theorem qL (d:Nat) (a b:List PV):J4 Tryz.prog d 28 (Tryz.prog.underlying 28) (.agg a) (.agg b)=UJ (E5 (X4 Tryz.prog d 3) (apart Tryz.prog 3 a 0) (apart Tryz.prog 3 b 0)) (UJ (E5 (X4 Tryz.prog d 3) (apart Tryz.prog 3 a 1) (apart Tryz.prog 3 b 1)) (UJ (E5 (X4 Tryz.prog d 3) (apart Tryz.prog 3 a 2) (apart Tryz.prog 3 b 2)) (UJ (E5 (X4 Tryz.prog d 4) (apart Tryz.prog 4 a 3) (apart Tryz.prog 4 b 3)) (some true)))):=by rw [Tryz.underlying28,WG LQ];simp [V8,U0]
@[go_sem] theorem qX : Tryz.prog.eqGuardType Tryz.prog.depth 28=false:=kf
@[go_sem] theorem gU : ZB Tryz.prog 28=some [.int .i64 0,.int .i64 0,.int .i64 0,.bool false]:=kf
@[go_sem] theorem sN : Tryz.prog.underlying 29=some (.slice 3):=kf
@[go_sem] theorem rV : Xi Tryz.prog 29=some 1:=kf
@[go_sem] theorem nO : ZO Tryz.prog 29=some false:=kf
@[go_sem] theorem oF : Xx Tryz.prog 29=some (none,1):=kf
@[go_sem] theorem mW : Yi Tryz.prog 29=some 1:=kf
@[go_sem] theorem M6 : Ve Tryz.prog 29=some (1,8):=kf
@[go_sem] theorem TJ (H:List AM.Obj) (u:TypeId) (o n:Nat) (y:V):Yt Tryz.prog H 29 u (.sl o 0 n n) y=YW H (some (1,8)) (Xt H o) o n (XP (Tryz.prog.underlying u) H y):=Xk M6
@[go_sem] theorem IZ : Jz Tryz.prog 29=some (1,8,.int .i64 0):=kf
@[go_sem] theorem qM (H:List AM.Obj) (fr:List V) (x y:Operand):X6 Tryz.prog (.makeSlice 29 x y) fr H=YO (some (1,8,.int .i64 0)) H (ev fr x) (ev fr y):=U5 IZ
@[go_sem] theorem rW : Xi Tryz.prog 31=some 9:=kf
@[go_sem] theorem nP : ZO Tryz.prog 31=some true:=kf
@[go_sem] theorem fG : Zr Tryz.prog 31 0=some 0:=kf
@[go_sem] theorem fH : Zr Tryz.prog 31 1=some 1:=kf
@[go_sem] theorem fI : Zr Tryz.prog 31 2=some 3:=kf
@[go_sem] theorem fJ : Zr Tryz.prog 31 3=some 4:=kf
@[go_sem] theorem fK : Zr Tryz.prog 31 4=some 8:=kf
@[go_sem] theorem rM : QV Tryz.prog 31=some (UT [(0,1),(1,2),(3,1),(4,4),(8,1)]):=kf
@[go_sem] theorem gV : ZB Tryz.prog 31=some [.int .i64 0,.int .i64 0,.bool false,.int .i64 0,.int .i64 0,.int .i64 0,.int .i64 0,.bool false,.list true []]:=kf
@[go_sem] theorem rX : Xi Tryz.prog 32=some 9:=kf
@[go_sem] theorem nQ : ZO Tryz.prog 32=some true:=kf
@[go_sem] theorem fL : Zr Tryz.prog 32 0=some 0:=kf
@[go_sem] theorem fM : Zr Tryz.prog 32 1=some 1:=kf
@[go_sem] theorem fN : Zr Tryz.prog 32 2=some 3:=kf
@[go_sem] theorem fO : Zr Tryz.prog 32 3=some 4:=kf
@[go_sem] theorem fP : Zr Tryz.prog 32 4=some 8:=kf
@[go_sem] theorem rN : QV Tryz.prog 32=some (UT [(0,1),(1,2),(3,1),(4,4),(8,1)]):=kf
@[go_sem] theorem gW : ZB Tryz.prog 32=some [.int .i64 0,.int .i64 0,.bool false,.int .i64 0,.int .i64 0,.int .i64 0,.int .i64 0,.bool false,.list true []]:=kf
@[go_sem] theorem sO : Tryz.prog.underlying 44=some (.slice 94):=kf
@[go_sem] theorem rY : Xi Tryz.prog 44=some 1:=kf
@[go_sem] theorem nR : ZO Tryz.prog 44=some false:=kf
@[go_sem] theorem oG : Xx Tryz.prog 44=some (none,4):=kf
@[go_sem] theorem mX : Yi Tryz.prog 44=some 4:=kf
@[go_sem] theorem rZ : Xi Tryz.prog 46=some 2:=kf
@[go_sem] theorem nS : ZO Tryz.prog 46=some true:=kf
@[go_sem] theorem fQ : Zr Tryz.prog 46 0=some 0:=kf
@[go_sem] theorem rO : QV Tryz.prog 46=some (UT [(0,1),(1,1)]):=kf
@[go_sem] theorem gX : ZB Tryz.prog 46=some [.list true [],.list true []]:=kf
@[go_sem] theorem sP : Tryz.prog.underlying 52=some (.slice 9):=kf
@[go_sem] theorem sA : Xi Tryz.prog 52=some 1:=kf
@[go_sem] theorem nT : ZO Tryz.prog 52=some false:=kf
@[go_sem] theorem oH : Xx Tryz.prog 52=some (none,1):=kf
@[go_sem] theorem mY : Yi Tryz.prog 52=some 1:=kf
@[go_sem] theorem M7 : Ve Tryz.prog 52=some (1,16):=kf
@[go_sem] theorem TK (H:List AM.Obj) (u:TypeId) (o n:Nat) (y:V):Yt Tryz.prog H 52 u (.sl o 0 n n) y=YW H (some (1,16)) (Xt H o) o n (XP (Tryz.prog.underlying u) H y):=Xk M7
@[go_sem] theorem sQ : Tryz.prog.underlying 53=some (.slice 134):=kf
@[go_sem] theorem sB : Xi Tryz.prog 53=some 1:=kf
@[go_sem] theorem nU : ZO Tryz.prog 53=some false:=kf
@[go_sem] theorem oI : Xx Tryz.prog 53=some (none,6):=kf
@[go_sem] theorem mZ : Yi Tryz.prog 53=some 6:=kf
@[go_sem] theorem sC : Xi Tryz.prog 55=some 2:=kf
@[go_sem] theorem nV : ZO Tryz.prog 55=some true:=kf
@[go_sem] theorem fR : Zr Tryz.prog 55 0=some 0:=kf
@[go_sem] theorem fS : Zr Tryz.prog 55 1=some 1:=kf
@[go_sem] theorem rP : QV Tryz.prog 55=some (UT [(0,1),(1,1)]):=kf
@[go_sem] theorem gY : ZB Tryz.prog 55=some [.list true [],.list true []]:=kf
@[go_sem] theorem sR : Tryz.prog.underlying 56=some (.slice 136):=kf
@[go_sem] theorem sD : Xi Tryz.prog 56=some 1:=kf
@[go_sem] theorem nW : ZO Tryz.prog 56=some false:=kf
@[go_sem] theorem oJ : Xx Tryz.prog 56=some (none,14):=kf
@[go_sem] theorem nA : Yi Tryz.prog 56=some 14:=kf
@[go_sem] theorem sS : Tryz.prog.underlying 57=some (.slice 140):=kf
@[go_sem] theorem sE : Xi Tryz.prog 57=some 1:=kf
@[go_sem] theorem nX : ZO Tryz.prog 57=some false:=kf
@[go_sem] theorem oK : Xx Tryz.prog 57=some (none,16):=kf
@[go_sem] theorem nB : Yi Tryz.prog 57=some 16:=kf
@[go_sem] theorem sT : Tryz.prog.underlying 58=some (.slice 224):=kf
@[go_sem] theorem sF : Xi Tryz.prog 58=some 1:=kf
@[go_sem] theorem nY : ZO Tryz.prog 58=some false:=kf
@[go_sem] theorem oL : Xx Tryz.prog 58=some (none,2):=kf
@[go_sem] theorem sG : Xi Tryz.prog 60=some 6:=kf
@[go_sem] theorem nZ : ZO Tryz.prog 60=some true:=kf
@[go_sem] theorem fT : Zr Tryz.prog 60 0=some 0:=kf
@[go_sem] theorem fU : Zr Tryz.prog 60 1=some 2:=kf
@[go_sem] theorem fV : Zr Tryz.prog 60 2=some 3:=kf
@[go_sem] theorem fW : Zr Tryz.prog 60 3=some 4:=kf
@[go_sem] theorem fX : Zr Tryz.prog 60 4=some 5:=kf
@[go_sem] theorem rQ : QV Tryz.prog 60=some (UT [(0,2),(2,1),(3,1),(4,1),(5,1)]):=kf
@[go_sem] theorem gZ : ZB Tryz.prog 60=some [.list true [],.list true [],.list true [],.list true [],.list true [],.list true []]:=kf
@[go_sem] theorem sU : Tryz.prog.underlying 62=some (.slice 178):=kf
@[go_sem] theorem nC : Yi Tryz.prog 62=some 2:=kf
@[go_sem] theorem M8 : Ve Tryz.prog 62=some (2,24):=kf
@[go_sem] theorem TG (H:List AM.Obj) (u:TypeId) (y:V):Yt Tryz.prog H 62 u (.p (.list true [])) y=Fq H (some (2,24)) (XP (Tryz.prog.underlying u) H y):=Fa M8
@[go_sem] theorem sV : Tryz.prog.underlying 75=some (.slice 5):=kf
@[go_sem] theorem nD : Yi Tryz.prog 75=some 1:=kf
@[go_sem] theorem M9 : Ve Tryz.prog 75=some (1,1):=kf
@[go_sem] theorem TL (H:List AM.Obj) (u:TypeId) (o n:Nat) (y:V):Yt Tryz.prog H 75 u (.sl o 0 n n) y=YW H (some (1,1)) (Xt H o) o n (XP (Tryz.prog.underlying u) H y):=Xk M9
@[go_sem] theorem sW : Tryz.prog.underlying 91=some (.slice 4):=kf
@[go_sem] theorem sH : Xi Tryz.prog 91=some 1:=kf
@[go_sem] theorem oA : ZO Tryz.prog 91=some false:=kf
@[go_sem] theorem oM : Xx Tryz.prog 91=some (none,1):=kf
@[go_sem] theorem nE : Yi Tryz.prog 91=some 1:=kf
@[go_sem] theorem I0 : Jz Tryz.prog 91=some (1,1,.bool false):=kf
@[go_sem] theorem qN (H:List AM.Obj) (fr:List V) (x y:Operand):X6 Tryz.prog (.makeSlice 91 x y) fr H=YO (some (1,1,.bool false)) H (ev fr x) (ev fr y):=U5 I0
@[go_sem] theorem sX : Tryz.prog.underlying 92=some (.slice 26):=kf
@[go_sem] theorem sI : Xi Tryz.prog 92=some 1:=kf
@[go_sem] theorem oB : ZO Tryz.prog 92=some false:=kf
@[go_sem] theorem oN : Xx Tryz.prog 92=some (none,2):=kf
@[go_sem] theorem nF : Yi Tryz.prog 92=some 2:=kf
@[go_sem] theorem Na : Ve Tryz.prog 92=some (2,16):=kf
@[go_sem] theorem TM (H:List AM.Obj) (u:TypeId) (o n:Nat) (y:V):Yt Tryz.prog H 92 u (.sl o 0 n n) y=YW H (some (2,16)) (Xt H o) o n (XP (Tryz.prog.underlying u) H y):=Xk Na
@[go_sem] theorem sJ : Xi Tryz.prog 94=some 4:=kf
@[go_sem] theorem oC : ZO Tryz.prog 94=some true:=kf
@[go_sem] theorem fY : Zr Tryz.prog 94 0=some 0:=kf
@[go_sem] theorem fZ : Zr Tryz.prog 94 1=some 1:=kf
@[go_sem] theorem gA : Zr Tryz.prog 94 2=some 2:=kf
@[go_sem] theorem gB : Zr Tryz.prog 94 3=some 3:=kf
@[go_sem] theorem rR : QV Tryz.prog 94=some (UT [(0,1),(1,1),(2,1),(3,1)]):=kf
@[go_sem] theorem hC : ZB Tryz.prog 94=some [.int .i64 0,.int .i64 0,.list true [],.list true []]:=kf
@[go_sem] theorem pC : Xi Tryz.prog 126=some 4:=kf
@[go_sem] theorem kI : ZO Tryz.prog 126=some true:=kf
@[go_sem] theorem Sy : Zr Tryz.prog 126 1=some 1:=kf
@[go_sem] theorem Sz : Zr Tryz.prog 126 2=some 2:=kf
@[go_sem] theorem oP : QV Tryz.prog 126=some (UT [(0,1),(1,1),(2,1),(3,1)]):=kf
@[go_sem] theorem Ts : ZB Tryz.prog 126=some [.int .i64 0,.int .i64 0,.int .i64 0,.int .i64 0]:=kf
@[go_sem] theorem pD : Xi Tryz.prog 131=some 2:=kf
@[go_sem] theorem kJ : ZO Tryz.prog 131=some true:=kf
@[go_sem] theorem SA : Zr Tryz.prog 131 0=some 0:=kf
@[go_sem] theorem SB : Zr Tryz.prog 131 1=some 1:=kf
@[go_sem] theorem oQ : QV Tryz.prog 131=some (UT [(0,1),(1,1)]):=kf
@[go_sem] theorem Tt : ZB Tryz.prog 131=some [.int .i64 0,.int .i64 0]:=kf
@[go_sem] theorem pT : Tryz.prog.underlying 132=some (.slice 131):=kf
@[go_sem] theorem pE : Xi Tryz.prog 132=some 1:=kf
@[go_sem] theorem kK : ZO Tryz.prog 132=some false:=kf
@[go_sem] theorem kY : Xx Tryz.prog 132=some (none,2):=kf
@[go_sem] theorem jQ : Yi Tryz.prog 132=some 2:=kf
@[go_sem] theorem pF : Xi Tryz.prog 134=some 6:=kf
@[go_sem] theorem kL : ZO Tryz.prog 134=some true:=kf
@[go_sem] theorem SC : Zr Tryz.prog 134 0=some 0:=kf
@[go_sem] theorem SD : Zr Tryz.prog 134 1=some 1:=kf
@[go_sem] theorem SE : Zr Tryz.prog 134 2=some 2:=kf
@[go_sem] theorem SF : Zr Tryz.prog 134 3=some 3:=kf
@[go_sem] theorem SG : Zr Tryz.prog 134 4=some 4:=kf
@[go_sem] theorem SH : Zr Tryz.prog 134 5=some 5:=kf
@[go_sem] theorem oS : QV Tryz.prog 134=some (UT [(0,1),(1,1),(2,1),(3,1),(4,1),(5,1)]):=kf
@[go_sem] theorem Tu : ZB Tryz.prog 134=some [.int .i64 0,.int .i64 0,.int .i64 0,.int .i64 0,.list true [],.list true []]:=kf
@[go_sem] theorem pG : Xi Tryz.prog 136=some 14:=kf
@[go_sem] theorem kM : ZO Tryz.prog 136=some true:=kf
@[go_sem] theorem SI : Zr Tryz.prog 136 2=some 2:=kf
@[go_sem] theorem SJ : Zr Tryz.prog 136 3=some 3:=kf
@[go_sem] theorem SK : Zr Tryz.prog 136 4=some 4:=kf
@[go_sem] theorem SL : Zr Tryz.prog 136 5=some 5:=kf
@[go_sem] theorem SM : Zr Tryz.prog 136 6=some 6:=kf
@[go_sem] theorem SN : Zr Tryz.prog 136 7=some 7:=kf
@[go_sem] theorem SO : Zr Tryz.prog 136 8=some 8:=kf
@[go_sem] theorem SP : Zr Tryz.prog 136 9=some 9:=kf
@[go_sem] theorem PZ : Zr Tryz.prog 136 10=some 10:=kf
@[go_sem] theorem P0 : Zr Tryz.prog 136 11=some 11:=kf
@[go_sem] theorem P1 : Zr Tryz.prog 136 12=some 12:=kf
@[go_sem] theorem P2 : Zr Tryz.prog 136 13=some 13:=kf
@[go_sem] theorem oT : QV Tryz.prog 136=some (UT [(0,1),(1,1),(2,1),(3,1),(4,1),(5,1),(6,1),(7,1),(8,1),(9,1),(10,1),(11,1),(12,1),(13,1)]):=kf
@[go_sem] theorem Tv : ZB Tryz.prog 136=some [.str [],.int .i64 0,.int .i64 0,.int .i64 0,.list true [],.int .i64 0,.int .i64 0,.int .i64 0,.int .i64 0,.int .i64 0,.int .i64 0,.int .i64 0,.int .i64 0,.int .i64 0]:=kf
@[go_sem] theorem pH : Xi Tryz.prog 138=some 4:=kf
@[go_sem] theorem kN : ZO Tryz.prog 138=some true:=kf
@[go_sem] theorem SQ : Zr Tryz.prog 138 0=some 0:=kf
@[go_sem] theorem SR : Zr Tryz.prog 138 1=some 1:=kf
@[go_sem] theorem SS : Zr Tryz.prog 138 2=some 2:=kf
@[go_sem] theorem SU : Zr Tryz.prog 138 3=some 3:=kf
@[go_sem] theorem oU : QV Tryz.prog 138=some (UT [(0,1),(1,1),(2,1),(3,1)]):=kf
@[go_sem] theorem Tw : ZB Tryz.prog 138=some [.int .i64 0,.int .i64 0,.int .i64 0,.int .i64 0]:=kf
@[go_sem] theorem pI : Xi Tryz.prog 140=some 16:=kf
@[go_sem] theorem kO : ZO Tryz.prog 140=some true:=kf
@[go_sem] theorem SV : Zr Tryz.prog 140 1=some 1:=kf
@[go_sem] theorem SX : Zr Tryz.prog 140 2=some 2:=kf
@[go_sem] theorem SY : Zr Tryz.prog 140 3=some 6:=kf
@[go_sem] theorem SZ : Zr Tryz.prog 140 4=some 10:=kf
@[go_sem] theorem S0 : Zr Tryz.prog 140 7=some 13:=kf
@[go_sem] theorem S1 : Zr Tryz.prog 140 8=some 14:=kf
@[go_sem] theorem S4 : Zr Tryz.prog 140 9=some 15:=kf
@[go_sem] theorem oV : QV Tryz.prog 140=some (UT [(0,1),(1,1),(2,4),(6,4),(10,1),(11,1),(12,1),(13,1),(14,1),(15,1)]):=kf
@[go_sem] theorem Tx : ZB Tryz.prog 140=some [.str [],.list true [],.int .i64 0,.int .i64 0,.int .i64 0,.int .i64 0,.int .i64 0,.int .i64 0,.int .i64 0,.int .i64 0,.int .i64 0,.int .i64 0,.int .i64 0,.int .i64 0,.int .i64 0,.bool false]:=kf
@[go_sem] theorem pU : Tryz.prog.underlying 141=some (.slice 148):=kf
@[go_sem] theorem kZ : Xx Tryz.prog 141=some (none,10):=kf
@[go_sem] theorem jR : Yi Tryz.prog 141=some 10:=kf
@[go_sem] theorem HU : Ve Tryz.prog 141=some (10,144):=kf
@[go_sem] theorem Rg (H:List AM.Obj) (u:TypeId) (o n:Nat) (y:V):Yt Tryz.prog H 141 u (.sl o 0 n n) y=YW H (some (10,144)) (Xt H o) o n (XP (Tryz.prog.underlying u) H y):=Xk HU
@[go_sem] theorem pV : Tryz.prog.underlying 144=some (.slice 28):=kf
@[go_sem] theorem pJ : Xi Tryz.prog 144=some 1:=kf
@[go_sem] theorem kP : ZO Tryz.prog 144=some false:=kf
@[go_sem] theorem lA : Xx Tryz.prog 144=some (none,4):=kf
@[go_sem] theorem jS : Yi Tryz.prog 144=some 4:=kf
@[go_sem] theorem HV : Ve Tryz.prog 144=some (4,32):=kf
@[go_sem] theorem Rh (H:List AM.Obj) (u:TypeId) (o n:Nat) (y:V):Yt Tryz.prog H 144 u (.sl o 0 n n) y=YW H (some (4,32)) (Xt H o) o n (XP (Tryz.prog.underlying u) H y):=Xk HV
@[go_sem] theorem pK : Xi Tryz.prog 146=some 5:=kf
@[go_sem] theorem kQ : ZO Tryz.prog 146=some true:=kf
@[go_sem] theorem S5 : Zr Tryz.prog 146 0=some 0:=kf
@[go_sem] theorem S6 : Zr Tryz.prog 146 1=some 1:=kf
@[go_sem] theorem S7 : Zr Tryz.prog 146 2=some 2:=kf
@[go_sem] theorem S8 : Zr Tryz.prog 146 3=some 3:=kf
@[go_sem] theorem S9 : Zr Tryz.prog 146 4=some 4:=kf
@[go_sem] theorem oW : QV Tryz.prog 146=some (UT [(0,1),(1,1),(2,1),(3,1),(4,1)]):=kf
@[go_sem] theorem Ty : ZB Tryz.prog 146=some [.bool false,.int .i64 0,.list true [],.int .i64 0,.int .i64 0]:=kf
@[go_sem] theorem pL : Xi Tryz.prog 148=some 10:=kf
@[go_sem] theorem kR : ZO Tryz.prog 148=some true:=kf
@[go_sem] theorem Ta : Zr Tryz.prog 148 0=some 0:=kf
@[go_sem] theorem Tb : Zr Tryz.prog 148 1=some 4:=kf
@[go_sem] theorem Tc : Zr Tryz.prog 148 2=some 9:=kf
@[go_sem] theorem oX : QV Tryz.prog 148=some (UT [(0,4),(4,5),(9,1)]):=kf
@[go_sem] theorem Tz : ZB Tryz.prog 148=some [.int .i64 0,.int .i64 0,.list true [],.list true [],.bool false,.int .i64 0,.list true [],.int .i64 0,.int .i64 0,.list true []]:=kf
@[go_sem] theorem pM : Xi Tryz.prog 157=some 1:=kf
@[go_sem] theorem kS : ZO Tryz.prog 157=some false:=kf
@[go_sem] theorem pW : Tryz.prog.underlying 174=some (.int .u64):=kf
@[go_sem] theorem oY : QV Tryz.prog 178=some (UT [(0,1),(1,1)]):=kf
@[go_sem] theorem TA : ZB Tryz.prog 178=some [.int .i64 0,.str []]:=kf
@[go_sem] theorem pX : Tryz.prog.underlying 191=some (.slice 29):=kf
@[go_sem] theorem lB : Xx Tryz.prog 191=some (none,1):=kf
@[go_sem] theorem jT : Yi Tryz.prog 191=some 1:=kf
@[go_sem] theorem HW : Ve Tryz.prog 191=some (1,24):=kf
@[go_sem] theorem Ri (H:List AM.Obj) (u:TypeId) (o n:Nat) (y:V):Yt Tryz.prog H 191 u (.sl o 0 n n) y=YW H (some (1,24)) (Xt H o) o n (XP (Tryz.prog.underlying u) H y):=Xk HW
@[go_sem] theorem pN : Xi Tryz.prog 224=some 2:=kf
@[go_sem] theorem kT : ZO Tryz.prog 224=some true:=kf
@[go_sem] theorem lC : Xx Tryz.prog 224=some ((some 2),1):=kf
@[go_sem] theorem TB : ZB Tryz.prog 224=some [.int .i64 0,.int .i64 0]:=kf
@[go_sem] theorem pY : Tryz.prog.underlying 225=some (.slice 157):=kf
@[go_sem] theorem lD : Xx Tryz.prog 225=some (none,1):=kf
@[go_sem] theorem jU : Yi Tryz.prog 225=some 1:=kf
@[go_sem] theorem pZ : Tryz.prog.underlying 253=some (.slice 138):=kf
@[go_sem] theorem pO : Xi Tryz.prog 253=some 1:=kf
@[go_sem] theorem kU : ZO Tryz.prog 253=some false:=kf
@[go_sem] theorem lE : Xx Tryz.prog 253=some (none,4):=kf
@[go_sem] theorem jV : Yi Tryz.prog 253=some 4:=kf
@[go_sem] theorem HY : Ve Tryz.prog 253=some (4,32):=kf
@[go_sem] theorem Rj (H:List AM.Obj) (u:TypeId) (o n:Nat) (y:V):Yt Tryz.prog H 253 u (.sl o 0 n n) y=YW H (some (4,32)) (Xt H o) o n (XP (Tryz.prog.underlying u) H y):=Xk HY
@[go_sem] theorem pP : Xi Tryz.prog 255=some 25:=kf
@[go_sem] theorem kV : ZO Tryz.prog 255=some true:=kf
@[go_sem] theorem Td : Zr Tryz.prog 255 0=some 0:=kf
@[go_sem] theorem Te : Zr Tryz.prog 255 1=some 6:=kf
@[go_sem] theorem Tf : Zr Tryz.prog 255 2=some 20:=kf
@[go_sem] theorem Tg : Zr Tryz.prog 255 3=some 24:=kf
@[go_sem] theorem oZ : QV Tryz.prog 255=some (UT [(0,6),(6,14),(20,4),(24,1)]):=kf
@[go_sem] theorem TC : ZB Tryz.prog 255=some [.list true [],.list true [],.list true [],.list true [],.list true [],.list true [],.str [],.int .i64 0,.int .i64 0,.int .i64 0,.list true [],.int .i64 0,.int .i64 0,.int .i64 0,.int .i64 0,.int .i64 0,.int .i64 0,.int .i64 0,.int .i64 0,.int .i64 0,.int .i64 0,.int .i64 0,.list true [],.list true [],.list true []]:=kf
@[go_sem] theorem pQ : Xi Tryz.prog 259=some 7:=kf
@[go_sem] theorem kW : ZO Tryz.prog 259=some true:=kf
@[go_sem] theorem Th : Zr Tryz.prog 259 0=some 0:=kf
@[go_sem] theorem Ti : Zr Tryz.prog 259 1=some 1:=kf
@[go_sem] theorem Tj : Zr Tryz.prog 259 2=some 2:=kf
@[go_sem] theorem pA : QV Tryz.prog 259=some (UT [(0,1),(1,1),(2,5)]):=kf
@[go_sem] theorem TD : ZB Tryz.prog 259=some [.int .i64 0,.int .i64 0,.bool false,.int .i64 0,.list true [],.int .i64 0,.int .i64 0]:=kf
@[go_sem] theorem qA : Tryz.prog.underlying 261=some (.slice 259):=kf
@[go_sem] theorem lF : Xx Tryz.prog 261=some (none,7):=kf
@[go_sem] theorem jW : Yi Tryz.prog 261=some 7:=kf
@[go_sem] theorem HZ : Ve Tryz.prog 261=some (7,72):=kf
@[go_sem] theorem Rk (H:List AM.Obj) (u:TypeId) (o n:Nat) (y:V):Yt Tryz.prog H 261 u (.sl o 0 n n) y=YW H (some (7,72)) (Xt H o) o n (XP (Tryz.prog.underlying u) H y):=Xk HZ
@[go_sem] theorem pR : Xi Tryz.prog 318=some 3:=kf
@[go_sem] theorem kX : ZO Tryz.prog 318=some true:=kf
@[go_sem] theorem Hy : Tryz.prog.stoodInHeld 318=false:=kf
@[go_sem] theorem pB : QV Tryz.prog 318=some (UT [(0,1),(1,1),(2,1)]):=kf
@[go_sem] theorem lR (d:Nat) (a b:List PV):J4 Tryz.prog d 318 (Tryz.prog.underlying 318) (.agg a) (.agg b)=UJ (E5 (X4 Tryz.prog d 3) (apart Tryz.prog 3 a 0) (apart Tryz.prog 3 b 0)) (UJ (E5 (X4 Tryz.prog d 3) (apart Tryz.prog 3 a 1) (apart Tryz.prog 3 b 1)) (UJ (E5 (X4 Tryz.prog d 3) (apart Tryz.prog 3 a 2) (apart Tryz.prog 3 b 2)) (some true))):=by rw [Tryz.underlying318,WG Hy];simp [V8,U0]
@[go_sem] theorem lU : Tryz.prog.eqGuardType Tryz.prog.depth 318=false:=kf
@[go_sem] theorem TE : ZB Tryz.prog 318=some [.int .i64 0,.int .i64 0,.int .i64 0]:=kf
theorem mN : Zf Tryz.prog 3:=fun args w=>Tryz.call3 args w
theorem mO : Zf Tryz.prog 8:=fun args w=>Tryz.call8 args w
theorem mP : Zf Tryz.prog 9:=fun args w=>Tryz.call9 args w
theorem bS : Zf Tryz.prog 10:=fun args w=>Tryz.call10 args w
theorem bT : Zf Tryz.prog 11:=fun args w=>Tryz.call11 args w
theorem bV : Zf Tryz.prog 12:=fun args w=>Tryz.call12 args w
theorem bW : Zf Tryz.prog 13:=fun args w=>Tryz.call13 args w
theorem bX : Zf Tryz.prog 27:=fun args w=>Tryz.call27 args w
theorem bY : Zf Tryz.prog 28:=fun args w=>Tryz.call28 args w
theorem bZ : Zf Tryz.prog 29:=fun args w=>Tryz.call29 args w
theorem cC : Zf Tryz.prog 30:=fun args w=>Tryz.call30 args w
theorem cE : Zf Tryz.prog 31:=fun args w=>Tryz.call31 args w
theorem cF : Zf Tryz.prog 32:=fun args w=>Tryz.call32 args w
theorem My : Zf Tryz.prog 33:=fun args w=>Tryz.call33 args w
theorem cG : Zf Tryz.prog 34:=fun args w=>Tryz.call34 args w
theorem cH : Zf Tryz.prog 35:=fun args w=>Tryz.call35 args w
theorem cI : Zf Tryz.prog 36:=fun args w=>Tryz.call36 args w
theorem cJ : Zf Tryz.prog 40:=fun args w=>Tryz.call40 args w
theorem cK : Zf Tryz.prog 41:=fun args w=>Tryz.call41 args w
theorem cL : Zf Tryz.prog 42:=fun args w=>Tryz.call42 args w
theorem cM : Zf Tryz.prog 44:=fun args w=>Tryz.call44 args w
theorem cN : Zf Tryz.prog 45:=fun args w=>Tryz.call45 args w
theorem cO : Zf Tryz.prog 72:=fun args w=>Tryz.call72 args w
theorem cP : Zf Tryz.prog 73:=fun args w=>Tryz.call73 args w
theorem cQ : Zf Tryz.prog 74:=fun args w=>Tryz.call74 args w
theorem cS : Zf Tryz.prog 75:=fun args w=>Tryz.call75 args w
theorem cU : Zf Tryz.prog 77:=fun args w=>Tryz.call77 args w
theorem cV : Zf Tryz.prog 78:=fun args w=>Tryz.call78 args w
theorem cW : Zf Tryz.prog 79:=fun args w=>Tryz.call79 args w
theorem cX : Zf Tryz.prog 80:=fun args w=>Tryz.call80 args w
theorem Mz : Zf Tryz.prog 89:=fun args w=>Tryz.call89 args w
theorem cY : Zf Tryz.prog 90:=fun args w=>Tryz.call90 args w
theorem cZ : Zf Tryz.prog 91:=fun args w=>Tryz.call91 args w
theorem MA : Zf Tryz.prog 92:=fun args w=>Tryz.call92 args w
theorem dA : Zf Tryz.prog 93:=fun args w=>Tryz.call93 args w
theorem NY : Zf Tryz.prog 112:=fun args w=>Tryz.call112 args w
theorem NZ : Zf Tryz.prog 116:=fun args w=>Tryz.call116 args w
theorem Gn : Zf Tryz.prog 117:=fun args w=>Tryz.call117 args w
theorem N0 : Zf Tryz.prog 119:=fun args w=>Tryz.call119 args w
theorem N1 : Zf Tryz.prog 120:=fun args w=>Tryz.call120 args w
theorem N2 : Zf Tryz.prog 121:=fun args w=>Tryz.call121 args w
theorem N4 : Zf Tryz.prog 122:=fun args w=>Tryz.call122 args w
theorem N5 : Zf Tryz.prog 124:=fun args w=>Tryz.call124 args w
theorem N6 : Zf Tryz.prog 125:=fun args w=>Tryz.call125 args w
theorem N7 : Zf Tryz.prog 126:=fun args w=>Tryz.call126 args w
theorem N8 : Zf Tryz.prog 127:=fun args w=>Tryz.call127 args w
theorem N9 : Zf Tryz.prog 128:=fun args w=>Tryz.call128 args w
theorem Oa : Zf Tryz.prog 129:=fun args w=>Tryz.call129 args w
theorem Gp : Zf Tryz.prog 130:=fun args w=>Tryz.call130 args w
theorem Ob : Zf Tryz.prog 153:=fun args w=>Tryz.call153 args w
theorem Oc : Zf Tryz.prog 154:=fun args w=>Tryz.call154 args w
theorem Od : Zf Tryz.prog 155:=fun args w=>Tryz.call155 args w
theorem Oe : Zf Tryz.prog 156:=fun args w=>Tryz.call156 args w
theorem Of : Zf Tryz.prog 157:=fun args w=>Tryz.call157 args w
theorem Og : Zf Tryz.prog 159:=fun args w=>Tryz.call159 args w
theorem Oh : Zf Tryz.prog 160:=fun args w=>Tryz.call160 args w
theorem Oi : Zf Tryz.prog 161:=fun args w=>Tryz.call161 args w
theorem Oj : Zf Tryz.prog 162:=fun args w=>Tryz.call162 args w
theorem Ol : Zf Tryz.prog 163:=fun args w=>Tryz.call163 args w
theorem Om : Zf Tryz.prog 167:=fun args w=>Tryz.call167 args w
theorem On : Zf Tryz.prog 169:=fun args w=>Tryz.call169 args w
theorem Oo : Zf Tryz.prog 170:=fun args w=>Tryz.call170 args w
theorem Oq : Zf Tryz.prog 179:=fun args w=>Tryz.call179 args w
theorem Ot : Zf Tryz.prog 180:=fun args w=>Tryz.call180 args w
theorem Ou : Zf Tryz.prog 181:=fun args w=>Tryz.call181 args w
theorem Ov : Zf Tryz.prog 182:=fun args w=>Tryz.call182 args w
theorem Ow : Zf Tryz.prog 183:=fun args w=>Tryz.call183 args w
theorem Ox : Zf Tryz.prog 184:=fun args w=>Tryz.call184 args w
theorem Oy : Zf Tryz.prog 185:=fun args w=>Tryz.call185 args w
theorem Oz : Zf Tryz.prog 186:=fun args w=>Tryz.call186 args w
theorem OA : Zf Tryz.prog 187:=fun args w=>Tryz.call187 args w
theorem OB : Zf Tryz.prog 188:=fun args w=>Tryz.call188 args w
theorem OC : Zf Tryz.prog 189:=fun args w=>Tryz.call189 args w
theorem OD : Zf Tryz.prog 190:=fun args w=>Tryz.call190 args w
theorem Gq : Zf Tryz.prog 191:=fun args w=>Tryz.call191 args w
theorem OE : Zf Tryz.prog 192:=fun args w=>Tryz.call192 args w
theorem OF : Zf Tryz.prog 193:=fun args w=>Tryz.call193 args w
theorem OG : Zf Tryz.prog 194:=fun args w=>Tryz.call194 args w
theorem OH : Zf Tryz.prog 195:=fun args w=>Tryz.call195 args w
theorem OI : Zf Tryz.prog 196:=fun args w=>Tryz.call196 args w
theorem OJ : Zf Tryz.prog 197:=fun args w=>Tryz.call197 args w
theorem OK : Zf Tryz.prog 198:=fun args w=>Tryz.call198 args w
theorem OL : Zf Tryz.prog 199:=fun args w=>Tryz.call199 args w
theorem OM : Zf Tryz.prog 202:=fun args w=>Tryz.call202 args w
theorem ON : Zf Tryz.prog 207:=fun args w=>Tryz.call207 args w
theorem OO : Zf Tryz.prog 215:=fun args w=>Tryz.call215 args w
theorem OP : Zf Tryz.prog 216:=fun args w=>Tryz.call216 args w
theorem OQ : Zf Tryz.prog 217:=fun args w=>Tryz.call217 args w
theorem OR : Zf Tryz.prog 218:=fun args w=>Tryz.call218 args w
theorem OS : Zf Tryz.prog 219:=fun args w=>Tryz.call219 args w
theorem OT : Zf Tryz.prog 220:=fun args w=>Tryz.call220 args w
theorem OU : Zf Tryz.prog 221:=fun args w=>Tryz.call221 args w
theorem OV : Zf Tryz.prog 222:=fun args w=>Tryz.call222 args w
theorem OW : Zf Tryz.prog 223:=fun args w=>Tryz.call223 args w
theorem OX : Zf Tryz.prog 224:=fun args w=>Tryz.call224 args w
theorem OY : Zf Tryz.prog 225:=fun args w=>Tryz.call225 args w
theorem OZ : Zf Tryz.prog 226:=fun args w=>Tryz.call226 args w
theorem O0 : Zf Tryz.prog 234:=fun args w=>Tryz.call234 args w
theorem O1 : Zf Tryz.prog 235:=fun args w=>Tryz.call235 args w
theorem O2 : Zf Tryz.prog 236:=fun args w=>Tryz.call236 args w
theorem O3 : Zf Tryz.prog 237:=fun args w=>Tryz.call237 args w
theorem O4 : Zf Tryz.prog 238:=fun args w=>Tryz.call238 args w
theorem O5 : Zf Tryz.prog 239:=fun args w=>Tryz.call239 args w
theorem O6 : Zf Tryz.prog 244:=fun args w=>Tryz.call244 args w
theorem O7 : Zf Tryz.prog 245:=fun args w=>Tryz.call245 args w
theorem O8 : Zf Tryz.prog 246:=fun args w=>Tryz.call246 args w
theorem O9 : Zf Tryz.prog 247:=fun args w=>Tryz.call247 args w
theorem Pa : Zf Tryz.prog 248:=fun args w=>Tryz.call248 args w
theorem Pb : Zf Tryz.prog 249:=fun args w=>Tryz.call249 args w
theorem Pc : Zf Tryz.prog 250:=fun args w=>Tryz.call250 args w
theorem Pd : Zf Tryz.prog 251:=fun args w=>Tryz.call251 args w
theorem Pe : Zf Tryz.prog 252:=fun args w=>Tryz.call252 args w
theorem Pf : Zf Tryz.prog 253:=fun args w=>Tryz.call253 args w
theorem Pg : Zf Tryz.prog 254:=fun args w=>Tryz.call254 args w
theorem mixed : Tryz.prog.follows .mixedOrders=true:=Zg
end Go.Proofs.YtmbelkfkhclnkaaGreatDoor.K
