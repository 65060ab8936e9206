/- Declarations that the closing texts need, part 5: joined by tools/slim.py. -/
import Derived.Test.YtmbelkfkhclnkaaGreatDoorYM4
import Derived.KernelRfl
namespace Go.Proofs.YtmbelkfkhclnkaaGreatDoor.K
open Go Go.AM Go.Proofs
abbrev PC (f:FuncId) (a:List V) (y:PV):=ACalls Tryz.prog f a [] fun x H'=>x= .p y/\H'= []
abbrev PT (f:FuncId) (a:List V) (b:List V):=ACalls Tryz.prog f a [] fun x H'=>x= .tup b/\H'= []
theorem kf {α:Type} {a b:α} (h:a=b:=by kernel_rfl):a=b:=Eq.trans h rfl
theorem Zh {p:Prop} (h:p:=by kernel_rfl):p:=h
@[go_sem] theorem tH : Tryz.prog.underlying 3=some (.int .i64):=kf
@[go_sem] theorem tD : Xk Tryz.prog 3=some 1:=kf
@[go_sem] theorem rF : ZQ Tryz.prog 3=some false:=kf
@[go_sem] theorem tI : Tryz.prog.underlying 4=some .bool:=kf
@[go_sem] theorem tE : Xk Tryz.prog 4=some 1:=kf
@[go_sem] theorem rG : ZQ Tryz.prog 4=some false:=kf
@[go_sem] theorem tJ : Tryz.prog.underlying 5=some (.int .u8):=kf
@[go_sem] theorem tK : Tryz.prog.underlying 9=some .string:=kf
@[go_sem] theorem tF : Xk Tryz.prog 9=some 1:=kf
@[go_sem] theorem rH : ZQ Tryz.prog 9=some false:=kf
@[go_sem] theorem sJ : Tryz.prog.underlying 22=some (.slice 31):=kf
@[go_sem] theorem oB : Xy Tryz.prog 22=some (none,9):=kf
@[go_sem] theorem mS : Yk Tryz.prog 22=some 9:=kf
@[go_sem] theorem Na : Vd Tryz.prog 22=some (9,88):=kf
@[go_sem] theorem TR (H:List AM.Obj) (u:TypeId) (o n:Nat) (y:V):Yt Tryz.prog H 22 u (.sl o 0 n n) y=YU H (some (9,88)) (Xv H o) o n (XT (Tryz.prog.underlying u) H y):=Xl Na
@[go_sem] theorem sK : Tryz.prog.underlying 24=some (.slice 32):=kf
@[go_sem] theorem rQ : Xk Tryz.prog 24=some 1:=kf
@[go_sem] theorem nJ : ZQ Tryz.prog 24=some false:=kf
@[go_sem] theorem oC : Xy Tryz.prog 24=some (none,9):=kf
@[go_sem] theorem mT : Yk Tryz.prog 24=some 9:=kf
@[go_sem] theorem Nb : Vd Tryz.prog 24=some (9,88):=kf
@[go_sem] theorem TS (H:List AM.Obj) (u:TypeId) (o n:Nat) (y:V):Yt Tryz.prog H 24 u (.sl o 0 n n) y=YU H (some (9,88)) (Xv H o) o n (XT (Tryz.prog.underlying u) H y):=Xl Nb
@[go_sem] theorem rR : Xk Tryz.prog 26=some 2:=kf
@[go_sem] theorem nK : ZQ Tryz.prog 26=some true:=kf
@[go_sem] theorem fC : Zt Tryz.prog 26 0=some 0:=kf
@[go_sem] theorem fD : Zt Tryz.prog 26 1=some 1:=kf
@[go_sem] theorem L0 : Tryz.prog.stoodInHeld 26=false:=kf
@[go_sem] theorem rI : Q3 Tryz.prog 26=some (U0 [(0,1),(1,1)]):=kf
@[go_sem] theorem qI (d:Nat) (a b:List PV):J9 Tryz.prog d 26 (Tryz.prog.underlying 26) (.agg a) (.agg b)=UQ (Fl (X9 Tryz.prog d 3) (apart Tryz.prog 3 a 0) (apart Tryz.prog 3 b 0)) (UQ (Fl (X9 Tryz.prog d 4) (apart Tryz.prog 4 a 1) (apart Tryz.prog 4 b 1)) (some true)):=by rw [Tryz.underlying26,WC L0];simp [Ua,U8]
@[go_sem] theorem qU : Tryz.prog.eqGuardType Tryz.prog.depth 26=false:=kf
@[go_sem] theorem gV : ZC Tryz.prog 26=some [.int .i64 0,.bool false]:=kf
@[go_sem] theorem rS : Xk Tryz.prog 28=some 4:=kf
@[go_sem] theorem nL : ZQ Tryz.prog 28=some true:=kf
@[go_sem] theorem fE : Zt Tryz.prog 28 0=some 0:=kf
@[go_sem] theorem fF : Zt Tryz.prog 28 1=some 1:=kf
@[go_sem] theorem fG : Zt Tryz.prog 28 2=some 2:=kf
@[go_sem] theorem fH : Zt Tryz.prog 28 3=some 3:=kf
@[go_sem] theorem L4 : Tryz.prog.stoodInHeld 28=false:=kf
@[go_sem] theorem rJ : Q3 Tryz.prog 28=some (U0 [(0,1),(1,1),(2,1),(3,1)]):=kf
@[go_sem] theorem qJ (d:Nat) (a b:List PV):J9 Tryz.prog d 28 (Tryz.prog.underlying 28) (.agg a) (.agg b)=UQ (Fl (X9 Tryz.prog d 3) (apart Tryz.prog 3 a 0) (apart Tryz.prog 3 b 0)) (UQ (Fl (X9 Tryz.prog d 3) (apart Tryz.prog 3 a 1) (apart Tryz.prog 3 b 1)) (UQ (Fl (X9 Tryz.prog d 3) (apart Tryz.prog 3 a 2) (apart Tryz.prog 3 b 2)) (UQ (Fl (X9 Tryz.prog d 4) (apart Tryz.prog 4 a 3) (apart Tryz.prog 4 b 3)) (some true)))):=by rw [Tryz.underlying28,WC L4];simp [Ua,U8]
@[go_sem] theorem qV : Tryz.prog.eqGuardType Tryz.prog.depth 28=false:=kf
@[go_sem] theorem gW : ZC Tryz.prog 28=some [.int .i64 0,.int .i64 0,.int .i64 0,.bool false]:=kf
@[go_sem] theorem sL : Tryz.prog.underlying 29=some (.slice 3):=kf
@[go_sem] theorem rT : Xk Tryz.prog 29=some 1:=kf
@[go_sem] theorem nM : ZQ Tryz.prog 29=some false:=kf
@[go_sem] theorem oD : Xy Tryz.prog 29=some (none,1):=kf
@[go_sem] theorem mU : Yk Tryz.prog 29=some 1:=kf
@[go_sem] theorem Nc : Vd Tryz.prog 29=some (1,8):=kf
@[go_sem] theorem TT (H:List AM.Obj) (u:TypeId) (o n:Nat) (y:V):Yt Tryz.prog H 29 u (.sl o 0 n n) y=YU H (some (1,8)) (Xv H o) o n (XT (Tryz.prog.underlying u) H y):=Xl Nc
@[go_sem] theorem Le : JE Tryz.prog 29=some (1,8,.int .i64 0):=kf
@[go_sem] theorem qK (H:List AM.Obj) (fr:List V) (x y:Operand):Yb Tryz.prog (.makeSlice 29 x y) fr H=YM (some (1,8,.int .i64 0)) H (ev fr x) (ev fr y):=Qc Le
@[go_sem] theorem rU : Xk Tryz.prog 31=some 9:=kf
@[go_sem] theorem nN : ZQ Tryz.prog 31=some true:=kf
@[go_sem] theorem fI : Zt Tryz.prog 31 0=some 0:=kf
@[go_sem] theorem fJ : Zt Tryz.prog 31 1=some 1:=kf
@[go_sem] theorem fK : Zt Tryz.prog 31 2=some 3:=kf
@[go_sem] theorem fL : Zt Tryz.prog 31 3=some 4:=kf
@[go_sem] theorem fM : Zt Tryz.prog 31 4=some 8:=kf
@[go_sem] theorem rK : Q3 Tryz.prog 31=some (U0 [(0,1),(1,2),(3,1),(4,4),(8,1)]):=kf
@[go_sem] theorem gX : ZC Tryz.prog 31=some [.int .i64 0,.int .i64 0,.bool false,.int .i64 0,.int .i64 0,.int .i64 0,.int .i64 0,.bool false,.list true []]:=kf
@[go_sem] theorem rV : Xk Tryz.prog 32=some 9:=kf
@[go_sem] theorem nO : ZQ Tryz.prog 32=some true:=kf
@[go_sem] theorem fN : Zt Tryz.prog 32 0=some 0:=kf
@[go_sem] theorem fO : Zt Tryz.prog 32 1=some 1:=kf
@[go_sem] theorem fP : Zt Tryz.prog 32 2=some 3:=kf
@[go_sem] theorem fQ : Zt Tryz.prog 32 3=some 4:=kf
@[go_sem] theorem fR : Zt Tryz.prog 32 4=some 8:=kf
@[go_sem] theorem rL : Q3 Tryz.prog 32=some (U0 [(0,1),(1,2),(3,1),(4,4),(8,1)]):=kf
@[go_sem] theorem gY : ZC Tryz.prog 32=some [.int .i64 0,.int .i64 0,.bool false,.int .i64 0,.int .i64 0,.int .i64 0,.int .i64 0,.bool false,.list true []]:=kf
@[go_sem] theorem sM : Tryz.prog.underlying 44=some (.slice 94):=kf
@[go_sem] theorem rW : Xk Tryz.prog 44=some 1:=kf
@[go_sem] theorem nP : ZQ Tryz.prog 44=some false:=kf
@[go_sem] theorem oE : Xy Tryz.prog 44=some (none,4):=kf
@[go_sem] theorem mV : Yk Tryz.prog 44=some 4:=kf
@[go_sem] theorem rX : Xk Tryz.prog 46=some 2:=kf
@[go_sem] theorem nQ : ZQ Tryz.prog 46=some true:=kf
@[go_sem] theorem fS : Zt Tryz.prog 46 0=some 0:=kf
@[go_sem] theorem rM : Q3 Tryz.prog 46=some (U0 [(0,1),(1,1)]):=kf
@[go_sem] theorem gZ : ZC Tryz.prog 46=some [.list true [],.list true []]:=kf
@[go_sem] theorem sN : Tryz.prog.underlying 52=some (.slice 9):=kf
@[go_sem] theorem rY : Xk Tryz.prog 52=some 1:=kf
@[go_sem] theorem nR : ZQ Tryz.prog 52=some false:=kf
@[go_sem] theorem oF : Xy Tryz.prog 52=some (none,1):=kf
@[go_sem] theorem mW : Yk Tryz.prog 52=some 1:=kf
@[go_sem] theorem Nd : Vd Tryz.prog 52=some (1,16):=kf
@[go_sem] theorem TU (H:List AM.Obj) (u:TypeId) (o n:Nat) (y:V):Yt Tryz.prog H 52 u (.sl o 0 n n) y=YU H (some (1,16)) (Xv H o) o n (XT (Tryz.prog.underlying u) H y):=Xl Nd
@[go_sem] theorem sO : Tryz.prog.underlying 53=some (.slice 134):=kf
@[go_sem] theorem rZ : Xk Tryz.prog 53=some 1:=kf
@[go_sem] theorem nS : ZQ Tryz.prog 53=some false:=kf
@[go_sem] theorem oG : Xy Tryz.prog 53=some (none,6):=kf
@[go_sem] theorem mX : Yk Tryz.prog 53=some 6:=kf
@[go_sem] theorem sA : Xk Tryz.prog 55=some 2:=kf
@[go_sem] theorem nT : ZQ Tryz.prog 55=some true:=kf
@[go_sem] theorem fT : Zt Tryz.prog 55 0=some 0:=kf
@[go_sem] theorem fU : Zt Tryz.prog 55 1=some 1:=kf
@[go_sem] theorem rN : Q3 Tryz.prog 55=some (U0 [(0,1),(1,1)]):=kf
@[go_sem] theorem hC : ZC Tryz.prog 55=some [.list true [],.list true []]:=kf
@[go_sem] theorem sP : Tryz.prog.underlying 56=some (.slice 136):=kf
@[go_sem] theorem sB : Xk Tryz.prog 56=some 1:=kf
@[go_sem] theorem nU : ZQ Tryz.prog 56=some false:=kf
@[go_sem] theorem oH : Xy Tryz.prog 56=some (none,14):=kf
@[go_sem] theorem mY : Yk Tryz.prog 56=some 14:=kf
@[go_sem] theorem sQ : Tryz.prog.underlying 57=some (.slice 140):=kf
@[go_sem] theorem sC : Xk Tryz.prog 57=some 1:=kf
@[go_sem] theorem nV : ZQ Tryz.prog 57=some false:=kf
@[go_sem] theorem oI : Xy Tryz.prog 57=some (none,16):=kf
@[go_sem] theorem mZ : Yk Tryz.prog 57=some 16:=kf
@[go_sem] theorem sR : Tryz.prog.underlying 58=some (.slice 224):=kf
@[go_sem] theorem sD : Xk Tryz.prog 58=some 1:=kf
@[go_sem] theorem nW : ZQ Tryz.prog 58=some false:=kf
@[go_sem] theorem oJ : Xy Tryz.prog 58=some (none,2):=kf
@[go_sem] theorem sE : Xk Tryz.prog 60=some 6:=kf
@[go_sem] theorem nX : ZQ Tryz.prog 60=some true:=kf
@[go_sem] theorem fV : Zt Tryz.prog 60 0=some 0:=kf
@[go_sem] theorem fW : Zt Tryz.prog 60 1=some 2:=kf
@[go_sem] theorem fX : Zt Tryz.prog 60 2=some 3:=kf
@[go_sem] theorem fY : Zt Tryz.prog 60 3=some 4:=kf
@[go_sem] theorem fZ : Zt Tryz.prog 60 4=some 5:=kf
@[go_sem] theorem rO : Q3 Tryz.prog 60=some (U0 [(0,2),(2,1),(3,1),(4,1),(5,1)]):=kf
@[go_sem] theorem hJ : ZC Tryz.prog 60=some [.list true [],.list true [],.list true [],.list true [],.list true [],.list true []]:=kf
@[go_sem] theorem sS : Tryz.prog.underlying 62=some (.slice 178):=kf
@[go_sem] theorem nA : Yk Tryz.prog 62=some 2:=kf
@[go_sem] theorem Nf : Vd Tryz.prog 62=some (2,24):=kf
@[go_sem] theorem TQ (H:List AM.Obj) (u:TypeId) (y:V):Yt Tryz.prog H 62 u (.p (.list true [])) y=FG H (some (2,24)) (XT (Tryz.prog.underlying u) H y):=Fs Nf
@[go_sem] theorem sT : Tryz.prog.underlying 75=some (.slice 5):=kf
@[go_sem] theorem nB : Yk Tryz.prog 75=some 1:=kf
@[go_sem] theorem Ng : Vd Tryz.prog 75=some (1,1):=kf
@[go_sem] theorem TV (H:List AM.Obj) (u:TypeId) (o n:Nat) (y:V):Yt Tryz.prog H 75 u (.sl o 0 n n) y=YU H (some (1,1)) (Xv H o) o n (XT (Tryz.prog.underlying u) H y):=Xl Ng
@[go_sem] theorem sU : Tryz.prog.underlying 91=some (.slice 4):=kf
@[go_sem] theorem sF : Xk Tryz.prog 91=some 1:=kf
@[go_sem] theorem nY : ZQ Tryz.prog 91=some false:=kf
@[go_sem] theorem oK : Xy Tryz.prog 91=some (none,1):=kf
@[go_sem] theorem nC : Yk Tryz.prog 91=some 1:=kf
@[go_sem] theorem Lf : JE Tryz.prog 91=some (1,1,.bool false):=kf
@[go_sem] theorem qL (H:List AM.Obj) (fr:List V) (x y:Operand):Yb Tryz.prog (.makeSlice 91 x y) fr H=YM (some (1,1,.bool false)) H (ev fr x) (ev fr y):=Qc Lf
@[go_sem] theorem sV : Tryz.prog.underlying 92=some (.slice 26):=kf
@[go_sem] theorem sG : Xk Tryz.prog 92=some 1:=kf
@[go_sem] theorem nZ : ZQ Tryz.prog 92=some false:=kf
@[go_sem] theorem oL : Xy Tryz.prog 92=some (none,2):=kf
@[go_sem] theorem nD : Yk Tryz.prog 92=some 2:=kf
@[go_sem] theorem Nh : Vd Tryz.prog 92=some (2,16):=kf
@[go_sem] theorem TW (H:List AM.Obj) (u:TypeId) (o n:Nat) (y:V):Yt Tryz.prog H 92 u (.sl o 0 n n) y=YU H (some (2,16)) (Xv H o) o n (XT (Tryz.prog.underlying u) H y):=Xl Nh
@[go_sem] theorem sH : Xk Tryz.prog 94=some 4:=kf
@[go_sem] theorem oA : ZQ Tryz.prog 94=some true:=kf
@[go_sem] theorem gA : Zt Tryz.prog 94 0=some 0:=kf
@[go_sem] theorem gB : Zt Tryz.prog 94 1=some 1:=kf
@[go_sem] theorem gC : Zt Tryz.prog 94 2=some 2:=kf
@[go_sem] theorem gD : Zt Tryz.prog 94 3=some 3:=kf
@[go_sem] theorem rP : Q3 Tryz.prog 94=some (U0 [(0,1),(1,1),(2,1),(3,1)]):=kf
@[go_sem] theorem hP : ZC Tryz.prog 94=some [.int .i64 0,.int .i64 0,.list true [],.list true []]:=kf
@[go_sem] theorem pA : Xk Tryz.prog 126=some 4:=kf
@[go_sem] theorem kK : ZQ Tryz.prog 126=some true:=kf
@[go_sem] theorem SI : Zt Tryz.prog 126 1=some 1:=kf
@[go_sem] theorem SJ : Zt Tryz.prog 126 2=some 2:=kf
@[go_sem] theorem oN : Q3 Tryz.prog 126=some (U0 [(0,1),(1,1),(2,1),(3,1)]):=kf
@[go_sem] theorem TB : ZC Tryz.prog 126=some [.int .i64 0,.int .i64 0,.int .i64 0,.int .i64 0]:=kf
@[go_sem] theorem pB : Xk Tryz.prog 131=some 2:=kf
@[go_sem] theorem kL : ZQ Tryz.prog 131=some true:=kf
@[go_sem] theorem SK : Zt Tryz.prog 131 0=some 0:=kf
@[go_sem] theorem SL : Zt Tryz.prog 131 1=some 1:=kf
@[go_sem] theorem oO : Q3 Tryz.prog 131=some (U0 [(0,1),(1,1)]):=kf
@[go_sem] theorem TC : ZC Tryz.prog 131=some [.int .i64 0,.int .i64 0]:=kf
@[go_sem] theorem pR : Tryz.prog.underlying 132=some (.slice 131):=kf
@[go_sem] theorem pC : Xk Tryz.prog 132=some 1:=kf
@[go_sem] theorem kM : ZQ Tryz.prog 132=some false:=kf
@[go_sem] theorem lA : Xy Tryz.prog 132=some (none,2):=kf
@[go_sem] theorem jS : Yk Tryz.prog 132=some 2:=kf
@[go_sem] theorem pD : Xk Tryz.prog 134=some 6:=kf
@[go_sem] theorem kN : ZQ Tryz.prog 134=some true:=kf
@[go_sem] theorem SM : Zt Tryz.prog 134 0=some 0:=kf
@[go_sem] theorem SN : Zt Tryz.prog 134 1=some 1:=kf
@[go_sem] theorem SO : Zt Tryz.prog 134 2=some 2:=kf
@[go_sem] theorem SP : Zt Tryz.prog 134 3=some 3:=kf
@[go_sem] theorem SQ : Zt Tryz.prog 134 4=some 4:=kf
@[go_sem] theorem SR : Zt Tryz.prog 134 5=some 5:=kf
@[go_sem] theorem oP : Q3 Tryz.prog 134=some (U0 [(0,1),(1,1),(2,1),(3,1),(4,1),(5,1)]):=kf
@[go_sem] theorem TD : ZC Tryz.prog 134=some [.int .i64 0,.int .i64 0,.int .i64 0,.int .i64 0,.list true [],.list true []]:=kf
@[go_sem] theorem pE : Xk Tryz.prog 136=some 14:=kf
@[go_sem] theorem kO : ZQ Tryz.prog 136=some true:=kf
@[go_sem] theorem SS : Zt Tryz.prog 136 2=some 2:=kf
@[go_sem] theorem SU : Zt Tryz.prog 136 3=some 3:=kf
@[go_sem] theorem SV : Zt Tryz.prog 136 4=some 4:=kf
@[go_sem] theorem SX : Zt Tryz.prog 136 5=some 5:=kf
@[go_sem] theorem SY : Zt Tryz.prog 136 6=some 6:=kf
@[go_sem] theorem SZ : Zt Tryz.prog 136 7=some 7:=kf
@[go_sem] theorem S0 : Zt Tryz.prog 136 8=some 8:=kf
@[go_sem] theorem S1 : Zt Tryz.prog 136 9=some 9:=kf
@[go_sem] theorem P6 : Zt Tryz.prog 136 10=some 10:=kf
@[go_sem] theorem P7 : Zt Tryz.prog 136 11=some 11:=kf
@[go_sem] theorem P8 : Zt Tryz.prog 136 12=some 12:=kf
@[go_sem] theorem P9 : Zt Tryz.prog 136 13=some 13:=kf
@[go_sem] theorem oQ : Q3 Tryz.prog 136=some (U0 [(0,1),(1,1),(2,1),(3,1),(4,1),(5,1),(6,1),(7,1),(8,1),(9,1),(10,1),(11,1),(12,1),(13,1)]):=kf
@[go_sem] theorem TE : ZC Tryz.prog 136=some [.str [],.int .i64 0,.int .i64 0,.int .i64 0,.list true [],.int .i64 0,.int .i64 0,.int .i64 0,.int .i64 0,.int .i64 0,.int .i64 0,.int .i64 0,.int .i64 0,.int .i64 0]:=kf
@[go_sem] theorem pF : Xk Tryz.prog 138=some 4:=kf
@[go_sem] theorem kP : ZQ Tryz.prog 138=some true:=kf
@[go_sem] theorem S4 : Zt Tryz.prog 138 0=some 0:=kf
@[go_sem] theorem S5 : Zt Tryz.prog 138 1=some 1:=kf
@[go_sem] theorem S6 : Zt Tryz.prog 138 2=some 2:=kf
@[go_sem] theorem S7 : Zt Tryz.prog 138 3=some 3:=kf
@[go_sem] theorem oS : Q3 Tryz.prog 138=some (U0 [(0,1),(1,1),(2,1),(3,1)]):=kf
@[go_sem] theorem TF : ZC Tryz.prog 138=some [.int .i64 0,.int .i64 0,.int .i64 0,.int .i64 0]:=kf
@[go_sem] theorem pG : Xk Tryz.prog 140=some 16:=kf
@[go_sem] theorem kQ : ZQ Tryz.prog 140=some true:=kf
@[go_sem] theorem S8 : Zt Tryz.prog 140 1=some 1:=kf
@[go_sem] theorem S9 : Zt Tryz.prog 140 2=some 2:=kf
@[go_sem] theorem Ta : Zt Tryz.prog 140 3=some 6:=kf
@[go_sem] theorem Tb : Zt Tryz.prog 140 4=some 10:=kf
@[go_sem] theorem Tc : Zt Tryz.prog 140 7=some 13:=kf
@[go_sem] theorem Td : Zt Tryz.prog 140 8=some 14:=kf
@[go_sem] theorem Te : Zt Tryz.prog 140 9=some 15:=kf
@[go_sem] theorem oT : Q3 Tryz.prog 140=some (U0 [(0,1),(1,1),(2,4),(6,4),(10,1),(11,1),(12,1),(13,1),(14,1),(15,1)]):=kf
@[go_sem] theorem TG : ZC Tryz.prog 140=some [.str [],.list true [],.int .i64 0,.int .i64 0,.int .i64 0,.int .i64 0,.int .i64 0,.int .i64 0,.int .i64 0,.int .i64 0,.int .i64 0,.int .i64 0,.int .i64 0,.int .i64 0,.int .i64 0,.bool false]:=kf
@[go_sem] theorem pS : Tryz.prog.underlying 141=some (.slice 148):=kf
@[go_sem] theorem lB : Xy Tryz.prog 141=some (none,10):=kf
@[go_sem] theorem jT : Yk Tryz.prog 141=some 10:=kf
@[go_sem] theorem If : Vd Tryz.prog 141=some (10,144):=kf
@[go_sem] theorem Ro (H:List AM.Obj) (u:TypeId) (o n:Nat) (y:V):Yt Tryz.prog H 141 u (.sl o 0 n n) y=YU H (some (10,144)) (Xv H o) o n (XT (Tryz.prog.underlying u) H y):=Xl If
@[go_sem] theorem pT : Tryz.prog.underlying 144=some (.slice 28):=kf
@[go_sem] theorem pH : Xk Tryz.prog 144=some 1:=kf
@[go_sem] theorem kR : ZQ Tryz.prog 144=some false:=kf
@[go_sem] theorem lC : Xy Tryz.prog 144=some (none,4):=kf
@[go_sem] theorem jU : Yk Tryz.prog 144=some 4:=kf
@[go_sem] theorem Ig : Vd Tryz.prog 144=some (4,32):=kf
@[go_sem] theorem Rp (H:List AM.Obj) (u:TypeId) (o n:Nat) (y:V):Yt Tryz.prog H 144 u (.sl o 0 n n) y=YU H (some (4,32)) (Xv H o) o n (XT (Tryz.prog.underlying u) H y):=Xl Ig
@[go_sem] theorem pI : Xk Tryz.prog 146=some 5:=kf
@[go_sem] theorem kS : ZQ Tryz.prog 146=some true:=kf
@[go_sem] theorem Tf : Zt Tryz.prog 146 0=some 0:=kf
@[go_sem] theorem Tg : Zt Tryz.prog 146 1=some 1:=kf
@[go_sem] theorem Th : Zt Tryz.prog 146 2=some 2:=kf
@[go_sem] theorem Ti : Zt Tryz.prog 146 3=some 3:=kf
@[go_sem] theorem Tj : Zt Tryz.prog 146 4=some 4:=kf
@[go_sem] theorem oU : Q3 Tryz.prog 146=some (U0 [(0,1),(1,1),(2,1),(3,1),(4,1)]):=kf
@[go_sem] theorem TH : ZC Tryz.prog 146=some [.bool false,.int .i64 0,.list true [],.int .i64 0,.int .i64 0]:=kf
@[go_sem] theorem pJ : Xk Tryz.prog 148=some 10:=kf
@[go_sem] theorem kT : ZQ Tryz.prog 148=some true:=kf
@[go_sem] theorem Tl : Zt Tryz.prog 148 0=some 0:=kf
@[go_sem] theorem Tm : Zt Tryz.prog 148 1=some 4:=kf
@[go_sem] theorem Tn : Zt Tryz.prog 148 2=some 9:=kf
@[go_sem] theorem oV : Q3 Tryz.prog 148=some (U0 [(0,4),(4,5),(9,1)]):=kf
@[go_sem] theorem TI : ZC Tryz.prog 148=some [.int .i64 0,.int .i64 0,.list true [],.list true [],.bool false,.int .i64 0,.list true [],.int .i64 0,.int .i64 0,.list true []]:=kf
@[go_sem] theorem pK : Xk Tryz.prog 157=some 1:=kf
@[go_sem] theorem kU : ZQ Tryz.prog 157=some false:=kf
@[go_sem] theorem pU : Tryz.prog.underlying 174=some (.int .u64):=kf
@[go_sem] theorem oW : Q3 Tryz.prog 178=some (U0 [(0,1),(1,1)]):=kf
@[go_sem] theorem TJ : ZC Tryz.prog 178=some [.int .i64 0,.str []]:=kf
@[go_sem] theorem pV : Tryz.prog.underlying 191=some (.slice 29):=kf
@[go_sem] theorem lD : Xy Tryz.prog 191=some (none,1):=kf
@[go_sem] theorem jV : Yk Tryz.prog 191=some 1:=kf
@[go_sem] theorem Ih : Vd Tryz.prog 191=some (1,24):=kf
@[go_sem] theorem Rq (H:List AM.Obj) (u:TypeId) (o n:Nat) (y:V):Yt Tryz.prog H 191 u (.sl o 0 n n) y=YU H (some (1,24)) (Xv H o) o n (XT (Tryz.prog.underlying u) H y):=Xl Ih
@[go_sem] theorem pL : Xk Tryz.prog 224=some 2:=kf
@[go_sem] theorem kV : ZQ Tryz.prog 224=some true:=kf
@[go_sem] theorem lE : Xy Tryz.prog 224=some ((some 2),1):=kf
@[go_sem] theorem TK : ZC Tryz.prog 224=some [.int .i64 0,.int .i64 0]:=kf
@[go_sem] theorem pW : Tryz.prog.underlying 225=some (.slice 157):=kf
@[go_sem] theorem lF : Xy Tryz.prog 225=some (none,1):=kf
@[go_sem] theorem jW : Yk Tryz.prog 225=some 1:=kf
@[go_sem] theorem pX : Tryz.prog.underlying 253=some (.slice 138):=kf
@[go_sem] theorem pM : Xk Tryz.prog 253=some 1:=kf
@[go_sem] theorem kW : ZQ Tryz.prog 253=some false:=kf
@[go_sem] theorem lG : Xy Tryz.prog 253=some (none,4):=kf
@[go_sem] theorem jX : Yk Tryz.prog 253=some 4:=kf
@[go_sem] theorem Ii : Vd Tryz.prog 253=some (4,32):=kf
@[go_sem] theorem Rr (H:List AM.Obj) (u:TypeId) (o n:Nat) (y:V):Yt Tryz.prog H 253 u (.sl o 0 n n) y=YU H (some (4,32)) (Xv H o) o n (XT (Tryz.prog.underlying u) H y):=Xl Ii
@[go_sem] theorem pN : Xk Tryz.prog 255=some 25:=kf
@[go_sem] theorem kX : ZQ Tryz.prog 255=some true:=kf
@[go_sem] theorem To : Zt Tryz.prog 255 0=some 0:=kf
@[go_sem] theorem Tq : Zt Tryz.prog 255 1=some 6:=kf
@[go_sem] theorem Tr : Zt Tryz.prog 255 2=some 20:=kf
@[go_sem] theorem Ts : Zt Tryz.prog 255 3=some 24:=kf
@[go_sem] theorem oX : Q3 Tryz.prog 255=some (U0 [(0,6),(6,14),(20,4),(24,1)]):=kf
@[go_sem] theorem TL : ZC Tryz.prog 255=some [.list true [],.list true [],.list true [],.list true [],.list true [],.list true [],.str [],.int .i64 0,.int .i64 0,.int .i64 0,.list true [],.int .i64 0,.int .i64 0,.int .i64 0,.int .i64 0,.int .i64 0,.int .i64 0,.int .i64 0,.int .i64 0,.int .i64 0,.int .i64 0,.int .i64 0,.list true [],.list true [],.list true []]:=kf
@[go_sem] theorem pO : Xk Tryz.prog 259=some 7:=kf
@[go_sem] theorem kY : ZQ Tryz.prog 259=some true:=kf
@[go_sem] theorem Tt : Zt Tryz.prog 259 0=some 0:=kf
@[go_sem] theorem Tu : Zt Tryz.prog 259 1=some 1:=kf
@[go_sem] theorem Tv : Zt Tryz.prog 259 2=some 2:=kf
@[go_sem] theorem oY : Q3 Tryz.prog 259=some (U0 [(0,1),(1,1),(2,5)]):=kf
@[go_sem] theorem TM : ZC Tryz.prog 259=some [.int .i64 0,.int .i64 0,.bool false,.int .i64 0,.list true [],.int .i64 0,.int .i64 0]:=kf
@[go_sem] theorem pY : Tryz.prog.underlying 261=some (.slice 259):=kf
@[go_sem] theorem lH : Xy Tryz.prog 261=some (none,7):=kf
@[go_sem] theorem jY : Yk Tryz.prog 261=some 7:=kf
@[go_sem] theorem Ij : Vd Tryz.prog 261=some (7,72):=kf
@[go_sem] theorem Rs (H:List AM.Obj) (u:TypeId) (o n:Nat) (y:V):Yt Tryz.prog H 261 u (.sl o 0 n n) y=YU H (some (7,72)) (Xv H o) o n (XT (Tryz.prog.underlying u) H y):=Xl Ij
@[go_sem] theorem pP : Xk Tryz.prog 318=some 3:=kf
@[go_sem] theorem kZ : ZQ Tryz.prog 318=some true:=kf
@[go_sem] theorem HM : Tryz.prog.stoodInHeld 318=false:=kf
@[go_sem] theorem oZ : Q3 Tryz.prog 318=some (U0 [(0,1),(1,1),(2,1)]):=kf
@[go_sem] theorem lT (d:Nat) (a b:List PV):J9 Tryz.prog d 318 (Tryz.prog.underlying 318) (.agg a) (.agg b)=UQ (Fl (X9 Tryz.prog d 3) (apart Tryz.prog 3 a 0) (apart Tryz.prog 3 b 0)) (UQ (Fl (X9 Tryz.prog d 3) (apart Tryz.prog 3 a 1) (apart Tryz.prog 3 b 1)) (UQ (Fl (X9 Tryz.prog d 3) (apart Tryz.prog 3 a 2) (apart Tryz.prog 3 b 2)) (some true))):=by rw [Tryz.underlying318,WC HM];simp [Ua,U8]
@[go_sem] theorem lV : Tryz.prog.eqGuardType Tryz.prog.depth 318=false:=kf
@[go_sem] theorem TN : ZC Tryz.prog 318=some [.int .i64 0,.int .i64 0,.int .i64 0]:=kf
theorem mO : Zf Tryz.prog 4:=fun args w=>Tryz.call4 args w
theorem mP : Zf Tryz.prog 8:=fun args w=>Tryz.call8 args w
theorem mQ : Zf Tryz.prog 9:=fun args w=>Tryz.call9 args w
theorem bX : Zf Tryz.prog 10:=fun args w=>Tryz.call10 args w
theorem MG : Zf Tryz.prog 12:=fun args w=>Tryz.call12 args w
theorem bY : Zf Tryz.prog 13:=fun args w=>Tryz.call13 args w
theorem bZ : Zf Tryz.prog 14:=fun args w=>Tryz.call14 args w
theorem cC : Zf Tryz.prog 27:=fun args w=>Tryz.call27 args w
theorem cE : Zf Tryz.prog 28:=fun args w=>Tryz.call28 args w
theorem cF : Zf Tryz.prog 29:=fun args w=>Tryz.call29 args w
theorem cG : Zf Tryz.prog 30:=fun args w=>Tryz.call30 args w
theorem cH : Zf Tryz.prog 31:=fun args w=>Tryz.call31 args w
theorem cI : Zf Tryz.prog 32:=fun args w=>Tryz.call32 args w
theorem MH : Zf Tryz.prog 33:=fun args w=>Tryz.call33 args w
theorem cJ : Zf Tryz.prog 34:=fun args w=>Tryz.call34 args w
theorem cK : Zf Tryz.prog 35:=fun args w=>Tryz.call35 args w
theorem cL : Zf Tryz.prog 37:=fun args w=>Tryz.call37 args w
theorem cM : Zf Tryz.prog 40:=fun args w=>Tryz.call40 args w
theorem cN : Zf Tryz.prog 41:=fun args w=>Tryz.call41 args w
theorem cO : Zf Tryz.prog 42:=fun args w=>Tryz.call42 args w
theorem cP : Zf Tryz.prog 45:=fun args w=>Tryz.call45 args w
theorem cQ : Zf Tryz.prog 72:=fun args w=>Tryz.call72 args w
theorem cS : Zf Tryz.prog 73:=fun args w=>Tryz.call73 args w
theorem cU : Zf Tryz.prog 74:=fun args w=>Tryz.call74 args w
theorem cV : Zf Tryz.prog 75:=fun args w=>Tryz.call75 args w
theorem cW : Zf Tryz.prog 77:=fun args w=>Tryz.call77 args w
theorem cX : Zf Tryz.prog 78:=fun args w=>Tryz.call78 args w
theorem cY : Zf Tryz.prog 79:=fun args w=>Tryz.call79 args w
theorem cZ : Zf Tryz.prog 80:=fun args w=>Tryz.call80 args w
theorem dA : Zf Tryz.prog 81:=fun args w=>Tryz.call81 args w
theorem MI : Zf Tryz.prog 89:=fun args w=>Tryz.call89 args w
theorem dB : Zf Tryz.prog 90:=fun args w=>Tryz.call90 args w
theorem dC : Zf Tryz.prog 91:=fun args w=>Tryz.call91 args w
theorem MJ : Zf Tryz.prog 92:=fun args w=>Tryz.call92 args w
theorem dD : Zf Tryz.prog 93:=fun args w=>Tryz.call93 args w
theorem N5 : Zf Tryz.prog 112:=fun args w=>Tryz.call112 args w
theorem N6 : Zf Tryz.prog 116:=fun args w=>Tryz.call116 args w
theorem Gw : Zf Tryz.prog 117:=fun args w=>Tryz.call117 args w
theorem N7 : Zf Tryz.prog 119:=fun args w=>Tryz.call119 args w
theorem N8 : Zf Tryz.prog 120:=fun args w=>Tryz.call120 args w
theorem N9 : Zf Tryz.prog 121:=fun args w=>Tryz.call121 args w
theorem Oa : Zf Tryz.prog 122:=fun args w=>Tryz.call122 args w
theorem Ob : Zf Tryz.prog 124:=fun args w=>Tryz.call124 args w
theorem Oc : Zf Tryz.prog 125:=fun args w=>Tryz.call125 args w
theorem Od : Zf Tryz.prog 126:=fun args w=>Tryz.call126 args w
theorem Oe : Zf Tryz.prog 127:=fun args w=>Tryz.call127 args w
theorem Of : Zf Tryz.prog 128:=fun args w=>Tryz.call128 args w
theorem Og : Zf Tryz.prog 129:=fun args w=>Tryz.call129 args w
theorem Gx : Zf Tryz.prog 130:=fun args w=>Tryz.call130 args w
theorem Oh : Zf Tryz.prog 153:=fun args w=>Tryz.call153 args w
theorem Oi : Zf Tryz.prog 154:=fun args w=>Tryz.call154 args w
theorem Oj : Zf Tryz.prog 155:=fun args w=>Tryz.call155 args w
theorem Ol : Zf Tryz.prog 156:=fun args w=>Tryz.call156 args w
theorem Om : Zf Tryz.prog 157:=fun args w=>Tryz.call157 args w
theorem On : Zf Tryz.prog 159:=fun args w=>Tryz.call159 args w
theorem Oo : Zf Tryz.prog 160:=fun args w=>Tryz.call160 args w
theorem Oq : Zf Tryz.prog 161:=fun args w=>Tryz.call161 args w
theorem Ot : Zf Tryz.prog 162:=fun args w=>Tryz.call162 args w
theorem Ou : Zf Tryz.prog 163:=fun args w=>Tryz.call163 args w
theorem Ov : Zf Tryz.prog 167:=fun args w=>Tryz.call167 args w
theorem Ow : Zf Tryz.prog 169:=fun args w=>Tryz.call169 args w
theorem Ox : Zf Tryz.prog 170:=fun args w=>Tryz.call170 args w
theorem Oy : Zf Tryz.prog 180:=fun args w=>Tryz.call180 args w
theorem Oz : Zf Tryz.prog 181:=fun args w=>Tryz.call181 args w
theorem OA : Zf Tryz.prog 182:=fun args w=>Tryz.call182 args w
theorem OB : Zf Tryz.prog 183:=fun args w=>Tryz.call183 args w
theorem OC : Zf Tryz.prog 184:=fun args w=>Tryz.call184 args w
theorem OD : Zf Tryz.prog 185:=fun args w=>Tryz.call185 args w
theorem OE : Zf Tryz.prog 186:=fun args w=>Tryz.call186 args w
theorem OF : Zf Tryz.prog 187:=fun args w=>Tryz.call187 args w
theorem OG : Zf Tryz.prog 188:=fun args w=>Tryz.call188 args w
theorem OH : Zf Tryz.prog 189:=fun args w=>Tryz.call189 args w
theorem OI : Zf Tryz.prog 190:=fun args w=>Tryz.call190 args w
theorem Gy : Zf Tryz.prog 191:=fun args w=>Tryz.call191 args w
theorem OJ : Zf Tryz.prog 192:=fun args w=>Tryz.call192 args w
theorem OK : Zf Tryz.prog 193:=fun args w=>Tryz.call193 args w
theorem OL : Zf Tryz.prog 194:=fun args w=>Tryz.call194 args w
theorem OM : Zf Tryz.prog 195:=fun args w=>Tryz.call195 args w
theorem ON : Zf Tryz.prog 196:=fun args w=>Tryz.call196 args w
theorem OO : Zf Tryz.prog 197:=fun args w=>Tryz.call197 args w
theorem OP : Zf Tryz.prog 198:=fun args w=>Tryz.call198 args w
theorem OQ : Zf Tryz.prog 199:=fun args w=>Tryz.call199 args w
theorem OR : Zf Tryz.prog 202:=fun args w=>Tryz.call202 args w
theorem OS : Zf Tryz.prog 207:=fun args w=>Tryz.call207 args w
theorem OT : Zf Tryz.prog 215:=fun args w=>Tryz.call215 args w
theorem OU : Zf Tryz.prog 216:=fun args w=>Tryz.call216 args w
theorem OV : Zf Tryz.prog 217:=fun args w=>Tryz.call217 args w
theorem OW : Zf Tryz.prog 218:=fun args w=>Tryz.call218 args w
theorem OX : Zf Tryz.prog 219:=fun args w=>Tryz.call219 args w
theorem OY : Zf Tryz.prog 220:=fun args w=>Tryz.call220 args w
theorem OZ : Zf Tryz.prog 221:=fun args w=>Tryz.call221 args w
theorem O0 : Zf Tryz.prog 222:=fun args w=>Tryz.call222 args w
theorem O1 : Zf Tryz.prog 223:=fun args w=>Tryz.call223 args w
theorem O2 : Zf Tryz.prog 224:=fun args w=>Tryz.call224 args w
theorem O3 : Zf Tryz.prog 225:=fun args w=>Tryz.call225 args w
theorem O4 : Zf Tryz.prog 226:=fun args w=>Tryz.call226 args w
theorem O5 : Zf Tryz.prog 234:=fun args w=>Tryz.call234 args w
theorem O6 : Zf Tryz.prog 235:=fun args w=>Tryz.call235 args w
theorem O7 : Zf Tryz.prog 236:=fun args w=>Tryz.call236 args w
theorem O8 : Zf Tryz.prog 237:=fun args w=>Tryz.call237 args w
theorem O9 : Zf Tryz.prog 238:=fun args w=>Tryz.call238 args w
theorem Pa : Zf Tryz.prog 239:=fun args w=>Tryz.call239 args w
theorem Pb : Zf Tryz.prog 244:=fun args w=>Tryz.call244 args w
theorem Pc : Zf Tryz.prog 245:=fun args w=>Tryz.call245 args w
theorem Pd : Zf Tryz.prog 246:=fun args w=>Tryz.call246 args w
theorem Pe : Zf Tryz.prog 247:=fun args w=>Tryz.call247 args w
theorem Pf : Zf Tryz.prog 248:=fun args w=>Tryz.call248 args w
theorem Pg : Zf Tryz.prog 249:=fun args w=>Tryz.call249 args w
theorem Ph : Zf Tryz.prog 250:=fun args w=>Tryz.call250 args w
theorem Pi : Zf Tryz.prog 251:=fun args w=>Tryz.call251 args w
theorem Pj : Zf Tryz.prog 252:=fun args w=>Tryz.call252 args w
theorem Pk : Zf Tryz.prog 253:=fun args w=>Tryz.call253 args w
theorem Pl : Zf Tryz.prog 254:=fun args w=>Tryz.call254 args w
theorem mixed : Tryz.prog.follows .mixedOrders=true:=Zh
end Go.Proofs.YtmbelkfkhclnkaaGreatDoor.K
