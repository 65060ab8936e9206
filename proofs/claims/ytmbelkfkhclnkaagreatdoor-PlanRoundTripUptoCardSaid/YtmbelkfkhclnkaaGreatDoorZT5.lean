/- Declarations that the closing texts need, part 5: joined by tools/slim.py. -/
import Derived.Test.YtmbelkfkhclnkaaGreatDoorZT4
import Derived.KernelRfl
namespace Go.Proofs.YtmbelkfkhclnkaaGreatDoor.K
open Go Go.AM Go.Proofs
abbrev PC (f:FuncId) (a:List V) (y:PV):=ACalls Tryz.prog f a [] fun x H'=>x= .p y/\H'= []
abbrev PT (f:FuncId) (a:List V) (b:List V):=ACalls Tryz.prog f a [] fun x H'=>x= .tup b/\H'= []
theorem kf {α:Type} {a b:α} (h:a=b:=by kernel_rfl):a=b:=Eq.trans h rfl
theorem Zg {p:Prop} (h:p:=by kernel_rfl):p:=h
@[go_sem] theorem rI : Tryz.prog.underlying 3=some (.int .i64):=kf
@[go_sem] theorem rE : Xq Tryz.prog 3=some 1:=kf
@[go_sem] theorem pQ : ZU Tryz.prog 3=some false:=kf
@[go_sem] theorem rJ : Tryz.prog.underlying 4=some .bool:=kf
@[go_sem] theorem rF : Xq Tryz.prog 4=some 1:=kf
@[go_sem] theorem pR : ZU Tryz.prog 4=some false:=kf
@[go_sem] theorem rK : Tryz.prog.underlying 5=some (.int .u8):=kf
@[go_sem] theorem rL : Tryz.prog.underlying 9=some .string:=kf
@[go_sem] theorem rG : Xq Tryz.prog 9=some 1:=kf
@[go_sem] theorem pS : ZU Tryz.prog 9=some false:=kf
@[go_sem] theorem pZ : Xq Tryz.prog 26=some 2:=kf
@[go_sem] theorem mF : ZU Tryz.prog 26=some true:=kf
@[go_sem] theorem eG : ZC Tryz.prog 26 0=some 0:=kf
@[go_sem] theorem eJ : ZC Tryz.prog 26 1=some 1:=kf
@[go_sem] theorem LL : Tryz.prog.stoodInHeld 26=false:=kf
@[go_sem] theorem pT : Bq Tryz.prog 26=some (KT [(0,1),(1,1)]):=kf
@[go_sem] theorem oU (d:Nat) (a b:List PV):KZ Tryz.prog d 26 (Tryz.prog.underlying 26) (.agg a) (.agg b)=AU (Mp (YL Tryz.prog d 3) (apart Tryz.prog 3 a 0) (apart Tryz.prog 3 b 0)) (AU (Mp (YL Tryz.prog d 4) (apart Tryz.prog 4 a 1) (apart Tryz.prog 4 b 1)) (some true)):=by rw [Tryz.underlying26,UP LL];simp [Jo,K0]
@[go_sem] theorem pG : Tryz.prog.eqGuardType Tryz.prog.depth 26=false:=kf
@[go_sem] theorem fO : ZQ Tryz.prog 26=some [.int .i64 0,.bool false]:=kf
@[go_sem] theorem eK : ZC Tryz.prog 28 2=some 2:=kf
@[go_sem] theorem eL : ZC Tryz.prog 28 3=some 3:=kf
@[go_sem] theorem pU : Bq Tryz.prog 28=some (KT [(0,1),(1,1),(2,1),(3,1)]):=kf
@[go_sem] theorem fP : ZQ Tryz.prog 28=some [.int .i64 0,.int .i64 0,.int .i64 0,.bool false]:=kf
@[go_sem] theorem qO : Tryz.prog.underlying 29=some (.slice 3):=kf
@[go_sem] theorem qA : Xq Tryz.prog 29=some 1:=kf
@[go_sem] theorem mG : ZU Tryz.prog 29=some false:=kf
@[go_sem] theorem mT : XL Tryz.prog 29=some (none,1):=kf
@[go_sem] theorem lR : WJ Tryz.prog 29=some 1:=kf
@[go_sem] theorem MS : Vo Tryz.prog 29=some (1,8):=kf
@[go_sem] theorem Tn (H:List AM.Obj) (u:TypeId) (o n:Nat) (y:V):YE Tryz.prog H 29 u (.sl o 0 n n) y=Y7 H (some (1,8)) (Xn H o) o n (X6 (Tryz.prog.underlying u) H y):=Xu MS
@[go_sem] theorem I5 : JK Tryz.prog 29=some (1,8,.int .i64 0):=kf
@[go_sem] theorem oV (H:List AM.Obj) (fr:List V) (x y:Operand):Yc Tryz.prog (.makeSlice 29 x y) fr H=YN (some (1,8,.int .i64 0)) H (ev fr x) (ev fr y):=Qj I5
@[go_sem] theorem fQ : ZQ Tryz.prog 29=some [.list true []]:=kf
@[go_sem] theorem qP : Tryz.prog.underlying 44=some (.slice 94):=kf
@[go_sem] theorem qB : Xq Tryz.prog 44=some 1:=kf
@[go_sem] theorem mH : ZU Tryz.prog 44=some false:=kf
@[go_sem] theorem mU : XL Tryz.prog 44=some (none,4):=kf
@[go_sem] theorem lS : WJ Tryz.prog 44=some 4:=kf
@[go_sem] theorem MT : Vo Tryz.prog 44=some (4,64):=kf
@[go_sem] theorem To (H:List AM.Obj) (u:TypeId) (o n:Nat) (y:V):YE Tryz.prog H 44 u (.sl o 0 n n) y=Y7 H (some (4,64)) (Xn H o) o n (X6 (Tryz.prog.underlying u) H y):=Xu MT
@[go_sem] theorem qC : Xq Tryz.prog 46=some 2:=kf
@[go_sem] theorem mI : ZU Tryz.prog 46=some true:=kf
@[go_sem] theorem eM : ZC Tryz.prog 46 0=some 0:=kf
@[go_sem] theorem eN : ZC Tryz.prog 46 1=some 1:=kf
@[go_sem] theorem pV : Bq Tryz.prog 46=some (KT [(0,1),(1,1)]):=kf
@[go_sem] theorem fR : ZQ Tryz.prog 46=some [.list true [],.list true []]:=kf
@[go_sem] theorem qQ : Tryz.prog.underlying 52=some (.slice 9):=kf
@[go_sem] theorem qD : Xq Tryz.prog 52=some 1:=kf
@[go_sem] theorem mJ : ZU Tryz.prog 52=some false:=kf
@[go_sem] theorem mV : XL Tryz.prog 52=some (none,1):=kf
@[go_sem] theorem lT : WJ Tryz.prog 52=some 1:=kf
@[go_sem] theorem MU : Vo Tryz.prog 52=some (1,16):=kf
@[go_sem] theorem Tq (H:List AM.Obj) (u:TypeId) (o n:Nat) (y:V):YE Tryz.prog H 52 u (.sl o 0 n n) y=Y7 H (some (1,16)) (Xn H o) o n (X6 (Tryz.prog.underlying u) H y):=Xu MU
@[go_sem] theorem qR : Tryz.prog.underlying 53=some (.slice 134):=kf
@[go_sem] theorem qE : Xq Tryz.prog 53=some 1:=kf
@[go_sem] theorem mK : ZU Tryz.prog 53=some false:=kf
@[go_sem] theorem mW : XL Tryz.prog 53=some (none,6):=kf
@[go_sem] theorem qF : Xq Tryz.prog 55=some 2:=kf
@[go_sem] theorem mL : ZU Tryz.prog 55=some true:=kf
@[go_sem] theorem eO : ZC Tryz.prog 55 0=some 0:=kf
@[go_sem] theorem eQ : ZC Tryz.prog 55 1=some 1:=kf
@[go_sem] theorem pW : Bq Tryz.prog 55=some (KT [(0,1),(1,1)]):=kf
@[go_sem] theorem fS : ZQ Tryz.prog 55=some [.list true [],.list true []]:=kf
@[go_sem] theorem qS : Tryz.prog.underlying 56=some (.slice 136):=kf
@[go_sem] theorem qG : Xq Tryz.prog 56=some 1:=kf
@[go_sem] theorem mM : ZU Tryz.prog 56=some false:=kf
@[go_sem] theorem mX : XL Tryz.prog 56=some (none,14):=kf
@[go_sem] theorem lU : WJ Tryz.prog 56=some 14:=kf
@[go_sem] theorem qT : Tryz.prog.underlying 57=some (.slice 140):=kf
@[go_sem] theorem qH : Xq Tryz.prog 57=some 1:=kf
@[go_sem] theorem mN : ZU Tryz.prog 57=some false:=kf
@[go_sem] theorem mY : XL Tryz.prog 57=some (none,16):=kf
@[go_sem] theorem qU : Tryz.prog.underlying 58=some (.slice 224):=kf
@[go_sem] theorem qI : Xq Tryz.prog 58=some 1:=kf
@[go_sem] theorem mO : ZU Tryz.prog 58=some false:=kf
@[go_sem] theorem mZ : XL Tryz.prog 58=some (none,2):=kf
@[go_sem] theorem qJ : Xq Tryz.prog 60=some 6:=kf
@[go_sem] theorem mP : ZU Tryz.prog 60=some true:=kf
@[go_sem] theorem eR : ZC Tryz.prog 60 0=some 0:=kf
@[go_sem] theorem eT : ZC Tryz.prog 60 1=some 2:=kf
@[go_sem] theorem eU : ZC Tryz.prog 60 2=some 3:=kf
@[go_sem] theorem eV : ZC Tryz.prog 60 3=some 4:=kf
@[go_sem] theorem eW : ZC Tryz.prog 60 4=some 5:=kf
@[go_sem] theorem pX : Bq Tryz.prog 60=some (KT [(0,2),(2,1),(3,1),(4,1),(5,1)]):=kf
@[go_sem] theorem fT : ZQ Tryz.prog 60=some [.list true [],.list true [],.list true [],.list true [],.list true [],.list true []]:=kf
@[go_sem] theorem qV : Tryz.prog.underlying 62=some (.slice 178):=kf
@[go_sem] theorem lV : WJ Tryz.prog 62=some 2:=kf
@[go_sem] theorem MV : Vo Tryz.prog 62=some (2,24):=kf
@[go_sem] theorem Tm (H:List AM.Obj) (u:TypeId) (y:V):YE Tryz.prog H 62 u (.p (.list true [])) y=Fm H (some (2,24)) (X6 (Tryz.prog.underlying u) H y):=E6 MV
@[go_sem] theorem qW : Tryz.prog.underlying 75=some (.slice 5):=kf
@[go_sem] theorem lW : WJ Tryz.prog 75=some 1:=kf
@[go_sem] theorem MW : Vo Tryz.prog 75=some (1,1):=kf
@[go_sem] theorem Tr (H:List AM.Obj) (u:TypeId) (o n:Nat) (y:V):YE Tryz.prog H 75 u (.sl o 0 n n) y=Y7 H (some (1,1)) (Xn H o) o n (X6 (Tryz.prog.underlying u) H y):=Xu MW
@[go_sem] theorem qX : Tryz.prog.underlying 91=some (.slice 4):=kf
@[go_sem] theorem qK : Xq Tryz.prog 91=some 1:=kf
@[go_sem] theorem mQ : ZU Tryz.prog 91=some false:=kf
@[go_sem] theorem nA : XL Tryz.prog 91=some (none,1):=kf
@[go_sem] theorem lX : WJ Tryz.prog 91=some 1:=kf
@[go_sem] theorem MX : Vo Tryz.prog 91=some (1,1):=kf
@[go_sem] theorem Ts (H:List AM.Obj) (u:TypeId) (o n:Nat) (y:V):YE Tryz.prog H 91 u (.sl o 0 n n) y=Y7 H (some (1,1)) (Xn H o) o n (X6 (Tryz.prog.underlying u) H y):=Xu MX
@[go_sem] theorem I6 : JK Tryz.prog 91=some (1,1,.bool false):=kf
@[go_sem] theorem oW (H:List AM.Obj) (fr:List V) (x y:Operand):Yc Tryz.prog (.makeSlice 91 x y) fr H=YN (some (1,1,.bool false)) H (ev fr x) (ev fr y):=Qj I6
@[go_sem] theorem qY : Tryz.prog.underlying 92=some (.slice 26):=kf
@[go_sem] theorem qL : Xq Tryz.prog 92=some 1:=kf
@[go_sem] theorem mR : ZU Tryz.prog 92=some false:=kf
@[go_sem] theorem nB : XL Tryz.prog 92=some (none,2):=kf
@[go_sem] theorem lY : WJ Tryz.prog 92=some 2:=kf
@[go_sem] theorem MY : Vo Tryz.prog 92=some (2,16):=kf
@[go_sem] theorem Tt (H:List AM.Obj) (u:TypeId) (o n:Nat) (y:V):YE Tryz.prog H 92 u (.sl o 0 n n) y=Y7 H (some (2,16)) (Xn H o) o n (X6 (Tryz.prog.underlying u) H y):=Xu MY
@[go_sem] theorem qM : Xq Tryz.prog 94=some 4:=kf
@[go_sem] theorem mS : ZU Tryz.prog 94=some true:=kf
@[go_sem] theorem eX : ZC Tryz.prog 94 0=some 0:=kf
@[go_sem] theorem eY : ZC Tryz.prog 94 1=some 1:=kf
@[go_sem] theorem eZ : ZC Tryz.prog 94 2=some 2:=kf
@[go_sem] theorem fA : ZC Tryz.prog 94 3=some 3:=kf
@[go_sem] theorem pY : Bq Tryz.prog 94=some (KT [(0,1),(1,1),(2,1),(3,1)]):=kf
@[go_sem] theorem fU : ZQ Tryz.prog 94=some [.int .i64 0,.int .i64 0,.list true [],.list true []]:=kf
@[go_sem] theorem nL : Xq Tryz.prog 126=some 4:=kf
@[go_sem] theorem jF : ZU Tryz.prog 126=some true:=kf
@[go_sem] theorem Sj : ZC Tryz.prog 126 1=some 1:=kf
@[go_sem] theorem Sk : ZC Tryz.prog 126 2=some 2:=kf
@[go_sem] theorem nD : Bq Tryz.prog 126=some (KT [(0,1),(1,1),(2,1),(3,1)]):=kf
@[go_sem] theorem S8 : ZQ Tryz.prog 126=some [.int .i64 0,.int .i64 0,.int .i64 0,.int .i64 0]:=kf
@[go_sem] theorem nM : Xq Tryz.prog 131=some 2:=kf
@[go_sem] theorem jG : ZU Tryz.prog 131=some true:=kf
@[go_sem] theorem Sl : ZC Tryz.prog 131 0=some 0:=kf
@[go_sem] theorem Sm : ZC Tryz.prog 131 1=some 1:=kf
@[go_sem] theorem S9 : ZQ Tryz.prog 131=some [.int .i64 0,.int .i64 0]:=kf
@[go_sem] theorem oC : Tryz.prog.underlying 132=some (.slice 131):=kf
@[go_sem] theorem nN : Xq Tryz.prog 132=some 1:=kf
@[go_sem] theorem jH : ZU Tryz.prog 132=some false:=kf
@[go_sem] theorem jU : XL Tryz.prog 132=some (none,2):=kf
@[go_sem] theorem nO : Xq Tryz.prog 134=some 6:=kf
@[go_sem] theorem jI : ZU Tryz.prog 134=some true:=kf
@[go_sem] theorem Sn : ZC Tryz.prog 134 0=some 0:=kf
@[go_sem] theorem So : ZC Tryz.prog 134 1=some 1:=kf
@[go_sem] theorem Sp : ZC Tryz.prog 134 2=some 2:=kf
@[go_sem] theorem Sq : ZC Tryz.prog 134 3=some 3:=kf
@[go_sem] theorem Sr : ZC Tryz.prog 134 4=some 4:=kf
@[go_sem] theorem Ss : ZC Tryz.prog 134 5=some 5:=kf
@[go_sem] theorem nE : Bq Tryz.prog 134=some (KT [(0,1),(1,1),(2,1),(3,1),(4,1),(5,1)]):=kf
@[go_sem] theorem Ta : ZQ Tryz.prog 134=some [.int .i64 0,.int .i64 0,.int .i64 0,.int .i64 0,.list true [],.list true []]:=kf
@[go_sem] theorem nP : Xq Tryz.prog 136=some 14:=kf
@[go_sem] theorem jJ : ZU Tryz.prog 136=some true:=kf
@[go_sem] theorem St : ZC Tryz.prog 136 1=some 1:=kf
@[go_sem] theorem Su : ZC Tryz.prog 136 2=some 2:=kf
@[go_sem] theorem Sv : ZC Tryz.prog 136 3=some 3:=kf
@[go_sem] theorem Sw : ZC Tryz.prog 136 4=some 4:=kf
@[go_sem] theorem Sx : ZC Tryz.prog 136 5=some 5:=kf
@[go_sem] theorem Sy : ZC Tryz.prog 136 6=some 6:=kf
@[go_sem] theorem Sz : ZC Tryz.prog 136 7=some 7:=kf
@[go_sem] theorem SA : ZC Tryz.prog 136 8=some 8:=kf
@[go_sem] theorem SB : ZC Tryz.prog 136 9=some 9:=kf
@[go_sem] theorem PJ : ZC Tryz.prog 136 10=some 10:=kf
@[go_sem] theorem PK : ZC Tryz.prog 136 11=some 11:=kf
@[go_sem] theorem PL : ZC Tryz.prog 136 12=some 12:=kf
@[go_sem] theorem PM : ZC Tryz.prog 136 13=some 13:=kf
@[go_sem] theorem nF : Bq Tryz.prog 136=some (KT [(0,1),(1,1),(2,1),(3,1),(4,1),(5,1),(6,1),(7,1),(8,1),(9,1),(10,1),(11,1),(12,1),(13,1)]):=kf
@[go_sem] theorem Tb : ZQ Tryz.prog 136=some [.str [],.int .i64 0,.int .i64 0,.int .i64 0,.list true [],.int .i64 0,.int .i64 0,.int .i64 0,.int .i64 0,.int .i64 0,.int .i64 0,.int .i64 0,.int .i64 0,.int .i64 0]:=kf
@[go_sem] theorem nQ : Xq Tryz.prog 138=some 4:=kf
@[go_sem] theorem jK : ZU Tryz.prog 138=some true:=kf
@[go_sem] theorem SC : ZC Tryz.prog 138 0=some 0:=kf
@[go_sem] theorem SD : ZC Tryz.prog 138 1=some 1:=kf
@[go_sem] theorem SE : ZC Tryz.prog 138 2=some 2:=kf
@[go_sem] theorem SF : ZC Tryz.prog 138 3=some 3:=kf
@[go_sem] theorem Tc : ZQ Tryz.prog 138=some [.int .i64 0,.int .i64 0,.int .i64 0,.int .i64 0]:=kf
@[go_sem] theorem nR : Xq Tryz.prog 140=some 16:=kf
@[go_sem] theorem jL : ZU Tryz.prog 140=some true:=kf
@[go_sem] theorem SG : ZC Tryz.prog 140 1=some 1:=kf
@[go_sem] theorem SH : ZC Tryz.prog 140 2=some 2:=kf
@[go_sem] theorem SI : ZC Tryz.prog 140 3=some 6:=kf
@[go_sem] theorem SJ : ZC Tryz.prog 140 4=some 10:=kf
@[go_sem] theorem SK : ZC Tryz.prog 140 5=some 11:=kf
@[go_sem] theorem SL : ZC Tryz.prog 140 7=some 13:=kf
@[go_sem] theorem SM : ZC Tryz.prog 140 8=some 14:=kf
@[go_sem] theorem SN : ZC Tryz.prog 140 9=some 15:=kf
@[go_sem] theorem Td : ZQ Tryz.prog 140=some [.str [],.list true [],.int .i64 0,.int .i64 0,.int .i64 0,.int .i64 0,.int .i64 0,.int .i64 0,.int .i64 0,.int .i64 0,.int .i64 0,.int .i64 0,.int .i64 0,.int .i64 0,.int .i64 0,.bool false]:=kf
@[go_sem] theorem oD : Tryz.prog.underlying 144=some (.slice 28):=kf
@[go_sem] theorem nS : Xq Tryz.prog 144=some 1:=kf
@[go_sem] theorem jM : ZU Tryz.prog 144=some false:=kf
@[go_sem] theorem jV : XL Tryz.prog 144=some (none,4):=kf
@[go_sem] theorem iP : WJ Tryz.prog 144=some 4:=kf
@[go_sem] theorem H9 : Vo Tryz.prog 144=some (4,32):=kf
@[go_sem] theorem PZ (H:List AM.Obj) (u:TypeId) (o n:Nat) (y:V):YE Tryz.prog H 144 u (.sl o 0 n n) y=Y7 H (some (4,32)) (Xn H o) o n (X6 (Tryz.prog.underlying u) H y):=Xu H9
@[go_sem] theorem nT : Xq Tryz.prog 146=some 5:=kf
@[go_sem] theorem jN : ZU Tryz.prog 146=some true:=kf
@[go_sem] theorem SO : ZC Tryz.prog 146 0=some 0:=kf
@[go_sem] theorem SP : ZC Tryz.prog 146 1=some 1:=kf
@[go_sem] theorem SQ : ZC Tryz.prog 146 2=some 2:=kf
@[go_sem] theorem SR : ZC Tryz.prog 146 3=some 3:=kf
@[go_sem] theorem SS : ZC Tryz.prog 146 4=some 4:=kf
@[go_sem] theorem nG : Bq Tryz.prog 146=some (KT [(0,1),(1,1),(2,1),(3,1),(4,1)]):=kf
@[go_sem] theorem Te : ZQ Tryz.prog 146=some [.bool false,.int .i64 0,.list true [],.int .i64 0,.int .i64 0]:=kf
@[go_sem] theorem nU : Xq Tryz.prog 157=some 1:=kf
@[go_sem] theorem jO : ZU Tryz.prog 157=some false:=kf
@[go_sem] theorem oE : Tryz.prog.underlying 174=some (.int .u64):=kf
@[go_sem] theorem nH : Bq Tryz.prog 178=some (KT [(0,1),(1,1)]):=kf
@[go_sem] theorem Tf : ZQ Tryz.prog 178=some [.int .i64 0,.str []]:=kf
@[go_sem] theorem oF : Tryz.prog.underlying 191=some (.slice 29):=kf
@[go_sem] theorem jW : XL Tryz.prog 191=some (none,1):=kf
@[go_sem] theorem iQ : WJ Tryz.prog 191=some 1:=kf
@[go_sem] theorem Ia : Vo Tryz.prog 191=some (1,24):=kf
@[go_sem] theorem P0 (H:List AM.Obj) (u:TypeId) (o n:Nat) (y:V):YE Tryz.prog H 191 u (.sl o 0 n n) y=Y7 H (some (1,24)) (Xn H o) o n (X6 (Tryz.prog.underlying u) H y):=Xu Ia
@[go_sem] theorem nV : Xq Tryz.prog 224=some 2:=kf
@[go_sem] theorem jP : ZU Tryz.prog 224=some true:=kf
@[go_sem] theorem jX : XL Tryz.prog 224=some ((some 2),1):=kf
@[go_sem] theorem Tg : ZQ Tryz.prog 224=some [.int .i64 0,.int .i64 0]:=kf
@[go_sem] theorem oG : Tryz.prog.underlying 225=some (.slice 157):=kf
@[go_sem] theorem jY : XL Tryz.prog 225=some (none,1):=kf
@[go_sem] theorem iR : WJ Tryz.prog 225=some 1:=kf
@[go_sem] theorem oH : Tryz.prog.underlying 253=some (.slice 138):=kf
@[go_sem] theorem nW : Xq Tryz.prog 253=some 1:=kf
@[go_sem] theorem jQ : ZU Tryz.prog 253=some false:=kf
@[go_sem] theorem jZ : XL Tryz.prog 253=some (none,4):=kf
@[go_sem] theorem iS : WJ Tryz.prog 253=some 4:=kf
@[go_sem] theorem Ib : Vo Tryz.prog 253=some (4,32):=kf
@[go_sem] theorem P1 (H:List AM.Obj) (u:TypeId) (o n:Nat) (y:V):YE Tryz.prog H 253 u (.sl o 0 n n) y=Y7 H (some (4,32)) (Xn H o) o n (X6 (Tryz.prog.underlying u) H y):=Xu Ib
@[go_sem] theorem nX : Xq Tryz.prog 255=some 25:=kf
@[go_sem] theorem jR : ZU Tryz.prog 255=some true:=kf
@[go_sem] theorem SU : ZC Tryz.prog 255 0=some 0:=kf
@[go_sem] theorem SV : ZC Tryz.prog 255 1=some 6:=kf
@[go_sem] theorem SX : ZC Tryz.prog 255 2=some 20:=kf
@[go_sem] theorem SY : ZC Tryz.prog 255 3=some 24:=kf
@[go_sem] theorem nI : Bq Tryz.prog 255=some (KT [(0,6),(6,14),(20,4),(24,1)]):=kf
@[go_sem] theorem Th : ZQ Tryz.prog 255=some [.list true [],.list true [],.list true [],.list true [],.list true [],.list true [],.str [],.int .i64 0,.int .i64 0,.int .i64 0,.list true [],.int .i64 0,.int .i64 0,.int .i64 0,.int .i64 0,.int .i64 0,.int .i64 0,.int .i64 0,.int .i64 0,.int .i64 0,.int .i64 0,.int .i64 0,.list true [],.list true [],.list true []]:=kf
@[go_sem] theorem nY : Xq Tryz.prog 259=some 7:=kf
@[go_sem] theorem jS : ZU Tryz.prog 259=some true:=kf
@[go_sem] theorem SZ : ZC Tryz.prog 259 0=some 0:=kf
@[go_sem] theorem S0 : ZC Tryz.prog 259 1=some 1:=kf
@[go_sem] theorem S1 : ZC Tryz.prog 259 2=some 2:=kf
@[go_sem] theorem nJ : Bq Tryz.prog 259=some (KT [(0,1),(1,1),(2,5)]):=kf
@[go_sem] theorem Ti : ZQ Tryz.prog 259=some [.int .i64 0,.int .i64 0,.bool false,.int .i64 0,.list true [],.int .i64 0,.int .i64 0]:=kf
@[go_sem] theorem oI : Tryz.prog.underlying 261=some (.slice 259):=kf
@[go_sem] theorem kA : XL Tryz.prog 261=some (none,7):=kf
@[go_sem] theorem iT : WJ Tryz.prog 261=some 7:=kf
@[go_sem] theorem Ic : Vo Tryz.prog 261=some (7,72):=kf
@[go_sem] theorem P2 (H:List AM.Obj) (u:TypeId) (o n:Nat) (y:V):YE Tryz.prog H 261 u (.sl o 0 n n) y=Y7 H (some (7,72)) (Xn H o) o n (X6 (Tryz.prog.underlying u) H y):=Xu Ic
@[go_sem] theorem nZ : Xq Tryz.prog 318=some 3:=kf
@[go_sem] theorem jT : ZU Tryz.prog 318=some true:=kf
@[go_sem] theorem HC : Tryz.prog.stoodInHeld 318=false:=kf
@[go_sem] theorem nK : Bq Tryz.prog 318=some (KT [(0,1),(1,1),(2,1)]):=kf
@[go_sem] theorem kO (d:Nat) (a b:List PV):KZ Tryz.prog d 318 (Tryz.prog.underlying 318) (.agg a) (.agg b)=AU (Mp (YL Tryz.prog d 3) (apart Tryz.prog 3 a 0) (apart Tryz.prog 3 b 0)) (AU (Mp (YL Tryz.prog d 3) (apart Tryz.prog 3 a 1) (apart Tryz.prog 3 b 1)) (AU (Mp (YL Tryz.prog d 3) (apart Tryz.prog 3 a 2) (apart Tryz.prog 3 b 2)) (some true))):=by rw [Tryz.underlying318,UP HC];simp [Jo,K0]
@[go_sem] theorem kU : Tryz.prog.eqGuardType Tryz.prog.depth 318=false:=kf
@[go_sem] theorem Tj : ZQ Tryz.prog 318=some [.int .i64 0,.int .i64 0,.int .i64 0]:=kf
theorem lO : Zf Tryz.prog 5:=fun args w=>Tryz.call5 args w
theorem aZ : Zf Tryz.prog 15:=fun args w=>Tryz.call15 args w
theorem bA : Zf Tryz.prog 16:=fun args w=>Tryz.call16 args w
theorem bB : Zf Tryz.prog 17:=fun args w=>Tryz.call17 args w
theorem bC : Zf Tryz.prog 18:=fun args w=>Tryz.call18 args w
theorem bD : Zf Tryz.prog 19:=fun args w=>Tryz.call19 args w
theorem bE : Zf Tryz.prog 20:=fun args w=>Tryz.call20 args w
theorem bF : Zf Tryz.prog 24:=fun args w=>Tryz.call24 args w
theorem bG : Zf Tryz.prog 31:=fun args w=>Tryz.call31 args w
theorem bH : Zf Tryz.prog 33:=fun args w=>Tryz.call33 args w
theorem bI : Zf Tryz.prog 34:=fun args w=>Tryz.call34 args w
theorem bJ : Zf Tryz.prog 38:=fun args w=>Tryz.call38 args w
theorem bK : Zf Tryz.prog 39:=fun args w=>Tryz.call39 args w
theorem bL : Zf Tryz.prog 40:=fun args w=>Tryz.call40 args w
theorem bM : Zf Tryz.prog 41:=fun args w=>Tryz.call41 args w
theorem bN : Zf Tryz.prog 42:=fun args w=>Tryz.call42 args w
theorem bO : Zf Tryz.prog 43:=fun args w=>Tryz.call43 args w
theorem bP : Zf Tryz.prog 44:=fun args w=>Tryz.call44 args w
theorem bQ : Zf Tryz.prog 45:=fun args w=>Tryz.call45 args w
theorem bR : Zf Tryz.prog 46:=fun args w=>Tryz.call46 args w
theorem bS : Zf Tryz.prog 47:=fun args w=>Tryz.call47 args w
theorem bT : Zf Tryz.prog 48:=fun args w=>Tryz.call48 args w
theorem bV : Zf Tryz.prog 61:=fun args w=>Tryz.call61 args w
theorem bW : Zf Tryz.prog 62:=fun args w=>Tryz.call62 args w
theorem bX : Zf Tryz.prog 63:=fun args w=>Tryz.call63 args w
theorem bY : Zf Tryz.prog 73:=fun args w=>Tryz.call73 args w
theorem bZ : Zf Tryz.prog 77:=fun args w=>Tryz.call77 args w
theorem cA : Zf Tryz.prog 82:=fun args w=>Tryz.call82 args w
theorem cB : Zf Tryz.prog 83:=fun args w=>Tryz.call83 args w
theorem cC : Zf Tryz.prog 84:=fun args w=>Tryz.call84 args w
theorem cE : Zf Tryz.prog 85:=fun args w=>Tryz.call85 args w
theorem cF : Zf Tryz.prog 86:=fun args w=>Tryz.call86 args w
theorem cG : Zf Tryz.prog 87:=fun args w=>Tryz.call87 args w
theorem cH : Zf Tryz.prog 88:=fun args w=>Tryz.call88 args w
theorem Ms : Zf Tryz.prog 89:=fun args w=>Tryz.call89 args w
theorem cI : Zf Tryz.prog 90:=fun args w=>Tryz.call90 args w
theorem cJ : Zf Tryz.prog 91:=fun args w=>Tryz.call91 args w
theorem Mt : Zf Tryz.prog 92:=fun args w=>Tryz.call92 args w
theorem cK : Zf Tryz.prog 93:=fun args w=>Tryz.call93 args w
theorem cL : Zf Tryz.prog 94:=fun args w=>Tryz.call94 args w
theorem cM : Zf Tryz.prog 95:=fun args w=>Tryz.call95 args w
theorem NP : Zf Tryz.prog 104:=fun args w=>Tryz.call104 args w
theorem NQ : Zf Tryz.prog 105:=fun args w=>Tryz.call105 args w
theorem NR : Zf Tryz.prog 112:=fun args w=>Tryz.call112 args w
theorem NS : Zf Tryz.prog 116:=fun args w=>Tryz.call116 args w
theorem Gu : Zf Tryz.prog 117:=fun args w=>Tryz.call117 args w
theorem NT : Zf Tryz.prog 119:=fun args w=>Tryz.call119 args w
theorem NU : Zf Tryz.prog 120:=fun args w=>Tryz.call120 args w
theorem NV : Zf Tryz.prog 121:=fun args w=>Tryz.call121 args w
theorem NW : Zf Tryz.prog 122:=fun args w=>Tryz.call122 args w
theorem NX : Zf Tryz.prog 124:=fun args w=>Tryz.call124 args w
theorem NY : Zf Tryz.prog 125:=fun args w=>Tryz.call125 args w
theorem NZ : Zf Tryz.prog 126:=fun args w=>Tryz.call126 args w
theorem N0 : Zf Tryz.prog 127:=fun args w=>Tryz.call127 args w
theorem N1 : Zf Tryz.prog 128:=fun args w=>Tryz.call128 args w
theorem N2 : Zf Tryz.prog 129:=fun args w=>Tryz.call129 args w
theorem Gv : Zf Tryz.prog 130:=fun args w=>Tryz.call130 args w
theorem N3 : Zf Tryz.prog 153:=fun args w=>Tryz.call153 args w
theorem N4 : Zf Tryz.prog 154:=fun args w=>Tryz.call154 args w
theorem N5 : Zf Tryz.prog 155:=fun args w=>Tryz.call155 args w
theorem N6 : Zf Tryz.prog 156:=fun args w=>Tryz.call156 args w
theorem N7 : Zf Tryz.prog 157:=fun args w=>Tryz.call157 args w
theorem N8 : Zf Tryz.prog 159:=fun args w=>Tryz.call159 args w
theorem N9 : Zf Tryz.prog 160:=fun args w=>Tryz.call160 args w
theorem Oa : Zf Tryz.prog 161:=fun args w=>Tryz.call161 args w
theorem Ob : Zf Tryz.prog 162:=fun args w=>Tryz.call162 args w
theorem Oc : Zf Tryz.prog 163:=fun args w=>Tryz.call163 args w
theorem Od : Zf Tryz.prog 167:=fun args w=>Tryz.call167 args w
theorem Oe : Zf Tryz.prog 169:=fun args w=>Tryz.call169 args w
theorem Of : Zf Tryz.prog 170:=fun args w=>Tryz.call170 args w
theorem Og : Zf Tryz.prog 179:=fun args w=>Tryz.call179 args w
theorem Oh : Zf Tryz.prog 180:=fun args w=>Tryz.call180 args w
theorem Oi : Zf Tryz.prog 181:=fun args w=>Tryz.call181 args w
theorem Oj : Zf Tryz.prog 182:=fun args w=>Tryz.call182 args w
theorem Ol : Zf Tryz.prog 183:=fun args w=>Tryz.call183 args w
theorem Om : Zf Tryz.prog 184:=fun args w=>Tryz.call184 args w
theorem On : Zf Tryz.prog 185:=fun args w=>Tryz.call185 args w
theorem Oo : Zf Tryz.prog 186:=fun args w=>Tryz.call186 args w
theorem Oq : Zf Tryz.prog 187:=fun args w=>Tryz.call187 args w
theorem Ot : Zf Tryz.prog 188:=fun args w=>Tryz.call188 args w
theorem Ou : Zf Tryz.prog 189:=fun args w=>Tryz.call189 args w
theorem Ov : Zf Tryz.prog 190:=fun args w=>Tryz.call190 args w
theorem Gw : Zf Tryz.prog 191:=fun args w=>Tryz.call191 args w
theorem Ow : Zf Tryz.prog 192:=fun args w=>Tryz.call192 args w
theorem Ox : Zf Tryz.prog 193:=fun args w=>Tryz.call193 args w
theorem Oy : Zf Tryz.prog 194:=fun args w=>Tryz.call194 args w
theorem Oz : Zf Tryz.prog 195:=fun args w=>Tryz.call195 args w
theorem OA : Zf Tryz.prog 196:=fun args w=>Tryz.call196 args w
theorem OB : Zf Tryz.prog 197:=fun args w=>Tryz.call197 args w
theorem OC : Zf Tryz.prog 198:=fun args w=>Tryz.call198 args w
theorem OD : Zf Tryz.prog 199:=fun args w=>Tryz.call199 args w
theorem OE : Zf Tryz.prog 202:=fun args w=>Tryz.call202 args w
theorem OF : Zf Tryz.prog 207:=fun args w=>Tryz.call207 args w
theorem OG : Zf Tryz.prog 215:=fun args w=>Tryz.call215 args w
theorem OH : Zf Tryz.prog 216:=fun args w=>Tryz.call216 args w
theorem OI : Zf Tryz.prog 217:=fun args w=>Tryz.call217 args w
theorem OJ : Zf Tryz.prog 218:=fun args w=>Tryz.call218 args w
theorem OK : Zf Tryz.prog 219:=fun args w=>Tryz.call219 args w
theorem OL : Zf Tryz.prog 220:=fun args w=>Tryz.call220 args w
theorem OM : Zf Tryz.prog 221:=fun args w=>Tryz.call221 args w
theorem ON : Zf Tryz.prog 222:=fun args w=>Tryz.call222 args w
theorem OO : Zf Tryz.prog 223:=fun args w=>Tryz.call223 args w
theorem OP : Zf Tryz.prog 224:=fun args w=>Tryz.call224 args w
theorem OQ : Zf Tryz.prog 225:=fun args w=>Tryz.call225 args w
theorem OR : Zf Tryz.prog 226:=fun args w=>Tryz.call226 args w
theorem OS : Zf Tryz.prog 234:=fun args w=>Tryz.call234 args w
theorem OT : Zf Tryz.prog 235:=fun args w=>Tryz.call235 args w
theorem OU : Zf Tryz.prog 236:=fun args w=>Tryz.call236 args w
theorem OV : Zf Tryz.prog 237:=fun args w=>Tryz.call237 args w
theorem OW : Zf Tryz.prog 238:=fun args w=>Tryz.call238 args w
theorem OX : Zf Tryz.prog 239:=fun args w=>Tryz.call239 args w
theorem OY : Zf Tryz.prog 244:=fun args w=>Tryz.call244 args w
theorem OZ : Zf Tryz.prog 245:=fun args w=>Tryz.call245 args w
theorem O0 : Zf Tryz.prog 246:=fun args w=>Tryz.call246 args w
theorem O1 : Zf Tryz.prog 247:=fun args w=>Tryz.call247 args w
theorem O2 : Zf Tryz.prog 248:=fun args w=>Tryz.call248 args w
theorem O3 : Zf Tryz.prog 249:=fun args w=>Tryz.call249 args w
theorem O4 : Zf Tryz.prog 250:=fun args w=>Tryz.call250 args w
theorem O5 : Zf Tryz.prog 251:=fun args w=>Tryz.call251 args w
theorem O6 : Zf Tryz.prog 252:=fun args w=>Tryz.call252 args w
theorem O7 : Zf Tryz.prog 253:=fun args w=>Tryz.call253 args w
theorem O8 : Zf Tryz.prog 254:=fun args w=>Tryz.call254 args w
theorem mixed : Tryz.prog.follows .mixedOrders=true:=Zg
end Go.Proofs.YtmbelkfkhclnkaaGreatDoor.K
