/- Declarations that the closing texts need, part 5: joined by tools/slim.py. -/
import Derived.Test.YtmbelkfkhclnkaaGreatDoorYT4
import Derived.KernelRfl
namespace Go.Proofs.YtmbelkfkhclnkaaGreatDoor.K
open Go Go.AM Go.Proofs
abbrev PC (f:FuncId) (a:List V) (y:PV):=ACalls Tryz.prog f a [] fun x H'=>x= .p y/\H'= []
abbrev PT (f:FuncId) (a:List V) (b:List V):=ACalls Tryz.prog f a [] fun x H'=>x= .tup b/\H'= []
theorem kf {α:Type} {a b:α} (h:a=b:=by kernel_rfl):a=b:=Eq.trans h rfl
theorem Zh {p:Prop} (h:p:=by kernel_rfl):p:=h
@[go_sem] theorem pW : Tryz.prog.underlying 3=some (.int .i64):=kf
@[go_sem] theorem pS : Xq Tryz.prog 3=some 1:=kf
@[go_sem] theorem oD : ZV Tryz.prog 3=some false:=kf
@[go_sem] theorem pX : Tryz.prog.underlying 4=some .bool:=kf
@[go_sem] theorem pT : Xq Tryz.prog 4=some 1:=kf
@[go_sem] theorem oE : ZV Tryz.prog 4=some false:=kf
@[go_sem] theorem pY : Tryz.prog.underlying 5=some (.int .u8):=kf
@[go_sem] theorem pZ : Tryz.prog.underlying 9=some .string:=kf
@[go_sem] theorem pU : Xq Tryz.prog 9=some 1:=kf
@[go_sem] theorem oF : ZV Tryz.prog 9=some false:=kf
@[go_sem] theorem oM : Xq Tryz.prog 26=some 2:=kf
@[go_sem] theorem kT : ZV Tryz.prog 26=some true:=kf
@[go_sem] theorem dB : ZB Tryz.prog 26 0=some 0:=kf
@[go_sem] theorem dC : ZB Tryz.prog 26 1=some 1:=kf
@[go_sem] theorem Lq : Tryz.prog.stoodInHeld 26=false:=kf
@[go_sem] theorem oG : A3 Tryz.prog 26=some (KD [(0,1),(1,1)]):=kf
@[go_sem] theorem nH (d:Nat) (a b:List PV):KI Tryz.prog d 26 (Tryz.prog.underlying 26) (.agg a) (.agg b)=Ay (L3 (YJ Tryz.prog d 3) (apart Tryz.prog 3 a 0) (apart Tryz.prog 3 b 0)) (Ay (L3 (YJ Tryz.prog d 4) (apart Tryz.prog 4 a 1) (apart Tryz.prog 4 b 1)) (some true)):=by rw [Tryz.underlying26,UA Lq];simp [Je,KJ]
@[go_sem] theorem nT : Tryz.prog.eqGuardType Tryz.prog.depth 26=false:=kf
@[go_sem] theorem eG : ZN Tryz.prog 26=some [.int .i64 0,.bool false]:=kf
@[go_sem] theorem dD : ZB Tryz.prog 28 2=some 2:=kf
@[go_sem] theorem dE : ZB Tryz.prog 28 3=some 3:=kf
@[go_sem] theorem oH : A3 Tryz.prog 28=some (KD [(0,1),(1,1),(2,1),(3,1)]):=kf
@[go_sem] theorem eJ : ZN Tryz.prog 28=some [.int .i64 0,.int .i64 0,.int .i64 0,.bool false]:=kf
@[go_sem] theorem pC : Tryz.prog.underlying 29=some (.slice 3):=kf
@[go_sem] theorem oN : Xq Tryz.prog 29=some 1:=kf
@[go_sem] theorem kU : ZV Tryz.prog 29=some false:=kf
@[go_sem] theorem lH : XH Tryz.prog 29=some (none,1):=kf
@[go_sem] theorem kE : Ws Tryz.prog 29=some 1:=kf
@[go_sem] theorem Mu : Vl Tryz.prog 29=some (1,8):=kf
@[go_sem] theorem SZ (H:List AM.Obj) (u:TypeId) (o n:Nat) (y:V):YA Tryz.prog H 29 u (.sl o 0 n n) y=Y7 H (some (1,8)) (Xo H o) o n (XZ (Tryz.prog.underlying u) H y):=Xs Mu
@[go_sem] theorem IK : JA Tryz.prog 29=some (1,8,.int .i64 0):=kf
@[go_sem] theorem nI (H:List AM.Obj) (fr:List V) (x y:Operand):X8 Tryz.prog (.makeSlice 29 x y) fr H=YL (some (1,8,.int .i64 0)) H (ev fr x) (ev fr y):=U5 IK
@[go_sem] theorem eK : ZN Tryz.prog 29=some [.list true []]:=kf
@[go_sem] theorem pD : Tryz.prog.underlying 44=some (.slice 94):=kf
@[go_sem] theorem oO : Xq Tryz.prog 44=some 1:=kf
@[go_sem] theorem kV : ZV Tryz.prog 44=some false:=kf
@[go_sem] theorem lI : XH Tryz.prog 44=some (none,4):=kf
@[go_sem] theorem kF : Ws Tryz.prog 44=some 4:=kf
@[go_sem] theorem Mv : Vl Tryz.prog 44=some (4,64):=kf
@[go_sem] theorem S0 (H:List AM.Obj) (u:TypeId) (o n:Nat) (y:V):YA Tryz.prog H 44 u (.sl o 0 n n) y=Y7 H (some (4,64)) (Xo H o) o n (XZ (Tryz.prog.underlying u) H y):=Xs Mv
@[go_sem] theorem oP : Xq Tryz.prog 46=some 2:=kf
@[go_sem] theorem kW : ZV Tryz.prog 46=some true:=kf
@[go_sem] theorem dF : ZB Tryz.prog 46 0=some 0:=kf
@[go_sem] theorem dG : ZB Tryz.prog 46 1=some 1:=kf
@[go_sem] theorem oI : A3 Tryz.prog 46=some (KD [(0,1),(1,1)]):=kf
@[go_sem] theorem eL : ZN Tryz.prog 46=some [.list true [],.list true []]:=kf
@[go_sem] theorem pE : Tryz.prog.underlying 52=some (.slice 9):=kf
@[go_sem] theorem oQ : Xq Tryz.prog 52=some 1:=kf
@[go_sem] theorem kX : ZV Tryz.prog 52=some false:=kf
@[go_sem] theorem lJ : XH Tryz.prog 52=some (none,1):=kf
@[go_sem] theorem kG : Ws Tryz.prog 52=some 1:=kf
@[go_sem] theorem Mw : Vl Tryz.prog 52=some (1,16):=kf
@[go_sem] theorem S1 (H:List AM.Obj) (u:TypeId) (o n:Nat) (y:V):YA Tryz.prog H 52 u (.sl o 0 n n) y=Y7 H (some (1,16)) (Xo H o) o n (XZ (Tryz.prog.underlying u) H y):=Xs Mw
@[go_sem] theorem pF : Tryz.prog.underlying 53=some (.slice 134):=kf
@[go_sem] theorem oS : Xq Tryz.prog 53=some 1:=kf
@[go_sem] theorem kY : ZV Tryz.prog 53=some false:=kf
@[go_sem] theorem lK : XH Tryz.prog 53=some (none,6):=kf
@[go_sem] theorem oT : Xq Tryz.prog 55=some 2:=kf
@[go_sem] theorem kZ : ZV Tryz.prog 55=some true:=kf
@[go_sem] theorem dH : ZB Tryz.prog 55 0=some 0:=kf
@[go_sem] theorem dI : ZB Tryz.prog 55 1=some 1:=kf
@[go_sem] theorem oJ : A3 Tryz.prog 55=some (KD [(0,1),(1,1)]):=kf
@[go_sem] theorem eM : ZN Tryz.prog 55=some [.list true [],.list true []]:=kf
@[go_sem] theorem pG : Tryz.prog.underlying 56=some (.slice 136):=kf
@[go_sem] theorem oU : Xq Tryz.prog 56=some 1:=kf
@[go_sem] theorem lA : ZV Tryz.prog 56=some false:=kf
@[go_sem] theorem lL : XH Tryz.prog 56=some (none,14):=kf
@[go_sem] theorem kH : Ws Tryz.prog 56=some 14:=kf
@[go_sem] theorem pH : Tryz.prog.underlying 57=some (.slice 140):=kf
@[go_sem] theorem oV : Xq Tryz.prog 57=some 1:=kf
@[go_sem] theorem lB : ZV Tryz.prog 57=some false:=kf
@[go_sem] theorem lM : XH Tryz.prog 57=some (none,16):=kf
@[go_sem] theorem pI : Tryz.prog.underlying 58=some (.slice 224):=kf
@[go_sem] theorem oW : Xq Tryz.prog 58=some 1:=kf
@[go_sem] theorem lC : ZV Tryz.prog 58=some false:=kf
@[go_sem] theorem lN : XH Tryz.prog 58=some (none,2):=kf
@[go_sem] theorem oX : Xq Tryz.prog 60=some 6:=kf
@[go_sem] theorem lD : ZV Tryz.prog 60=some true:=kf
@[go_sem] theorem dJ : ZB Tryz.prog 60 0=some 0:=kf
@[go_sem] theorem dK : ZB Tryz.prog 60 1=some 2:=kf
@[go_sem] theorem dL : ZB Tryz.prog 60 2=some 3:=kf
@[go_sem] theorem dM : ZB Tryz.prog 60 3=some 4:=kf
@[go_sem] theorem dN : ZB Tryz.prog 60 4=some 5:=kf
@[go_sem] theorem oK : A3 Tryz.prog 60=some (KD [(0,2),(2,1),(3,1),(4,1),(5,1)]):=kf
@[go_sem] theorem eN : ZN Tryz.prog 60=some [.list true [],.list true [],.list true [],.list true [],.list true [],.list true []]:=kf
@[go_sem] theorem pJ : Tryz.prog.underlying 62=some (.slice 178):=kf
@[go_sem] theorem kI : Ws Tryz.prog 62=some 2:=kf
@[go_sem] theorem Mx : Vl Tryz.prog 62=some (2,24):=kf
@[go_sem] theorem SY (H:List AM.Obj) (u:TypeId) (y:V):YA Tryz.prog H 62 u (.p (.list true [])) y=E3 H (some (2,24)) (XZ (Tryz.prog.underlying u) H y):=EN Mx
@[go_sem] theorem pK : Tryz.prog.underlying 75=some (.slice 5):=kf
@[go_sem] theorem kJ : Ws Tryz.prog 75=some 1:=kf
@[go_sem] theorem My : Vl Tryz.prog 75=some (1,1):=kf
@[go_sem] theorem S4 (H:List AM.Obj) (u:TypeId) (o n:Nat) (y:V):YA Tryz.prog H 75 u (.sl o 0 n n) y=Y7 H (some (1,1)) (Xo H o) o n (XZ (Tryz.prog.underlying u) H y):=Xs My
@[go_sem] theorem pL : Tryz.prog.underlying 91=some (.slice 4):=kf
@[go_sem] theorem oY : Xq Tryz.prog 91=some 1:=kf
@[go_sem] theorem lE : ZV Tryz.prog 91=some false:=kf
@[go_sem] theorem lO : XH Tryz.prog 91=some (none,1):=kf
@[go_sem] theorem kK : Ws Tryz.prog 91=some 1:=kf
@[go_sem] theorem Mz : Vl Tryz.prog 91=some (1,1):=kf
@[go_sem] theorem S5 (H:List AM.Obj) (u:TypeId) (o n:Nat) (y:V):YA Tryz.prog H 91 u (.sl o 0 n n) y=Y7 H (some (1,1)) (Xo H o) o n (XZ (Tryz.prog.underlying u) H y):=Xs Mz
@[go_sem] theorem IL : JA Tryz.prog 91=some (1,1,.bool false):=kf
@[go_sem] theorem nJ (H:List AM.Obj) (fr:List V) (x y:Operand):X8 Tryz.prog (.makeSlice 91 x y) fr H=YL (some (1,1,.bool false)) H (ev fr x) (ev fr y):=U5 IL
@[go_sem] theorem pM : Tryz.prog.underlying 92=some (.slice 26):=kf
@[go_sem] theorem oZ : Xq Tryz.prog 92=some 1:=kf
@[go_sem] theorem lF : ZV Tryz.prog 92=some false:=kf
@[go_sem] theorem lP : XH Tryz.prog 92=some (none,2):=kf
@[go_sem] theorem kL : Ws Tryz.prog 92=some 2:=kf
@[go_sem] theorem MA : Vl Tryz.prog 92=some (2,16):=kf
@[go_sem] theorem S6 (H:List AM.Obj) (u:TypeId) (o n:Nat) (y:V):YA Tryz.prog H 92 u (.sl o 0 n n) y=Y7 H (some (2,16)) (Xo H o) o n (XZ (Tryz.prog.underlying u) H y):=Xs MA
@[go_sem] theorem pA : Xq Tryz.prog 94=some 4:=kf
@[go_sem] theorem lG : ZV Tryz.prog 94=some true:=kf
@[go_sem] theorem dO : ZB Tryz.prog 94 0=some 0:=kf
@[go_sem] theorem dP : ZB Tryz.prog 94 1=some 1:=kf
@[go_sem] theorem dQ : ZB Tryz.prog 94 2=some 2:=kf
@[go_sem] theorem dR : ZB Tryz.prog 94 3=some 3:=kf
@[go_sem] theorem oL : A3 Tryz.prog 94=some (KD [(0,1),(1,1),(2,1),(3,1)]):=kf
@[go_sem] theorem eO : ZN Tryz.prog 94=some [.int .i64 0,.int .i64 0,.list true [],.list true []]:=kf
@[go_sem] theorem lZ : Xq Tryz.prog 126=some 4:=kf
@[go_sem] theorem hP : ZV Tryz.prog 126=some true:=kf
@[go_sem] theorem RX : ZB Tryz.prog 126 1=some 1:=kf
@[go_sem] theorem RY : ZB Tryz.prog 126 2=some 2:=kf
@[go_sem] theorem lR : A3 Tryz.prog 126=some (KD [(0,1),(1,1),(2,1),(3,1)]):=kf
@[go_sem] theorem SJ : ZN Tryz.prog 126=some [.int .i64 0,.int .i64 0,.int .i64 0,.int .i64 0]:=kf
@[go_sem] theorem mA : Xq Tryz.prog 131=some 2:=kf
@[go_sem] theorem hQ : ZV Tryz.prog 131=some true:=kf
@[go_sem] theorem RZ : ZB Tryz.prog 131 0=some 0:=kf
@[go_sem] theorem R0 : ZB Tryz.prog 131 1=some 1:=kf
@[go_sem] theorem SK : ZN Tryz.prog 131=some [.int .i64 0,.int .i64 0]:=kf
@[go_sem] theorem mQ : Tryz.prog.underlying 132=some (.slice 131):=kf
@[go_sem] theorem mB : Xq Tryz.prog 132=some 1:=kf
@[go_sem] theorem iA : ZV Tryz.prog 132=some false:=kf
@[go_sem] theorem iN : XH Tryz.prog 132=some (none,2):=kf
@[go_sem] theorem mC : Xq Tryz.prog 134=some 6:=kf
@[go_sem] theorem iB : ZV Tryz.prog 134=some true:=kf
@[go_sem] theorem R1 : ZB Tryz.prog 134 0=some 0:=kf
@[go_sem] theorem R2 : ZB Tryz.prog 134 1=some 1:=kf
@[go_sem] theorem R3 : ZB Tryz.prog 134 2=some 2:=kf
@[go_sem] theorem R4 : ZB Tryz.prog 134 3=some 3:=kf
@[go_sem] theorem R5 : ZB Tryz.prog 134 4=some 4:=kf
@[go_sem] theorem R6 : ZB Tryz.prog 134 5=some 5:=kf
@[go_sem] theorem lS : A3 Tryz.prog 134=some (KD [(0,1),(1,1),(2,1),(3,1),(4,1),(5,1)]):=kf
@[go_sem] theorem SL : ZN Tryz.prog 134=some [.int .i64 0,.int .i64 0,.int .i64 0,.int .i64 0,.list true [],.list true []]:=kf
@[go_sem] theorem mD : Xq Tryz.prog 136=some 14:=kf
@[go_sem] theorem iC : ZV Tryz.prog 136=some true:=kf
@[go_sem] theorem R7 : ZB Tryz.prog 136 1=some 1:=kf
@[go_sem] theorem R8 : ZB Tryz.prog 136 2=some 2:=kf
@[go_sem] theorem R9 : ZB Tryz.prog 136 3=some 3:=kf
@[go_sem] theorem Sa : ZB Tryz.prog 136 4=some 4:=kf
@[go_sem] theorem Sb : ZB Tryz.prog 136 5=some 5:=kf
@[go_sem] theorem Sc : ZB Tryz.prog 136 6=some 6:=kf
@[go_sem] theorem Sd : ZB Tryz.prog 136 7=some 7:=kf
@[go_sem] theorem Se : ZB Tryz.prog 136 8=some 8:=kf
@[go_sem] theorem Sf : ZB Tryz.prog 136 9=some 9:=kf
@[go_sem] theorem Pk : ZB Tryz.prog 136 10=some 10:=kf
@[go_sem] theorem Pl : ZB Tryz.prog 136 11=some 11:=kf
@[go_sem] theorem Pm : ZB Tryz.prog 136 12=some 12:=kf
@[go_sem] theorem Pn : ZB Tryz.prog 136 13=some 13:=kf
@[go_sem] theorem lT : A3 Tryz.prog 136=some (KD [(0,1),(1,1),(2,1),(3,1),(4,1),(5,1),(6,1),(7,1),(8,1),(9,1),(10,1),(11,1),(12,1),(13,1)]):=kf
@[go_sem] theorem SM : ZN Tryz.prog 136=some [.str [],.int .i64 0,.int .i64 0,.int .i64 0,.list true [],.int .i64 0,.int .i64 0,.int .i64 0,.int .i64 0,.int .i64 0,.int .i64 0,.int .i64 0,.int .i64 0,.int .i64 0]:=kf
@[go_sem] theorem mE : Xq Tryz.prog 138=some 4:=kf
@[go_sem] theorem iD : ZV Tryz.prog 138=some true:=kf
@[go_sem] theorem Sg : ZB Tryz.prog 138 0=some 0:=kf
@[go_sem] theorem Si : ZB Tryz.prog 138 1=some 1:=kf
@[go_sem] theorem Sj : ZB Tryz.prog 138 2=some 2:=kf
@[go_sem] theorem Sk : ZB Tryz.prog 138 3=some 3:=kf
@[go_sem] theorem SN : ZN Tryz.prog 138=some [.int .i64 0,.int .i64 0,.int .i64 0,.int .i64 0]:=kf
@[go_sem] theorem mF : Xq Tryz.prog 140=some 16:=kf
@[go_sem] theorem iE : ZV Tryz.prog 140=some true:=kf
@[go_sem] theorem Sl : ZB Tryz.prog 140 1=some 1:=kf
@[go_sem] theorem Sm : ZB Tryz.prog 140 2=some 2:=kf
@[go_sem] theorem Sn : ZB Tryz.prog 140 3=some 6:=kf
@[go_sem] theorem So : ZB Tryz.prog 140 4=some 10:=kf
@[go_sem] theorem Sp : ZB Tryz.prog 140 5=some 11:=kf
@[go_sem] theorem Sq : ZB Tryz.prog 140 7=some 13:=kf
@[go_sem] theorem Sr : ZB Tryz.prog 140 8=some 14:=kf
@[go_sem] theorem Ss : ZB Tryz.prog 140 9=some 15:=kf
@[go_sem] theorem SO : ZN Tryz.prog 140=some [.str [],.list true [],.int .i64 0,.int .i64 0,.int .i64 0,.int .i64 0,.int .i64 0,.int .i64 0,.int .i64 0,.int .i64 0,.int .i64 0,.int .i64 0,.int .i64 0,.int .i64 0,.int .i64 0,.bool false]:=kf
@[go_sem] theorem mR : Tryz.prog.underlying 144=some (.slice 28):=kf
@[go_sem] theorem mG : Xq Tryz.prog 144=some 1:=kf
@[go_sem] theorem iF : ZV Tryz.prog 144=some false:=kf
@[go_sem] theorem iO : XH Tryz.prog 144=some (none,4):=kf
@[go_sem] theorem gL : Ws Tryz.prog 144=some 4:=kf
@[go_sem] theorem HG : Vl Tryz.prog 144=some (4,32):=kf
@[go_sem] theorem PA (H:List AM.Obj) (u:TypeId) (o n:Nat) (y:V):YA Tryz.prog H 144 u (.sl o 0 n n) y=Y7 H (some (4,32)) (Xo H o) o n (XZ (Tryz.prog.underlying u) H y):=Xs HG
@[go_sem] theorem mH : Xq Tryz.prog 146=some 5:=kf
@[go_sem] theorem iG : ZV Tryz.prog 146=some true:=kf
@[go_sem] theorem St : ZB Tryz.prog 146 0=some 0:=kf
@[go_sem] theorem Su : ZB Tryz.prog 146 1=some 1:=kf
@[go_sem] theorem Sv : ZB Tryz.prog 146 2=some 2:=kf
@[go_sem] theorem Sw : ZB Tryz.prog 146 3=some 3:=kf
@[go_sem] theorem Sx : ZB Tryz.prog 146 4=some 4:=kf
@[go_sem] theorem lU : A3 Tryz.prog 146=some (KD [(0,1),(1,1),(2,1),(3,1),(4,1)]):=kf
@[go_sem] theorem SP : ZN Tryz.prog 146=some [.bool false,.int .i64 0,.list true [],.int .i64 0,.int .i64 0]:=kf
@[go_sem] theorem mI : Xq Tryz.prog 157=some 1:=kf
@[go_sem] theorem iH : ZV Tryz.prog 157=some false:=kf
@[go_sem] theorem mS : Tryz.prog.underlying 174=some (.int .u64):=kf
@[go_sem] theorem lV : A3 Tryz.prog 178=some (KD [(0,1),(1,1)]):=kf
@[go_sem] theorem SQ : ZN Tryz.prog 178=some [.int .i64 0,.str []]:=kf
@[go_sem] theorem mT : Tryz.prog.underlying 191=some (.slice 29):=kf
@[go_sem] theorem iP : XH Tryz.prog 191=some (none,1):=kf
@[go_sem] theorem gM : Ws Tryz.prog 191=some 1:=kf
@[go_sem] theorem HH : Vl Tryz.prog 191=some (1,24):=kf
@[go_sem] theorem PB (H:List AM.Obj) (u:TypeId) (o n:Nat) (y:V):YA Tryz.prog H 191 u (.sl o 0 n n) y=Y7 H (some (1,24)) (Xo H o) o n (XZ (Tryz.prog.underlying u) H y):=Xs HH
@[go_sem] theorem mJ : Xq Tryz.prog 224=some 2:=kf
@[go_sem] theorem iI : ZV Tryz.prog 224=some true:=kf
@[go_sem] theorem iQ : XH Tryz.prog 224=some ((some 2),1):=kf
@[go_sem] theorem SR : ZN Tryz.prog 224=some [.int .i64 0,.int .i64 0]:=kf
@[go_sem] theorem mU : Tryz.prog.underlying 225=some (.slice 157):=kf
@[go_sem] theorem iR : XH Tryz.prog 225=some (none,1):=kf
@[go_sem] theorem gN : Ws Tryz.prog 225=some 1:=kf
@[go_sem] theorem mV : Tryz.prog.underlying 253=some (.slice 138):=kf
@[go_sem] theorem mK : Xq Tryz.prog 253=some 1:=kf
@[go_sem] theorem iJ : ZV Tryz.prog 253=some false:=kf
@[go_sem] theorem iS : XH Tryz.prog 253=some (none,4):=kf
@[go_sem] theorem gO : Ws Tryz.prog 253=some 4:=kf
@[go_sem] theorem HI : Vl Tryz.prog 253=some (4,32):=kf
@[go_sem] theorem PD (H:List AM.Obj) (u:TypeId) (o n:Nat) (y:V):YA Tryz.prog H 253 u (.sl o 0 n n) y=Y7 H (some (4,32)) (Xo H o) o n (XZ (Tryz.prog.underlying u) H y):=Xs HI
@[go_sem] theorem mL : Xq Tryz.prog 255=some 25:=kf
@[go_sem] theorem iK : ZV Tryz.prog 255=some true:=kf
@[go_sem] theorem Sy : ZB Tryz.prog 255 0=some 0:=kf
@[go_sem] theorem Sz : ZB Tryz.prog 255 1=some 6:=kf
@[go_sem] theorem SA : ZB Tryz.prog 255 2=some 20:=kf
@[go_sem] theorem SB : ZB Tryz.prog 255 3=some 24:=kf
@[go_sem] theorem lW : A3 Tryz.prog 255=some (KD [(0,6),(6,14),(20,4),(24,1)]):=kf
@[go_sem] theorem SS : ZN Tryz.prog 255=some [.list true [],.list true [],.list true [],.list true [],.list true [],.list true [],.str [],.int .i64 0,.int .i64 0,.int .i64 0,.list true [],.int .i64 0,.int .i64 0,.int .i64 0,.int .i64 0,.int .i64 0,.int .i64 0,.int .i64 0,.int .i64 0,.int .i64 0,.int .i64 0,.int .i64 0,.list true [],.list true [],.list true []]:=kf
@[go_sem] theorem mM : Xq Tryz.prog 259=some 7:=kf
@[go_sem] theorem iL : ZV Tryz.prog 259=some true:=kf
@[go_sem] theorem SC : ZB Tryz.prog 259 0=some 0:=kf
@[go_sem] theorem SD : ZB Tryz.prog 259 1=some 1:=kf
@[go_sem] theorem SE : ZB Tryz.prog 259 2=some 2:=kf
@[go_sem] theorem lX : A3 Tryz.prog 259=some (KD [(0,1),(1,1),(2,5)]):=kf
@[go_sem] theorem SU : ZN Tryz.prog 259=some [.int .i64 0,.int .i64 0,.bool false,.int .i64 0,.list true [],.int .i64 0,.int .i64 0]:=kf
@[go_sem] theorem mW : Tryz.prog.underlying 261=some (.slice 259):=kf
@[go_sem] theorem iT : XH Tryz.prog 261=some (none,7):=kf
@[go_sem] theorem gP : Ws Tryz.prog 261=some 7:=kf
@[go_sem] theorem HJ : Vl Tryz.prog 261=some (7,72):=kf
@[go_sem] theorem PE (H:List AM.Obj) (u:TypeId) (o n:Nat) (y:V):YA Tryz.prog H 261 u (.sl o 0 n n) y=Y7 H (some (7,72)) (Xo H o) o n (XZ (Tryz.prog.underlying u) H y):=Xs HJ
@[go_sem] theorem mN : Xq Tryz.prog 318=some 3:=kf
@[go_sem] theorem iM : ZV Tryz.prog 318=some true:=kf
@[go_sem] theorem Hg : Tryz.prog.stoodInHeld 318=false:=kf
@[go_sem] theorem lY : A3 Tryz.prog 318=some (KD [(0,1),(1,1),(2,1)]):=kf
@[go_sem] theorem jH (d:Nat) (a b:List PV):KI Tryz.prog d 318 (Tryz.prog.underlying 318) (.agg a) (.agg b)=Ay (L3 (YJ Tryz.prog d 3) (apart Tryz.prog 3 a 0) (apart Tryz.prog 3 b 0)) (Ay (L3 (YJ Tryz.prog d 3) (apart Tryz.prog 3 a 1) (apart Tryz.prog 3 b 1)) (Ay (L3 (YJ Tryz.prog d 3) (apart Tryz.prog 3 a 2) (apart Tryz.prog 3 b 2)) (some true))):=by rw [Tryz.underlying318,UA Hg];simp [Je,KJ]
@[go_sem] theorem jJ : Tryz.prog.eqGuardType Tryz.prog.depth 318=false:=kf
@[go_sem] theorem SV : ZN Tryz.prog 318=some [.int .i64 0,.int .i64 0,.int .i64 0]:=kf
theorem kC : Zf Tryz.prog 6:=fun args w=>Tryz.call6 args w
theorem T5 : Zf Tryz.prog 16:=fun args w=>Tryz.call16 args w
theorem T6 : Zf Tryz.prog 17:=fun args w=>Tryz.call17 args w
theorem T7 : Zf Tryz.prog 19:=fun args w=>Tryz.call19 args w
theorem T8 : Zf Tryz.prog 20:=fun args w=>Tryz.call20 args w
theorem T9 : Zf Tryz.prog 21:=fun args w=>Tryz.call21 args w
theorem aA : Zf Tryz.prog 24:=fun args w=>Tryz.call24 args w
theorem aB : Zf Tryz.prog 31:=fun args w=>Tryz.call31 args w
theorem aC : Zf Tryz.prog 33:=fun args w=>Tryz.call33 args w
theorem aD : Zf Tryz.prog 34:=fun args w=>Tryz.call34 args w
theorem aE : Zf Tryz.prog 38:=fun args w=>Tryz.call38 args w
theorem aF : Zf Tryz.prog 39:=fun args w=>Tryz.call39 args w
theorem aG : Zf Tryz.prog 40:=fun args w=>Tryz.call40 args w
theorem aH : Zf Tryz.prog 41:=fun args w=>Tryz.call41 args w
theorem aI : Zf Tryz.prog 42:=fun args w=>Tryz.call42 args w
theorem aJ : Zf Tryz.prog 45:=fun args w=>Tryz.call45 args w
theorem aK : Zf Tryz.prog 46:=fun args w=>Tryz.call46 args w
theorem aL : Zf Tryz.prog 47:=fun args w=>Tryz.call47 args w
theorem aM : Zf Tryz.prog 48:=fun args w=>Tryz.call48 args w
theorem aN : Zf Tryz.prog 49:=fun args w=>Tryz.call49 args w
theorem aO : Zf Tryz.prog 50:=fun args w=>Tryz.call50 args w
theorem aP : Zf Tryz.prog 51:=fun args w=>Tryz.call51 args w
theorem aQ : Zf Tryz.prog 61:=fun args w=>Tryz.call61 args w
theorem aR : Zf Tryz.prog 62:=fun args w=>Tryz.call62 args w
theorem aS : Zf Tryz.prog 63:=fun args w=>Tryz.call63 args w
theorem aT : Zf Tryz.prog 73:=fun args w=>Tryz.call73 args w
theorem aU : Zf Tryz.prog 77:=fun args w=>Tryz.call77 args w
theorem aV : Zf Tryz.prog 81:=fun args w=>Tryz.call81 args w
theorem aW : Zf Tryz.prog 82:=fun args w=>Tryz.call82 args w
theorem aX : Zf Tryz.prog 83:=fun args w=>Tryz.call83 args w
theorem aY : Zf Tryz.prog 84:=fun args w=>Tryz.call84 args w
theorem aZ : Zf Tryz.prog 85:=fun args w=>Tryz.call85 args w
theorem bA : Zf Tryz.prog 86:=fun args w=>Tryz.call86 args w
theorem bB : Zf Tryz.prog 87:=fun args w=>Tryz.call87 args w
theorem bC : Zf Tryz.prog 88:=fun args w=>Tryz.call88 args w
theorem L6 : Zf Tryz.prog 89:=fun args w=>Tryz.call89 args w
theorem bD : Zf Tryz.prog 90:=fun args w=>Tryz.call90 args w
theorem bE : Zf Tryz.prog 91:=fun args w=>Tryz.call91 args w
theorem L7 : Zf Tryz.prog 92:=fun args w=>Tryz.call92 args w
theorem bF : Zf Tryz.prog 93:=fun args w=>Tryz.call93 args w
theorem bG : Zf Tryz.prog 94:=fun args w=>Tryz.call94 args w
theorem bH : Zf Tryz.prog 95:=fun args w=>Tryz.call95 args w
theorem bI : Zf Tryz.prog 96:=fun args w=>Tryz.call96 args w
theorem Nv : Zf Tryz.prog 104:=fun args w=>Tryz.call104 args w
theorem Nw : Zf Tryz.prog 105:=fun args w=>Tryz.call105 args w
theorem Nx : Zf Tryz.prog 112:=fun args w=>Tryz.call112 args w
theorem Ny : Zf Tryz.prog 116:=fun args w=>Tryz.call116 args w
theorem F8 : Zf Tryz.prog 117:=fun args w=>Tryz.call117 args w
theorem Nz : Zf Tryz.prog 119:=fun args w=>Tryz.call119 args w
theorem NA : Zf Tryz.prog 120:=fun args w=>Tryz.call120 args w
theorem NB : Zf Tryz.prog 121:=fun args w=>Tryz.call121 args w
theorem NC : Zf Tryz.prog 122:=fun args w=>Tryz.call122 args w
theorem ND : Zf Tryz.prog 124:=fun args w=>Tryz.call124 args w
theorem NE : Zf Tryz.prog 125:=fun args w=>Tryz.call125 args w
theorem NF : Zf Tryz.prog 126:=fun args w=>Tryz.call126 args w
theorem NG : Zf Tryz.prog 127:=fun args w=>Tryz.call127 args w
theorem NH : Zf Tryz.prog 128:=fun args w=>Tryz.call128 args w
theorem NI : Zf Tryz.prog 129:=fun args w=>Tryz.call129 args w
theorem F9 : Zf Tryz.prog 130:=fun args w=>Tryz.call130 args w
theorem NJ : Zf Tryz.prog 153:=fun args w=>Tryz.call153 args w
theorem NK : Zf Tryz.prog 154:=fun args w=>Tryz.call154 args w
theorem NL : Zf Tryz.prog 155:=fun args w=>Tryz.call155 args w
theorem NM : Zf Tryz.prog 156:=fun args w=>Tryz.call156 args w
theorem NN : Zf Tryz.prog 157:=fun args w=>Tryz.call157 args w
theorem NO : Zf Tryz.prog 159:=fun args w=>Tryz.call159 args w
theorem NP : Zf Tryz.prog 160:=fun args w=>Tryz.call160 args w
theorem NQ : Zf Tryz.prog 161:=fun args w=>Tryz.call161 args w
theorem NR : Zf Tryz.prog 162:=fun args w=>Tryz.call162 args w
theorem NS : Zf Tryz.prog 163:=fun args w=>Tryz.call163 args w
theorem NT : Zf Tryz.prog 167:=fun args w=>Tryz.call167 args w
theorem NU : Zf Tryz.prog 169:=fun args w=>Tryz.call169 args w
theorem NV : Zf Tryz.prog 170:=fun args w=>Tryz.call170 args w
theorem NW : Zf Tryz.prog 180:=fun args w=>Tryz.call180 args w
theorem NX : Zf Tryz.prog 181:=fun args w=>Tryz.call181 args w
theorem NY : Zf Tryz.prog 182:=fun args w=>Tryz.call182 args w
theorem NZ : Zf Tryz.prog 183:=fun args w=>Tryz.call183 args w
theorem N0 : Zf Tryz.prog 184:=fun args w=>Tryz.call184 args w
theorem N1 : Zf Tryz.prog 185:=fun args w=>Tryz.call185 args w
theorem N2 : Zf Tryz.prog 186:=fun args w=>Tryz.call186 args w
theorem N3 : Zf Tryz.prog 187:=fun args w=>Tryz.call187 args w
theorem N4 : Zf Tryz.prog 188:=fun args w=>Tryz.call188 args w
theorem N5 : Zf Tryz.prog 189:=fun args w=>Tryz.call189 args w
theorem N6 : Zf Tryz.prog 190:=fun args w=>Tryz.call190 args w
theorem Ga : Zf Tryz.prog 191:=fun args w=>Tryz.call191 args w
theorem N7 : Zf Tryz.prog 192:=fun args w=>Tryz.call192 args w
theorem N8 : Zf Tryz.prog 193:=fun args w=>Tryz.call193 args w
theorem N9 : Zf Tryz.prog 194:=fun args w=>Tryz.call194 args w
theorem Oa : Zf Tryz.prog 195:=fun args w=>Tryz.call195 args w
theorem Ob : Zf Tryz.prog 196:=fun args w=>Tryz.call196 args w
theorem Oc : Zf Tryz.prog 197:=fun args w=>Tryz.call197 args w
theorem Od : Zf Tryz.prog 198:=fun args w=>Tryz.call198 args w
theorem Oe : Zf Tryz.prog 199:=fun args w=>Tryz.call199 args w
theorem Of : Zf Tryz.prog 202:=fun args w=>Tryz.call202 args w
theorem Og : Zf Tryz.prog 207:=fun args w=>Tryz.call207 args w
theorem Oh : Zf Tryz.prog 215:=fun args w=>Tryz.call215 args w
theorem Oi : Zf Tryz.prog 216:=fun args w=>Tryz.call216 args w
theorem Oj : Zf Tryz.prog 217:=fun args w=>Tryz.call217 args w
theorem Ol : Zf Tryz.prog 218:=fun args w=>Tryz.call218 args w
theorem Om : Zf Tryz.prog 219:=fun args w=>Tryz.call219 args w
theorem On : Zf Tryz.prog 220:=fun args w=>Tryz.call220 args w
theorem Oo : Zf Tryz.prog 221:=fun args w=>Tryz.call221 args w
theorem Oq : Zf Tryz.prog 222:=fun args w=>Tryz.call222 args w
theorem Ot : Zf Tryz.prog 223:=fun args w=>Tryz.call223 args w
theorem Ou : Zf Tryz.prog 224:=fun args w=>Tryz.call224 args w
theorem Ov : Zf Tryz.prog 225:=fun args w=>Tryz.call225 args w
theorem Ow : Zf Tryz.prog 226:=fun args w=>Tryz.call226 args w
theorem Ox : Zf Tryz.prog 234:=fun args w=>Tryz.call234 args w
theorem Oy : Zf Tryz.prog 235:=fun args w=>Tryz.call235 args w
theorem Oz : Zf Tryz.prog 236:=fun args w=>Tryz.call236 args w
theorem OA : Zf Tryz.prog 237:=fun args w=>Tryz.call237 args w
theorem OB : Zf Tryz.prog 238:=fun args w=>Tryz.call238 args w
theorem OC : Zf Tryz.prog 239:=fun args w=>Tryz.call239 args w
theorem OD : Zf Tryz.prog 244:=fun args w=>Tryz.call244 args w
theorem OE : Zf Tryz.prog 245:=fun args w=>Tryz.call245 args w
theorem OF : Zf Tryz.prog 246:=fun args w=>Tryz.call246 args w
theorem OG : Zf Tryz.prog 247:=fun args w=>Tryz.call247 args w
theorem OH : Zf Tryz.prog 248:=fun args w=>Tryz.call248 args w
theorem OI : Zf Tryz.prog 249:=fun args w=>Tryz.call249 args w
theorem OJ : Zf Tryz.prog 250:=fun args w=>Tryz.call250 args w
theorem OK : Zf Tryz.prog 251:=fun args w=>Tryz.call251 args w
theorem OL : Zf Tryz.prog 252:=fun args w=>Tryz.call252 args w
theorem OM : Zf Tryz.prog 253:=fun args w=>Tryz.call253 args w
theorem ON : Zf Tryz.prog 254:=fun args w=>Tryz.call254 args w
theorem mixed : Tryz.prog.follows .mixedOrders=true:=Zh
end Go.Proofs.YtmbelkfkhclnkaaGreatDoor.K
