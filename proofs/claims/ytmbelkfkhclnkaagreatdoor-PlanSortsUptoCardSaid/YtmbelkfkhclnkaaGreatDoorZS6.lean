/- Declarations that the closing texts need, part 6: joined by tools/slim.py. -/
import Derived.Test.YtmbelkfkhclnkaaGreatDoorZS5
import Derived.KernelRfl
namespace Go.Proofs.YtmbelkfkhclnkaaGreatDoor.K
open Go Go.AM Go.Proofs
abbrev PC (f:FuncId) (a:List V) (y:PV):=ACalls Tryz.prog f a [] fun x H'=>x= .p y/\H'= []
abbrev PT (f:FuncId) (a:List V) (b:List V):=ACalls Tryz.prog f a [] fun x H'=>x= .tup b/\H'= []
theorem kf {α:Type} {a b:α} (h:a=b:=by kernel_rfl):a=b:=Eq.trans h rfl
theorem Ze {p:Prop} (h:p:=by kernel_rfl):p:=h
@[go_sem] theorem ZaD : Tryz.prog.underlying 3=some (.int .i64):=kf
@[go_sem] theorem Zaz : XA Tryz.prog 3=some 1:=kf
@[go_sem] theorem zK : Z4 Tryz.prog 3=some false:=kf
@[go_sem] theorem ZaE : Tryz.prog.underlying 4=some .bool:=kf
@[go_sem] theorem ZaA : XA Tryz.prog 4=some 1:=kf
@[go_sem] theorem zL : Z4 Tryz.prog 4=some false:=kf
@[go_sem] theorem ZaF : Tryz.prog.underlying 5=some (.int .u8):=kf
@[go_sem] theorem ZaG : Tryz.prog.underlying 9=some .string:=kf
@[go_sem] theorem ZaB : XA Tryz.prog 9=some 1:=kf
@[go_sem] theorem zM : Z4 Tryz.prog 9=some false:=kf
@[go_sem] theorem zT : XA Tryz.prog 26=some 2:=kf
@[go_sem] theorem vV : Z4 Tryz.prog 26=some true:=kf
@[go_sem] theorem oU : ZC Tryz.prog 26 0=some 0:=kf
@[go_sem] theorem oV : ZC Tryz.prog 26 1=some 1:=kf
@[go_sem] theorem Od : Tryz.prog.stoodInHeld 26=false:=kf
@[go_sem] theorem zN : Bx Tryz.prog 26=some (Bw [(0,1),(1,1)]):=kf
@[go_sem] theorem yQ (d:Nat) (a b:List PV):BD Tryz.prog d 26 (Tryz.prog.underlying 26) (.agg a) (.agg b)=Cw (OW (Wn Tryz.prog d 3) (apart Tryz.prog 3 a 0) (apart Tryz.prog 3 b 0)) (Cw (OW (Wn Tryz.prog d 4) (apart Tryz.prog 4 a 1) (apart Tryz.prog 4 b 1)) (some true)):=by rw [Tryz.underlying26,QT Od];simp [KO,BE]
@[go_sem] theorem zB : Tryz.prog.eqGuardType Tryz.prog.depth 26=false:=kf
@[go_sem] theorem pZ : ZW Tryz.prog 26=some [.int .i64 0,.bool false]:=kf
@[go_sem] theorem oW : ZC Tryz.prog 28 2=some 2:=kf
@[go_sem] theorem oX : ZC Tryz.prog 28 3=some 3:=kf
@[go_sem] theorem zO : Bx Tryz.prog 28=some (Bw [(0,1),(1,1),(2,1),(3,1)]):=kf
@[go_sem] theorem qA : ZW Tryz.prog 28=some [.int .i64 0,.int .i64 0,.int .i64 0,.bool false]:=kf
@[go_sem] theorem Zaj : Tryz.prog.underlying 29=some (.slice 3):=kf
@[go_sem] theorem zU : XA Tryz.prog 29=some 1:=kf
@[go_sem] theorem vW : Z4 Tryz.prog 29=some false:=kf
@[go_sem] theorem wK : XO Tryz.prog 29=some (none,1):=kf
@[go_sem] theorem vE : WZ Tryz.prog 29=some 1:=kf
@[go_sem] theorem Pv : V2 Tryz.prog 29=some (1,8):=kf
@[go_sem] theorem gO (H:List AM.Obj) (u:TypeId) (o n:Nat) (y:V):YH Tryz.prog H 29 u (.sl o 0 n n) y=Wc H (some (1,8)) (oat H o) o n (X5 (Tryz.prog.underlying u) H y):=Xq Pv
@[go_sem] theorem Nx : Af Tryz.prog 29=some (1,8,.int .i64 0):=kf
@[go_sem] theorem yR (H:List AM.Obj) (fr:List V) (x y:Operand):Yg Tryz.prog (.makeSlice 29 x y) fr H=Wp (some (1,8,.int .i64 0)) H (ev fr x) (ev fr y):=Jt Nx
@[go_sem] theorem qB : ZW Tryz.prog 29=some [.list true []]:=kf
@[go_sem] theorem zV : XA Tryz.prog 34=some 1:=kf
@[go_sem] theorem vX : Z4 Tryz.prog 34=some false:=kf
@[go_sem] theorem Zak : Tryz.prog.underlying 44=some (.slice 94):=kf
@[go_sem] theorem zW : XA Tryz.prog 44=some 1:=kf
@[go_sem] theorem vY : Z4 Tryz.prog 44=some false:=kf
@[go_sem] theorem wL : XO Tryz.prog 44=some (none,4):=kf
@[go_sem] theorem vF : WZ Tryz.prog 44=some 4:=kf
@[go_sem] theorem Pw : V2 Tryz.prog 44=some (4,64):=kf
@[go_sem] theorem gP (H:List AM.Obj) (u:TypeId) (o n:Nat) (y:V):YH Tryz.prog H 44 u (.sl o 0 n n) y=Wc H (some (4,64)) (oat H o) o n (X5 (Tryz.prog.underlying u) H y):=Xq Pw
@[go_sem] theorem zX : XA Tryz.prog 46=some 2:=kf
@[go_sem] theorem vZ : Z4 Tryz.prog 46=some true:=kf
@[go_sem] theorem oY : ZC Tryz.prog 46 0=some 0:=kf
@[go_sem] theorem oZ : ZC Tryz.prog 46 1=some 1:=kf
@[go_sem] theorem zP : Bx Tryz.prog 46=some (Bw [(0,1),(1,1)]):=kf
@[go_sem] theorem qC : ZW Tryz.prog 46=some [.list true [],.list true []]:=kf
@[go_sem] theorem Zal : Tryz.prog.underlying 52=some (.slice 9):=kf
@[go_sem] theorem zY : XA Tryz.prog 52=some 1:=kf
@[go_sem] theorem wA : Z4 Tryz.prog 52=some false:=kf
@[go_sem] theorem wM : XO Tryz.prog 52=some (none,1):=kf
@[go_sem] theorem vG : WZ Tryz.prog 52=some 1:=kf
@[go_sem] theorem Px : V2 Tryz.prog 52=some (1,16):=kf
@[go_sem] theorem gQ (H:List AM.Obj) (u:TypeId) (o n:Nat) (y:V):YH Tryz.prog H 52 u (.sl o 0 n n) y=Wc H (some (1,16)) (oat H o) o n (X5 (Tryz.prog.underlying u) H y):=Xq Px
@[go_sem] theorem Zam : Tryz.prog.underlying 53=some (.slice 134):=kf
@[go_sem] theorem zZ : XA Tryz.prog 53=some 1:=kf
@[go_sem] theorem wB : Z4 Tryz.prog 53=some false:=kf
@[go_sem] theorem wN : XO Tryz.prog 53=some (none,6):=kf
@[go_sem] theorem Zaa : XA Tryz.prog 55=some 2:=kf
@[go_sem] theorem wC : Z4 Tryz.prog 55=some true:=kf
@[go_sem] theorem pA : ZC Tryz.prog 55 0=some 0:=kf
@[go_sem] theorem pB : ZC Tryz.prog 55 1=some 1:=kf
@[go_sem] theorem zQ : Bx Tryz.prog 55=some (Bw [(0,1),(1,1)]):=kf
@[go_sem] theorem qD : ZW Tryz.prog 55=some [.list true [],.list true []]:=kf
@[go_sem] theorem Zan : Tryz.prog.underlying 56=some (.slice 136):=kf
@[go_sem] theorem Zab : XA Tryz.prog 56=some 1:=kf
@[go_sem] theorem wD : Z4 Tryz.prog 56=some false:=kf
@[go_sem] theorem wO : XO Tryz.prog 56=some (none,14):=kf
@[go_sem] theorem vH : WZ Tryz.prog 56=some 14:=kf
@[go_sem] theorem Zao : Tryz.prog.underlying 57=some (.slice 140):=kf
@[go_sem] theorem Zac : XA Tryz.prog 57=some 1:=kf
@[go_sem] theorem wE : Z4 Tryz.prog 57=some false:=kf
@[go_sem] theorem wP : XO Tryz.prog 57=some (none,16):=kf
@[go_sem] theorem Zap : Tryz.prog.underlying 58=some (.slice 224):=kf
@[go_sem] theorem Zad : XA Tryz.prog 58=some 1:=kf
@[go_sem] theorem wF : Z4 Tryz.prog 58=some false:=kf
@[go_sem] theorem wQ : XO Tryz.prog 58=some (none,2):=kf
@[go_sem] theorem Zae : XA Tryz.prog 60=some 6:=kf
@[go_sem] theorem wG : Z4 Tryz.prog 60=some true:=kf
@[go_sem] theorem pC : ZC Tryz.prog 60 0=some 0:=kf
@[go_sem] theorem pD : ZC Tryz.prog 60 1=some 2:=kf
@[go_sem] theorem pE : ZC Tryz.prog 60 2=some 3:=kf
@[go_sem] theorem pG : ZC Tryz.prog 60 3=some 4:=kf
@[go_sem] theorem pH : ZC Tryz.prog 60 4=some 5:=kf
@[go_sem] theorem zR : Bx Tryz.prog 60=some (Bw [(0,2),(2,1),(3,1),(4,1),(5,1)]):=kf
@[go_sem] theorem qE : ZW Tryz.prog 60=some [.list true [],.list true [],.list true [],.list true [],.list true [],.list true []]:=kf
@[go_sem] theorem Zaq : Tryz.prog.underlying 62=some (.slice 178):=kf
@[go_sem] theorem wR : XO Tryz.prog 62=some (none,2):=kf
@[go_sem] theorem vI : WZ Tryz.prog 62=some 2:=kf
@[go_sem] theorem Hu : V2 Tryz.prog 62=some (2,24):=kf
@[go_sem] theorem gN (H:List AM.Obj) (u:TypeId) (y:V):YH Tryz.prog H 62 u (.p (.list true [])) y=Hs H (some (2,24)) (X5 (Tryz.prog.underlying u) H y):=Hf Hu
@[go_sem] theorem gS (H:List AM.Obj) (u:TypeId) (o n:Nat) (y:V):YH Tryz.prog H 62 u (.sl o 0 n n) y=Wc H (some (2,24)) (oat H o) o n (X5 (Tryz.prog.underlying u) H y):=Xq Hu
@[go_sem] theorem Zar : Tryz.prog.underlying 75=some (.slice 5):=kf
@[go_sem] theorem vJ : WZ Tryz.prog 75=some 1:=kf
@[go_sem] theorem Py : V2 Tryz.prog 75=some (1,1):=kf
@[go_sem] theorem gU (H:List AM.Obj) (u:TypeId) (o n:Nat) (y:V):YH Tryz.prog H 75 u (.sl o 0 n n) y=Wc H (some (1,1)) (oat H o) o n (X5 (Tryz.prog.underlying u) H y):=Xq Py
@[go_sem] theorem Zas : Tryz.prog.underlying 91=some (.slice 4):=kf
@[go_sem] theorem Zaf : XA Tryz.prog 91=some 1:=kf
@[go_sem] theorem wH : Z4 Tryz.prog 91=some false:=kf
@[go_sem] theorem wS : XO Tryz.prog 91=some (none,1):=kf
@[go_sem] theorem vK : WZ Tryz.prog 91=some 1:=kf
@[go_sem] theorem Pz : V2 Tryz.prog 91=some (1,1):=kf
@[go_sem] theorem gV (H:List AM.Obj) (u:TypeId) (o n:Nat) (y:V):YH Tryz.prog H 91 u (.sl o 0 n n) y=Wc H (some (1,1)) (oat H o) o n (X5 (Tryz.prog.underlying u) H y):=Xq Pz
@[go_sem] theorem Ny : Af Tryz.prog 91=some (1,1,.bool false):=kf
@[go_sem] theorem yS (H:List AM.Obj) (fr:List V) (x y:Operand):Yg Tryz.prog (.makeSlice 91 x y) fr H=Wp (some (1,1,.bool false)) H (ev fr x) (ev fr y):=Jt Ny
@[go_sem] theorem Zat : Tryz.prog.underlying 92=some (.slice 26):=kf
@[go_sem] theorem Zag : XA Tryz.prog 92=some 1:=kf
@[go_sem] theorem wI : Z4 Tryz.prog 92=some false:=kf
@[go_sem] theorem wT : XO Tryz.prog 92=some (none,2):=kf
@[go_sem] theorem vL : WZ Tryz.prog 92=some 2:=kf
@[go_sem] theorem PA : V2 Tryz.prog 92=some (2,16):=kf
@[go_sem] theorem gW (H:List AM.Obj) (u:TypeId) (o n:Nat) (y:V):YH Tryz.prog H 92 u (.sl o 0 n n) y=Wc H (some (2,16)) (oat H o) o n (X5 (Tryz.prog.underlying u) H y):=Xq PA
@[go_sem] theorem Zah : XA Tryz.prog 94=some 4:=kf
@[go_sem] theorem wJ : Z4 Tryz.prog 94=some true:=kf
@[go_sem] theorem pI : ZC Tryz.prog 94 0=some 0:=kf
@[go_sem] theorem pJ : ZC Tryz.prog 94 1=some 1:=kf
@[go_sem] theorem pK : ZC Tryz.prog 94 2=some 2:=kf
@[go_sem] theorem pL : ZC Tryz.prog 94 3=some 3:=kf
@[go_sem] theorem zS : Bx Tryz.prog 94=some (Bw [(0,1),(1,1),(2,1),(3,1)]):=kf
@[go_sem] theorem qF : ZW Tryz.prog 94=some [.int .i64 0,.int .i64 0,.list true [],.list true []]:=kf
@[go_sem] theorem xE : XA Tryz.prog 126=some 4:=kf
@[go_sem] theorem sO : Z4 Tryz.prog 126=some true:=kf
@[go_sem] theorem dJ : ZC Tryz.prog 126 0=some 0:=kf
@[go_sem] theorem dK : ZC Tryz.prog 126 1=some 1:=kf
@[go_sem] theorem dL : ZC Tryz.prog 126 2=some 2:=kf
@[go_sem] theorem dM : ZC Tryz.prog 126 3=some 3:=kf
@[go_sem] theorem wV : Bx Tryz.prog 126=some (Bw [(0,1),(1,1),(2,1),(3,1)]):=kf
@[go_sem] theorem fV : ZW Tryz.prog 126=some [.int .i64 0,.int .i64 0,.int .i64 0,.int .i64 0]:=kf
@[go_sem] theorem xF : XA Tryz.prog 131=some 2:=kf
@[go_sem] theorem sP : Z4 Tryz.prog 131=some true:=kf
@[go_sem] theorem dN : ZC Tryz.prog 131 0=some 0:=kf
@[go_sem] theorem dO : ZC Tryz.prog 131 1=some 1:=kf
@[go_sem] theorem fW : ZW Tryz.prog 131=some [.int .i64 0,.int .i64 0]:=kf
@[go_sem] theorem xW : Tryz.prog.underlying 132=some (.slice 131):=kf
@[go_sem] theorem xG : XA Tryz.prog 132=some 1:=kf
@[go_sem] theorem sQ : Z4 Tryz.prog 132=some false:=kf
@[go_sem] theorem tF : XO Tryz.prog 132=some (none,2):=kf
@[go_sem] theorem xH : XA Tryz.prog 134=some 6:=kf
@[go_sem] theorem sR : Z4 Tryz.prog 134=some true:=kf
@[go_sem] theorem dP : ZC Tryz.prog 134 0=some 0:=kf
@[go_sem] theorem dQ : ZC Tryz.prog 134 1=some 1:=kf
@[go_sem] theorem dR : ZC Tryz.prog 134 2=some 2:=kf
@[go_sem] theorem dS : ZC Tryz.prog 134 3=some 3:=kf
@[go_sem] theorem dT : ZC Tryz.prog 134 4=some 4:=kf
@[go_sem] theorem dU : ZC Tryz.prog 134 5=some 5:=kf
@[go_sem] theorem wW : Bx Tryz.prog 134=some (Bw [(0,1),(1,1),(2,1),(3,1),(4,1),(5,1)]):=kf
@[go_sem] theorem fX : ZW Tryz.prog 134=some [.int .i64 0,.int .i64 0,.int .i64 0,.int .i64 0,.list true [],.list true []]:=kf
@[go_sem] theorem xI : XA Tryz.prog 136=some 14:=kf
@[go_sem] theorem sS : Z4 Tryz.prog 136=some true:=kf
@[go_sem] theorem dV : ZC Tryz.prog 136 0=some 0:=kf
@[go_sem] theorem dW : ZC Tryz.prog 136 1=some 1:=kf
@[go_sem] theorem dX : ZC Tryz.prog 136 2=some 2:=kf
@[go_sem] theorem dY : ZC Tryz.prog 136 3=some 3:=kf
@[go_sem] theorem dZ : ZC Tryz.prog 136 4=some 4:=kf
@[go_sem] theorem eA : ZC Tryz.prog 136 5=some 5:=kf
@[go_sem] theorem eC : ZC Tryz.prog 136 6=some 6:=kf
@[go_sem] theorem eD : ZC Tryz.prog 136 7=some 7:=kf
@[go_sem] theorem eE : ZC Tryz.prog 136 8=some 8:=kf
@[go_sem] theorem eG : ZC Tryz.prog 136 9=some 9:=kf
@[go_sem] theorem T3 : ZC Tryz.prog 136 10=some 10:=kf
@[go_sem] theorem T4 : ZC Tryz.prog 136 11=some 11:=kf
@[go_sem] theorem T5 : ZC Tryz.prog 136 12=some 12:=kf
@[go_sem] theorem T6 : ZC Tryz.prog 136 13=some 13:=kf
@[go_sem] theorem wX : Bx Tryz.prog 136=some (Bw [(0,1),(1,1),(2,1),(3,1),(4,1),(5,1),(6,1),(7,1),(8,1),(9,1),(10,1),(11,1),(12,1),(13,1)]):=kf
@[go_sem] theorem fY : ZW Tryz.prog 136=some [.str [],.int .i64 0,.int .i64 0,.int .i64 0,.list true [],.int .i64 0,.int .i64 0,.int .i64 0,.int .i64 0,.int .i64 0,.int .i64 0,.int .i64 0,.int .i64 0,.int .i64 0]:=kf
@[go_sem] theorem xJ : XA Tryz.prog 138=some 4:=kf
@[go_sem] theorem sT : Z4 Tryz.prog 138=some true:=kf
@[go_sem] theorem eJ : ZC Tryz.prog 138 0=some 0:=kf
@[go_sem] theorem eK : ZC Tryz.prog 138 1=some 1:=kf
@[go_sem] theorem eL : ZC Tryz.prog 138 2=some 2:=kf
@[go_sem] theorem eM : ZC Tryz.prog 138 3=some 3:=kf
@[go_sem] theorem fZ : ZW Tryz.prog 138=some [.int .i64 0,.int .i64 0,.int .i64 0,.int .i64 0]:=kf
@[go_sem] theorem xK : XA Tryz.prog 140=some 16:=kf
@[go_sem] theorem sU : Z4 Tryz.prog 140=some true:=kf
@[go_sem] theorem eN : ZC Tryz.prog 140 0=some 0:=kf
@[go_sem] theorem eQ : ZC Tryz.prog 140 1=some 1:=kf
@[go_sem] theorem eV : ZC Tryz.prog 140 2=some 2:=kf
@[go_sem] theorem eW : ZC Tryz.prog 140 3=some 6:=kf
@[go_sem] theorem eX : ZC Tryz.prog 140 4=some 10:=kf
@[go_sem] theorem eY : ZC Tryz.prog 140 5=some 11:=kf
@[go_sem] theorem eZ : ZC Tryz.prog 140 6=some 12:=kf
@[go_sem] theorem fA : ZC Tryz.prog 140 7=some 13:=kf
@[go_sem] theorem fB : ZC Tryz.prog 140 8=some 14:=kf
@[go_sem] theorem fC : ZC Tryz.prog 140 9=some 15:=kf
@[go_sem] theorem gA : ZW Tryz.prog 140=some [.str [],.list true [],.int .i64 0,.int .i64 0,.int .i64 0,.int .i64 0,.int .i64 0,.int .i64 0,.int .i64 0,.int .i64 0,.int .i64 0,.int .i64 0,.int .i64 0,.int .i64 0,.int .i64 0,.bool false]:=kf
@[go_sem] theorem xX : Tryz.prog.underlying 144=some (.slice 28):=kf
@[go_sem] theorem xL : XA Tryz.prog 144=some 1:=kf
@[go_sem] theorem sV : Z4 Tryz.prog 144=some false:=kf
@[go_sem] theorem tG : XO Tryz.prog 144=some (none,4):=kf
@[go_sem] theorem rX : WZ Tryz.prog 144=some 4:=kf
@[go_sem] theorem Mw : V2 Tryz.prog 144=some (4,32):=kf
@[go_sem] theorem aF (H:List AM.Obj) (u:TypeId) (o n:Nat) (y:V):YH Tryz.prog H 144 u (.sl o 0 n n) y=Wc H (some (4,32)) (oat H o) o n (X5 (Tryz.prog.underlying u) H y):=Xq Mw
@[go_sem] theorem xM : XA Tryz.prog 146=some 5:=kf
@[go_sem] theorem sW : Z4 Tryz.prog 146=some true:=kf
@[go_sem] theorem fD : ZC Tryz.prog 146 0=some 0:=kf
@[go_sem] theorem fE : ZC Tryz.prog 146 1=some 1:=kf
@[go_sem] theorem fF : ZC Tryz.prog 146 2=some 2:=kf
@[go_sem] theorem fG : ZC Tryz.prog 146 3=some 3:=kf
@[go_sem] theorem fH : ZC Tryz.prog 146 4=some 4:=kf
@[go_sem] theorem wY : Bx Tryz.prog 146=some (Bw [(0,1),(1,1),(2,1),(3,1),(4,1)]):=kf
@[go_sem] theorem gB : ZW Tryz.prog 146=some [.bool false,.int .i64 0,.list true [],.int .i64 0,.int .i64 0]:=kf
@[go_sem] theorem xN : XA Tryz.prog 157=some 1:=kf
@[go_sem] theorem sX : Z4 Tryz.prog 157=some false:=kf
@[go_sem] theorem xY : Tryz.prog.underlying 174=some (.int .u64):=kf
@[go_sem] theorem fI : ZC Tryz.prog 178 0=some 0:=kf
@[go_sem] theorem fJ : ZC Tryz.prog 178 1=some 1:=kf
@[go_sem] theorem wZ : Bx Tryz.prog 178=some (Bw [(0,1),(1,1)]):=kf
@[go_sem] theorem gC : ZW Tryz.prog 178=some [.int .i64 0,.str []]:=kf
@[go_sem] theorem xZ : Tryz.prog.underlying 181=some (.slice 34):=kf
@[go_sem] theorem tH : XO Tryz.prog 181=some (none,1):=kf
@[go_sem] theorem rY : WZ Tryz.prog 181=some 1:=kf
@[go_sem] theorem Mx : V2 Tryz.prog 181=some (1,8):=kf
@[go_sem] theorem aG (H:List AM.Obj) (u:TypeId) (o n:Nat) (y:V):YH Tryz.prog H 181 u (.sl o 0 n n) y=Wc H (some (1,8)) (oat H o) o n (X5 (Tryz.prog.underlying u) H y):=Xq Mx
@[go_sem] theorem yA : Tryz.prog.underlying 189=some (.array 4 3):=kf
@[go_sem] theorem xO : XA Tryz.prog 189=some 4:=kf
@[go_sem] theorem sY : Z4 Tryz.prog 189=some true:=kf
@[go_sem] theorem tI : XO Tryz.prog 189=some ((some 4),1):=kf
@[go_sem] theorem xA : Bx Tryz.prog 189=some (vQ 1):=kf
@[go_sem] theorem gD : ZW Tryz.prog 189=some [.int .i64 0,.int .i64 0,.int .i64 0,.int .i64 0]:=kf
@[go_sem] theorem yC : Tryz.prog.underlying 191=some (.slice 29):=kf
@[go_sem] theorem tJ : XO Tryz.prog 191=some (none,1):=kf
@[go_sem] theorem rZ : WZ Tryz.prog 191=some 1:=kf
@[go_sem] theorem My : V2 Tryz.prog 191=some (1,24):=kf
@[go_sem] theorem aH (H:List AM.Obj) (u:TypeId) (o n:Nat) (y:V):YH Tryz.prog H 191 u (.sl o 0 n n) y=Wc H (some (1,24)) (oat H o) o n (X5 (Tryz.prog.underlying u) H y):=Xq My
@[go_sem] theorem xP : XA Tryz.prog 224=some 2:=kf
@[go_sem] theorem sZ : Z4 Tryz.prog 224=some true:=kf
@[go_sem] theorem tK : XO Tryz.prog 224=some ((some 2),1):=kf
@[go_sem] theorem gE : ZW Tryz.prog 224=some [.int .i64 0,.int .i64 0]:=kf
@[go_sem] theorem yD : Tryz.prog.underlying 225=some (.slice 157):=kf
@[go_sem] theorem tL : XO Tryz.prog 225=some (none,1):=kf
@[go_sem] theorem sA : WZ Tryz.prog 225=some 1:=kf
@[go_sem] theorem yE : Tryz.prog.underlying 253=some (.slice 138):=kf
@[go_sem] theorem xQ : XA Tryz.prog 253=some 1:=kf
@[go_sem] theorem tA : Z4 Tryz.prog 253=some false:=kf
@[go_sem] theorem tM : XO Tryz.prog 253=some (none,4):=kf
@[go_sem] theorem sB : WZ Tryz.prog 253=some 4:=kf
@[go_sem] theorem Mz : V2 Tryz.prog 253=some (4,32):=kf
@[go_sem] theorem aI (H:List AM.Obj) (u:TypeId) (o n:Nat) (y:V):YH Tryz.prog H 253 u (.sl o 0 n n) y=Wc H (some (4,32)) (oat H o) o n (X5 (Tryz.prog.underlying u) H y):=Xq Mz
@[go_sem] theorem xR : XA Tryz.prog 255=some 25:=kf
@[go_sem] theorem tB : Z4 Tryz.prog 255=some true:=kf
@[go_sem] theorem fK : ZC Tryz.prog 255 0=some 0:=kf
@[go_sem] theorem fL : ZC Tryz.prog 255 1=some 6:=kf
@[go_sem] theorem fM : ZC Tryz.prog 255 2=some 20:=kf
@[go_sem] theorem fN : ZC Tryz.prog 255 3=some 24:=kf
@[go_sem] theorem xB : Bx Tryz.prog 255=some (Bw [(0,6),(6,14),(20,4),(24,1)]):=kf
@[go_sem] theorem gG : ZW Tryz.prog 255=some [.list true [],.list true [],.list true [],.list true [],.list true [],.list true [],.str [],.int .i64 0,.int .i64 0,.int .i64 0,.list true [],.int .i64 0,.int .i64 0,.int .i64 0,.int .i64 0,.int .i64 0,.int .i64 0,.int .i64 0,.int .i64 0,.int .i64 0,.int .i64 0,.int .i64 0,.list true [],.list true [],.list true []]:=kf
@[go_sem] theorem xS : XA Tryz.prog 259=some 7:=kf
@[go_sem] theorem tC : Z4 Tryz.prog 259=some true:=kf
@[go_sem] theorem fO : ZC Tryz.prog 259 0=some 0:=kf
@[go_sem] theorem fP : ZC Tryz.prog 259 1=some 1:=kf
@[go_sem] theorem fQ : ZC Tryz.prog 259 2=some 2:=kf
@[go_sem] theorem xC : Bx Tryz.prog 259=some (Bw [(0,1),(1,1),(2,5)]):=kf
@[go_sem] theorem gI : ZW Tryz.prog 259=some [.int .i64 0,.int .i64 0,.bool false,.int .i64 0,.list true [],.int .i64 0,.int .i64 0]:=kf
@[go_sem] theorem yF : Tryz.prog.underlying 261=some (.slice 259):=kf
@[go_sem] theorem tN : XO Tryz.prog 261=some (none,7):=kf
@[go_sem] theorem sC : WZ Tryz.prog 261=some 7:=kf
@[go_sem] theorem MA : V2 Tryz.prog 261=some (7,72):=kf
@[go_sem] theorem aJ (H:List AM.Obj) (u:TypeId) (o n:Nat) (y:V):YH Tryz.prog H 261 u (.sl o 0 n n) y=Wc H (some (7,72)) (oat H o) o n (X5 (Tryz.prog.underlying u) H y):=Xq MA
@[go_sem] theorem xT : XA Tryz.prog 318=some 3:=kf
@[go_sem] theorem tD : Z4 Tryz.prog 318=some true:=kf
@[go_sem] theorem L7 : Tryz.prog.stoodInHeld 318=false:=kf
@[go_sem] theorem xD : Bx Tryz.prog 318=some (Bw [(0,1),(1,1),(2,1)]):=kf
@[go_sem] theorem uC (d:Nat) (a b:List PV):BD Tryz.prog d 318 (Tryz.prog.underlying 318) (.agg a) (.agg b)=Cw (OW (Wn Tryz.prog d 3) (apart Tryz.prog 3 a 0) (apart Tryz.prog 3 b 0)) (Cw (OW (Wn Tryz.prog d 3) (apart Tryz.prog 3 a 1) (apart Tryz.prog 3 b 1)) (Cw (OW (Wn Tryz.prog d 3) (apart Tryz.prog 3 a 2) (apart Tryz.prog 3 b 2)) (some true))):=by rw [Tryz.underlying318,QT L7];simp [KO,BE]
@[go_sem] theorem uK : Tryz.prog.eqGuardType Tryz.prog.depth 318=false:=kf
@[go_sem] theorem gJ : ZW Tryz.prog 318=some [.int .i64 0,.int .i64 0,.int .i64 0]:=kf
theorem vC : Zh Tryz.prog 7:=fun args w=>Tryz.call7 args w
theorem kS : Zh Tryz.prog 15:=fun args w=>Tryz.call15 args w
theorem kT : Zh Tryz.prog 16:=fun args w=>Tryz.call16 args w
theorem kU : Zh Tryz.prog 17:=fun args w=>Tryz.call17 args w
theorem kV : Zh Tryz.prog 19:=fun args w=>Tryz.call19 args w
theorem kW : Zh Tryz.prog 20:=fun args w=>Tryz.call20 args w
theorem kX : Zh Tryz.prog 22:=fun args w=>Tryz.call22 args w
theorem kY : Zh Tryz.prog 23:=fun args w=>Tryz.call23 args w
theorem kZ : Zh Tryz.prog 24:=fun args w=>Tryz.call24 args w
theorem lA : Zh Tryz.prog 25:=fun args w=>Tryz.call25 args w
theorem lB : Zh Tryz.prog 26:=fun args w=>Tryz.call26 args w
theorem lC : Zh Tryz.prog 31:=fun args w=>Tryz.call31 args w
theorem lD : Zh Tryz.prog 33:=fun args w=>Tryz.call33 args w
theorem lE : Zh Tryz.prog 34:=fun args w=>Tryz.call34 args w
theorem lF : Zh Tryz.prog 38:=fun args w=>Tryz.call38 args w
theorem lG : Zh Tryz.prog 39:=fun args w=>Tryz.call39 args w
theorem lH : Zh Tryz.prog 40:=fun args w=>Tryz.call40 args w
theorem lI : Zh Tryz.prog 41:=fun args w=>Tryz.call41 args w
theorem lJ : Zh Tryz.prog 42:=fun args w=>Tryz.call42 args w
theorem lK : Zh Tryz.prog 44:=fun args w=>Tryz.call44 args w
theorem lL : Zh Tryz.prog 45:=fun args w=>Tryz.call45 args w
theorem lM : Zh Tryz.prog 46:=fun args w=>Tryz.call46 args w
theorem lN : Zh Tryz.prog 47:=fun args w=>Tryz.call47 args w
theorem lO : Zh Tryz.prog 48:=fun args w=>Tryz.call48 args w
theorem lP : Zh Tryz.prog 52:=fun args w=>Tryz.call52 args w
theorem lQ : Zh Tryz.prog 53:=fun args w=>Tryz.call53 args w
theorem lR : Zh Tryz.prog 54:=fun args w=>Tryz.call54 args w
theorem lS : Zh Tryz.prog 55:=fun args w=>Tryz.call55 args w
theorem lT : Zh Tryz.prog 56:=fun args w=>Tryz.call56 args w
theorem lU : Zh Tryz.prog 57:=fun args w=>Tryz.call57 args w
theorem lV : Zh Tryz.prog 58:=fun args w=>Tryz.call58 args w
theorem lW : Zh Tryz.prog 59:=fun args w=>Tryz.call59 args w
theorem lX : Zh Tryz.prog 60:=fun args w=>Tryz.call60 args w
theorem lY : Zh Tryz.prog 61:=fun args w=>Tryz.call61 args w
theorem lZ : Zh Tryz.prog 62:=fun args w=>Tryz.call62 args w
theorem mA : Zh Tryz.prog 63:=fun args w=>Tryz.call63 args w
theorem mB : Zh Tryz.prog 64:=fun args w=>Tryz.call64 args w
theorem mC : Zh Tryz.prog 65:=fun args w=>Tryz.call65 args w
theorem mD : Zh Tryz.prog 66:=fun args w=>Tryz.call66 args w
theorem mE : Zh Tryz.prog 67:=fun args w=>Tryz.call67 args w
theorem mF : Zh Tryz.prog 68:=fun args w=>Tryz.call68 args w
theorem mG : Zh Tryz.prog 69:=fun args w=>Tryz.call69 args w
theorem mH : Zh Tryz.prog 70:=fun args w=>Tryz.call70 args w
theorem mI : Zh Tryz.prog 71:=fun args w=>Tryz.call71 args w
theorem mJ : Zh Tryz.prog 73:=fun args w=>Tryz.call73 args w
theorem mK : Zh Tryz.prog 77:=fun args w=>Tryz.call77 args w
theorem mL : Zh Tryz.prog 82:=fun args w=>Tryz.call82 args w
theorem mM : Zh Tryz.prog 83:=fun args w=>Tryz.call83 args w
theorem mN : Zh Tryz.prog 84:=fun args w=>Tryz.call84 args w
theorem mO : Zh Tryz.prog 85:=fun args w=>Tryz.call85 args w
theorem mP : Zh Tryz.prog 86:=fun args w=>Tryz.call86 args w
theorem mQ : Zh Tryz.prog 87:=fun args w=>Tryz.call87 args w
theorem mR : Zh Tryz.prog 88:=fun args w=>Tryz.call88 args w
theorem OZ : Zh Tryz.prog 89:=fun args w=>Tryz.call89 args w
theorem mS : Zh Tryz.prog 90:=fun args w=>Tryz.call90 args w
theorem mT : Zh Tryz.prog 91:=fun args w=>Tryz.call91 args w
theorem O0 : Zh Tryz.prog 92:=fun args w=>Tryz.call92 args w
theorem mU : Zh Tryz.prog 93:=fun args w=>Tryz.call93 args w
theorem mV : Zh Tryz.prog 94:=fun args w=>Tryz.call94 args w
theorem mW : Zh Tryz.prog 95:=fun args w=>Tryz.call95 args w
theorem mX : Zh Tryz.prog 97:=fun args w=>Tryz.call97 args w
theorem mY : Zh Tryz.prog 98:=fun args w=>Tryz.call98 args w
theorem mZ : Zh Tryz.prog 99:=fun args w=>Tryz.call99 args w
theorem RI : Zh Tryz.prog 100:=fun args w=>Tryz.call100 args w
theorem RJ : Zh Tryz.prog 103:=fun args w=>Tryz.call103 args w
theorem RK : Zh Tryz.prog 104:=fun args w=>Tryz.call104 args w
theorem RL : Zh Tryz.prog 105:=fun args w=>Tryz.call105 args w
theorem RM : Zh Tryz.prog 106:=fun args w=>Tryz.call106 args w
theorem RN : Zh Tryz.prog 107:=fun args w=>Tryz.call107 args w
theorem RO : Zh Tryz.prog 108:=fun args w=>Tryz.call108 args w
theorem RQ : Zh Tryz.prog 109:=fun args w=>Tryz.call109 args w
theorem RR : Zh Tryz.prog 110:=fun args w=>Tryz.call110 args w
theorem RS : Zh Tryz.prog 111:=fun args w=>Tryz.call111 args w
theorem RT : Zh Tryz.prog 112:=fun args w=>Tryz.call112 args w
theorem RU : Zh Tryz.prog 113:=fun args w=>Tryz.call113 args w
theorem RW : Zh Tryz.prog 114:=fun args w=>Tryz.call114 args w
theorem RX : Zh Tryz.prog 115:=fun args w=>Tryz.call115 args w
theorem RY : Zh Tryz.prog 116:=fun args w=>Tryz.call116 args w
theorem IQ : Zh Tryz.prog 117:=fun args w=>Tryz.call117 args w
theorem RZ : Zh Tryz.prog 119:=fun args w=>Tryz.call119 args w
theorem R0 : Zh Tryz.prog 120:=fun args w=>Tryz.call120 args w
theorem R1 : Zh Tryz.prog 121:=fun args w=>Tryz.call121 args w
theorem R2 : Zh Tryz.prog 122:=fun args w=>Tryz.call122 args w
theorem R3 : Zh Tryz.prog 124:=fun args w=>Tryz.call124 args w
theorem R4 : Zh Tryz.prog 125:=fun args w=>Tryz.call125 args w
theorem R5 : Zh Tryz.prog 126:=fun args w=>Tryz.call126 args w
theorem R6 : Zh Tryz.prog 127:=fun args w=>Tryz.call127 args w
theorem R7 : Zh Tryz.prog 128:=fun args w=>Tryz.call128 args w
theorem R8 : Zh Tryz.prog 129:=fun args w=>Tryz.call129 args w
theorem IR : Zh Tryz.prog 130:=fun args w=>Tryz.call130 args w
theorem R9 : Zh Tryz.prog 131:=fun args w=>Tryz.call131 args w
theorem Sa : Zh Tryz.prog 144:=fun args w=>Tryz.call144 args w
theorem Sb : Zh Tryz.prog 145:=fun args w=>Tryz.call145 args w
theorem Sc : Zh Tryz.prog 146:=fun args w=>Tryz.call146 args w
theorem Sd : Zh Tryz.prog 147:=fun args w=>Tryz.call147 args w
theorem Se : Zh Tryz.prog 148:=fun args w=>Tryz.call148 args w
theorem Sf : Zh Tryz.prog 149:=fun args w=>Tryz.call149 args w
theorem Sg : Zh Tryz.prog 150:=fun args w=>Tryz.call150 args w
theorem Si : Zh Tryz.prog 151:=fun args w=>Tryz.call151 args w
theorem Sj : Zh Tryz.prog 152:=fun args w=>Tryz.call152 args w
theorem Sk : Zh Tryz.prog 153:=fun args w=>Tryz.call153 args w
theorem Sl : Zh Tryz.prog 154:=fun args w=>Tryz.call154 args w
theorem Sm : Zh Tryz.prog 155:=fun args w=>Tryz.call155 args w
theorem Sn : Zh Tryz.prog 156:=fun args w=>Tryz.call156 args w
theorem So : Zh Tryz.prog 157:=fun args w=>Tryz.call157 args w
theorem Sp : Zh Tryz.prog 158:=fun args w=>Tryz.call158 args w
theorem Sq : Zh Tryz.prog 159:=fun args w=>Tryz.call159 args w
theorem Sr : Zh Tryz.prog 160:=fun args w=>Tryz.call160 args w
theorem Ss : Zh Tryz.prog 161:=fun args w=>Tryz.call161 args w
theorem St : Zh Tryz.prog 162:=fun args w=>Tryz.call162 args w
theorem Su : Zh Tryz.prog 163:=fun args w=>Tryz.call163 args w
theorem Sv : Zh Tryz.prog 167:=fun args w=>Tryz.call167 args w
theorem Sw : Zh Tryz.prog 169:=fun args w=>Tryz.call169 args w
theorem Sx : Zh Tryz.prog 170:=fun args w=>Tryz.call170 args w
theorem Sy : Zh Tryz.prog 179:=fun args w=>Tryz.call179 args w
theorem Sz : Zh Tryz.prog 180:=fun args w=>Tryz.call180 args w
theorem SA : Zh Tryz.prog 181:=fun args w=>Tryz.call181 args w
theorem SB : Zh Tryz.prog 182:=fun args w=>Tryz.call182 args w
theorem SC : Zh Tryz.prog 183:=fun args w=>Tryz.call183 args w
theorem SD : Zh Tryz.prog 184:=fun args w=>Tryz.call184 args w
theorem SE : Zh Tryz.prog 185:=fun args w=>Tryz.call185 args w
theorem SF : Zh Tryz.prog 186:=fun args w=>Tryz.call186 args w
theorem SG : Zh Tryz.prog 187:=fun args w=>Tryz.call187 args w
theorem SH : Zh Tryz.prog 188:=fun args w=>Tryz.call188 args w
theorem SI : Zh Tryz.prog 189:=fun args w=>Tryz.call189 args w
theorem SJ : Zh Tryz.prog 190:=fun args w=>Tryz.call190 args w
theorem IS : Zh Tryz.prog 191:=fun args w=>Tryz.call191 args w
theorem SK : Zh Tryz.prog 192:=fun args w=>Tryz.call192 args w
theorem SL : Zh Tryz.prog 193:=fun args w=>Tryz.call193 args w
theorem SM : Zh Tryz.prog 194:=fun args w=>Tryz.call194 args w
theorem SN : Zh Tryz.prog 195:=fun args w=>Tryz.call195 args w
theorem SO : Zh Tryz.prog 196:=fun args w=>Tryz.call196 args w
theorem SP : Zh Tryz.prog 197:=fun args w=>Tryz.call197 args w
theorem SQ : Zh Tryz.prog 198:=fun args w=>Tryz.call198 args w
theorem SR : Zh Tryz.prog 199:=fun args w=>Tryz.call199 args w
theorem SS : Zh Tryz.prog 202:=fun args w=>Tryz.call202 args w
theorem SU : Zh Tryz.prog 207:=fun args w=>Tryz.call207 args w
theorem SV : Zh Tryz.prog 215:=fun args w=>Tryz.call215 args w
theorem SX : Zh Tryz.prog 216:=fun args w=>Tryz.call216 args w
theorem SY : Zh Tryz.prog 217:=fun args w=>Tryz.call217 args w
theorem SZ : Zh Tryz.prog 218:=fun args w=>Tryz.call218 args w
theorem S0 : Zh Tryz.prog 219:=fun args w=>Tryz.call219 args w
theorem S1 : Zh Tryz.prog 220:=fun args w=>Tryz.call220 args w
theorem S4 : Zh Tryz.prog 221:=fun args w=>Tryz.call221 args w
theorem S5 : Zh Tryz.prog 222:=fun args w=>Tryz.call222 args w
theorem S6 : Zh Tryz.prog 223:=fun args w=>Tryz.call223 args w
theorem S7 : Zh Tryz.prog 224:=fun args w=>Tryz.call224 args w
theorem S8 : Zh Tryz.prog 225:=fun args w=>Tryz.call225 args w
theorem S9 : Zh Tryz.prog 226:=fun args w=>Tryz.call226 args w
theorem Ta : Zh Tryz.prog 234:=fun args w=>Tryz.call234 args w
theorem Tb : Zh Tryz.prog 235:=fun args w=>Tryz.call235 args w
theorem Tc : Zh Tryz.prog 236:=fun args w=>Tryz.call236 args w
theorem Td : Zh Tryz.prog 237:=fun args w=>Tryz.call237 args w
theorem Te : Zh Tryz.prog 238:=fun args w=>Tryz.call238 args w
theorem Tf : Zh Tryz.prog 239:=fun args w=>Tryz.call239 args w
theorem Tg : Zh Tryz.prog 244:=fun args w=>Tryz.call244 args w
theorem Th : Zh Tryz.prog 245:=fun args w=>Tryz.call245 args w
theorem Ti : Zh Tryz.prog 246:=fun args w=>Tryz.call246 args w
theorem Tj : Zh Tryz.prog 247:=fun args w=>Tryz.call247 args w
theorem Tl : Zh Tryz.prog 248:=fun args w=>Tryz.call248 args w
theorem Tm : Zh Tryz.prog 249:=fun args w=>Tryz.call249 args w
theorem Tn : Zh Tryz.prog 250:=fun args w=>Tryz.call250 args w
theorem To : Zh Tryz.prog 251:=fun args w=>Tryz.call251 args w
theorem Tq : Zh Tryz.prog 252:=fun args w=>Tryz.call252 args w
theorem Tr : Zh Tryz.prog 253:=fun args w=>Tryz.call253 args w
theorem Ts : Zh Tryz.prog 254:=fun args w=>Tryz.call254 args w
theorem mixed : Tryz.prog.follows .mixedOrders=true:=Ze
end Go.Proofs.YtmbelkfkhclnkaaGreatDoor.K
