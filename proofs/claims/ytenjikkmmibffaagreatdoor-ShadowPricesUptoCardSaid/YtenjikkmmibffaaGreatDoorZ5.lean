/- Declarations that the closing texts need, part 5: joined by tools/slim.py. -/
import Derived.Test.YtenjikkmmibffaaGreatDoorZ4
import Derived.KernelRfl
namespace Go.Proofs.YtenjikkmmibffaaGreatDoor.K
open Go Go.AM Go.Proofs
abbrev PC (f:FuncId) (a:List V) (y:PV):=ACalls Tryz.prog f a [] fun x H'=>x= .p y/\H'= []
abbrev PT (f:FuncId) (a:List V) (b:List V):=ACalls Tryz.prog f a [] fun x H'=>x= .tup b/\H'= []
theorem kf {α:Type} {a b:α} (h:a=b:=by kernel_rfl):a=b:=Zk h rfl
theorem Ze {p:Prop} (h:p:=by kernel_rfl):p:=h
@[go_sem] theorem Zqd : Tryz.prog.underlying 3=some (.int .i64):=kf
@[go_sem] theorem Zp9 : YZ Tryz.prog 3=some 1:=kf
@[go_sem] theorem Zpg : XJ Tryz.prog 3=some false:=kf
@[go_sem] theorem Zmt : Xe Tryz.prog 3=some [.int .i64 0]:=kf
@[go_sem] theorem Zqe : Tryz.prog.underlying 4=some .bool:=kf
@[go_sem] theorem Zqa : YZ Tryz.prog 4=some 1:=kf
@[go_sem] theorem Zph : XJ Tryz.prog 4=some false:=kf
@[go_sem] theorem Zqf : Tryz.prog.underlying 5=some (.int .u8):=kf
@[go_sem] theorem Zqb : YZ Tryz.prog 5=some 1:=kf
@[go_sem] theorem Zpi : XJ Tryz.prog 5=some false:=kf
@[go_sem] theorem Zqg : Tryz.prog.underlying 9=some .string:=kf
@[go_sem] theorem Zqc : YZ Tryz.prog 9=some 1:=kf
@[go_sem] theorem Zpj : XJ Tryz.prog 9=some false:=kf
@[go_sem] theorem ZpP : Tryz.prog.underlying 22=some (.slice 9):=kf
@[go_sem] theorem Zpt : YZ Tryz.prog 22=some 1:=kf
@[go_sem] theorem Znp : XJ Tryz.prog 22=some false:=kf
@[go_sem] theorem ZnK : We Tryz.prog 22=some (none,1):=kf
@[go_sem] theorem Zm6 : UR Tryz.prog 22=some 1:=kf
@[go_sem] theorem ZpQ : Tryz.prog.underlying 23=some (.slice 184):=kf
@[go_sem] theorem Zpu : YZ Tryz.prog 23=some 1:=kf
@[go_sem] theorem Znq : XJ Tryz.prog 23=some false:=kf
@[go_sem] theorem ZnL : We Tryz.prog 23=some (none,6):=kf
@[go_sem] theorem Zpv : YZ Tryz.prog 25=some 2:=kf
@[go_sem] theorem Znr : XJ Tryz.prog 25=some true:=kf
@[go_sem] theorem Zju : ZR Tryz.prog 25 0=some 0:=kf
@[go_sem] theorem Zjv : ZR Tryz.prog 25 1=some 1:=kf
@[go_sem] theorem Zpk : BG Tryz.prog 25=some (BF [(0,1),(1,1)]):=kf
@[go_sem] theorem Zkn : Xe Tryz.prog 25=some [.list true [],.list true []]:=kf
@[go_sem] theorem ZpR : Tryz.prog.underlying 26=some (.slice 71):=kf
@[go_sem] theorem Zpw : YZ Tryz.prog 26=some 1:=kf
@[go_sem] theorem Zns : XJ Tryz.prog 26=some false:=kf
@[go_sem] theorem ZnM : We Tryz.prog 26=some (none,14):=kf
@[go_sem] theorem Zm7 : UR Tryz.prog 26=some 14:=kf
@[go_sem] theorem wV : QM Tryz.prog 26=some (14,136):=kf
@[go_sem] theorem Zgd (H:List AM.Obj) (u:TypeId) (o n:Nat) (y:V):WZ Tryz.prog H 26 u (.sl o 0 n n) y=Uq H (some (14,136)) (oat H o) o n (YI (Tryz.prog.underlying u) H y):=Yk wV
@[go_sem] theorem ZpS : Tryz.prog.underlying 27=some (.slice 75):=kf
@[go_sem] theorem Zpx : YZ Tryz.prog 27=some 1:=kf
@[go_sem] theorem Znt : XJ Tryz.prog 27=some false:=kf
@[go_sem] theorem ZnN : We Tryz.prog 27=some (none,16):=kf
@[go_sem] theorem Zm8 : UR Tryz.prog 27=some 16:=kf
@[go_sem] theorem wW : QM Tryz.prog 27=some (16,152):=kf
@[go_sem] theorem Zge (H:List AM.Obj) (u:TypeId) (o n:Nat) (y:V):WZ Tryz.prog H 27 u (.sl o 0 n n) y=Uq H (some (16,152)) (oat H o) o n (YI (Tryz.prog.underlying u) H y):=Yk wW
@[go_sem] theorem ZpT : Tryz.prog.underlying 28=some (.slice 105):=kf
@[go_sem] theorem Zpy : YZ Tryz.prog 28=some 1:=kf
@[go_sem] theorem Znu : XJ Tryz.prog 28=some false:=kf
@[go_sem] theorem ZnO : We Tryz.prog 28=some (none,2):=kf
@[go_sem] theorem Zm9 : UR Tryz.prog 28=some 2:=kf
@[go_sem] theorem wX : QM Tryz.prog 28=some (2,16):=kf
@[go_sem] theorem Zgf (H:List AM.Obj) (u:TypeId) (o n:Nat) (y:V):WZ Tryz.prog H 28 u (.sl o 0 n n) y=Uq H (some (2,16)) (oat H o) o n (YI (Tryz.prog.underlying u) H y):=Yk wX
@[go_sem] theorem Zpz : YZ Tryz.prog 30=some 6:=kf
@[go_sem] theorem Znv : XJ Tryz.prog 30=some true:=kf
@[go_sem] theorem Zjw : ZR Tryz.prog 30 0=some 0:=kf
@[go_sem] theorem Zjx : ZR Tryz.prog 30 1=some 2:=kf
@[go_sem] theorem Zjy : ZR Tryz.prog 30 2=some 3:=kf
@[go_sem] theorem Zjz : ZR Tryz.prog 30 3=some 4:=kf
@[go_sem] theorem ZjA : ZR Tryz.prog 30 4=some 5:=kf
@[go_sem] theorem Zpl : BG Tryz.prog 30=some (BF [(0,2),(2,1),(3,1),(4,1),(5,1)]):=kf
@[go_sem] theorem Zko : Xe Tryz.prog 30=some [.list true [],.list true [],.list true [],.list true [],.list true [],.list true []]:=kf
@[go_sem] theorem ZpA : YZ Tryz.prog 32=some 2:=kf
@[go_sem] theorem Znw : XJ Tryz.prog 32=some true:=kf
@[go_sem] theorem ZjB : ZR Tryz.prog 32 0=some 0:=kf
@[go_sem] theorem ZjC : ZR Tryz.prog 32 1=some 1:=kf
@[go_sem] theorem tF : Tryz.prog.stoodInHeld 32=false:=kf
@[go_sem] theorem Zpm : BG Tryz.prog 32=some (BF [(0,1),(1,1)]):=kf
@[go_sem] theorem ZoW (d:Nat) (a b:List PV):GI Tryz.prog d 32 (Tryz.prog.underlying 32) (.agg a) (.agg b)=Ee (cE (Vp Tryz.prog d 3) (apart Tryz.prog 3 a 0) (apart Tryz.prog 3 b 0)) (Ee (cE (Vp Tryz.prog d 3) (apart Tryz.prog 3 a 1) (apart Tryz.prog 3 b 1)) (some true)):=by rw [Tryz.underlying32,Qq tF];simp [K5,BJ]
@[go_sem] theorem Zpa : Tryz.prog.eqGuardType Tryz.prog.depth 32=false:=kf
@[go_sem] theorem Zkp : Xe Tryz.prog 32=some [.int .i64 0,.int .i64 0]:=kf
@[go_sem] theorem ZpU : Tryz.prog.underlying 33=some (.slice 43):=kf
@[go_sem] theorem ZpB : YZ Tryz.prog 33=some 1:=kf
@[go_sem] theorem Znx : XJ Tryz.prog 33=some false:=kf
@[go_sem] theorem Zna : UR Tryz.prog 33=some 4:=kf
@[go_sem] theorem wY : QM Tryz.prog 33=some (4,64):=kf
@[go_sem] theorem Zgg (H:List AM.Obj) (u:TypeId) (o n:Nat) (y:V):WZ Tryz.prog H 33 u (.sl o 0 n n) y=Uq H (some (4,64)) (oat H o) o n (YI (Tryz.prog.underlying u) H y):=Yk wY
@[go_sem] theorem ZpV : Tryz.prog.underlying 34=some (.slice 3):=kf
@[go_sem] theorem ZpC : YZ Tryz.prog 34=some 1:=kf
@[go_sem] theorem Zny : XJ Tryz.prog 34=some false:=kf
@[go_sem] theorem ZnP : We Tryz.prog 34=some (none,1):=kf
@[go_sem] theorem Znb : UR Tryz.prog 34=some 1:=kf
@[go_sem] theorem dK : QM Tryz.prog 34=some (1,8):=kf
@[go_sem] theorem Zga (H:List AM.Obj) (u:TypeId) (y:V):WZ Tryz.prog H 34 u (.p (.list true [])) y=Ma H (some (1,8)) (YI (Tryz.prog.underlying u) H y):=BH dK
@[go_sem] theorem Zgh (H:List AM.Obj) (u:TypeId) (o n:Nat) (y:V):WZ Tryz.prog H 34 u (.sl o 0 n n) y=Uq H (some (1,8)) (oat H o) o n (YI (Tryz.prog.underlying u) H y):=Yk dK
@[go_sem] theorem rB : RX Tryz.prog 34=some (1,8,.int .i64 0):=kf
@[go_sem] theorem ZoX (H:List AM.Obj) (fr:List V) (x y:Operand):W0 Tryz.prog (.makeSlice 34 x y) fr H=QK (some (1,8,.int .i64 0)) H (ev fr x) (ev fr y):=E7 rB
@[go_sem] theorem ZpD : YZ Tryz.prog 36=some 2:=kf
@[go_sem] theorem Znz : XJ Tryz.prog 36=some true:=kf
@[go_sem] theorem ZjD : ZR Tryz.prog 36 0=some 0:=kf
@[go_sem] theorem ZjE : ZR Tryz.prog 36 1=some 1:=kf
@[go_sem] theorem Zpn : BG Tryz.prog 36=some (BF [(0,1),(1,1)]):=kf
@[go_sem] theorem Zkq : Xe Tryz.prog 36=some [.list true [],.list true []]:=kf
@[go_sem] theorem ZpW : Tryz.prog.underlying 40=some (.slice 4):=kf
@[go_sem] theorem ZpE : YZ Tryz.prog 40=some 1:=kf
@[go_sem] theorem ZnA : XJ Tryz.prog 40=some false:=kf
@[go_sem] theorem ZnQ : We Tryz.prog 40=some (none,1):=kf
@[go_sem] theorem Znc : UR Tryz.prog 40=some 1:=kf
@[go_sem] theorem wZ : QM Tryz.prog 40=some (1,1):=kf
@[go_sem] theorem Zgb (H:List AM.Obj) (u:TypeId) (y:V):WZ Tryz.prog H 40 u (.p (.list true [])) y=Ma H (some (1,1)) (YI (Tryz.prog.underlying u) H y):=BH wZ
@[go_sem] theorem rC : RX Tryz.prog 40=some (1,1,.bool false):=kf
@[go_sem] theorem ZoY (H:List AM.Obj) (fr:List V) (x y:Operand):W0 Tryz.prog (.makeSlice 40 x y) fr H=QK (some (1,1,.bool false)) H (ev fr x) (ev fr y):=E7 rC
@[go_sem] theorem ZpX : Tryz.prog.underlying 41=some (.slice 158):=kf
@[go_sem] theorem ZpF : YZ Tryz.prog 41=some 1:=kf
@[go_sem] theorem ZnB : XJ Tryz.prog 41=some false:=kf
@[go_sem] theorem ZnR : We Tryz.prog 41=some (none,2):=kf
@[go_sem] theorem Znd : UR Tryz.prog 41=some 2:=kf
@[go_sem] theorem dL : QM Tryz.prog 41=some (2,16):=kf
@[go_sem] theorem Zgi (H:List AM.Obj) (u:TypeId) (o n:Nat) (y:V):WZ Tryz.prog H 41 u (.sl o 0 n n) y=Uq H (some (2,16)) (oat H o) o n (YI (Tryz.prog.underlying u) H y):=Yk dL
@[go_sem] theorem ZpG : YZ Tryz.prog 43=some 4:=kf
@[go_sem] theorem ZnC : XJ Tryz.prog 43=some true:=kf
@[go_sem] theorem ZjF : ZR Tryz.prog 43 0=some 0:=kf
@[go_sem] theorem ZjG : ZR Tryz.prog 43 1=some 1:=kf
@[go_sem] theorem ZjH : ZR Tryz.prog 43 2=some 2:=kf
@[go_sem] theorem ZjI : ZR Tryz.prog 43 3=some 3:=kf
@[go_sem] theorem Zpo : BG Tryz.prog 43=some (BF [(0,1),(1,1),(2,1),(3,1)]):=kf
@[go_sem] theorem Zkr : Xe Tryz.prog 43=some [.int .i64 0,.int .i64 0,.list true [],.list true []]:=kf
@[go_sem] theorem ZpH : YZ Tryz.prog 44=some 1:=kf
@[go_sem] theorem ZnD : XJ Tryz.prog 44=some false:=kf
@[go_sem] theorem ZpY : Tryz.prog.underlying 49=some (.slice 32):=kf
@[go_sem] theorem ZpI : YZ Tryz.prog 49=some 1:=kf
@[go_sem] theorem ZnE : XJ Tryz.prog 49=some false:=kf
@[go_sem] theorem ZnS : We Tryz.prog 49=some (none,2):=kf
@[go_sem] theorem Zne : UR Tryz.prog 49=some 2:=kf
@[go_sem] theorem xA : QM Tryz.prog 49=some (2,16):=kf
@[go_sem] theorem Zgj (H:List AM.Obj) (u:TypeId) (o n:Nat) (y:V):WZ Tryz.prog H 49 u (.sl o 0 n n) y=Uq H (some (2,16)) (oat H o) o n (YI (Tryz.prog.underlying u) H y):=Yk xA
@[go_sem] theorem Zks : Xe Tryz.prog 49=some [.list true []]:=kf
@[go_sem] theorem ZpZ : Tryz.prog.underlying 68=some (.slice 138):=kf
@[go_sem] theorem ZnT : We Tryz.prog 68=some (none,2):=kf
@[go_sem] theorem Znf : UR Tryz.prog 68=some 2:=kf
@[go_sem] theorem dM : QM Tryz.prog 68=some (2,24):=kf
@[go_sem] theorem Zgc (H:List AM.Obj) (u:TypeId) (y:V):WZ Tryz.prog H 68 u (.p (.list true [])) y=Ma H (some (2,24)) (YI (Tryz.prog.underlying u) H y):=BH dM
@[go_sem] theorem Zgk (H:List AM.Obj) (u:TypeId) (o n:Nat) (y:V):WZ Tryz.prog H 68 u (.sl o 0 n n) y=Uq H (some (2,24)) (oat H o) o n (YI (Tryz.prog.underlying u) H y):=Yk dM
@[go_sem] theorem ZpJ : YZ Tryz.prog 71=some 14:=kf
@[go_sem] theorem ZnF : XJ Tryz.prog 71=some true:=kf
@[go_sem] theorem ZjJ : ZR Tryz.prog 71 0=some 0:=kf
@[go_sem] theorem ZjK : ZR Tryz.prog 71 1=some 1:=kf
@[go_sem] theorem ZjL : ZR Tryz.prog 71 2=some 2:=kf
@[go_sem] theorem ZjM : ZR Tryz.prog 71 3=some 3:=kf
@[go_sem] theorem ZjN : ZR Tryz.prog 71 4=some 4:=kf
@[go_sem] theorem ZjO : ZR Tryz.prog 71 5=some 5:=kf
@[go_sem] theorem ZjP : ZR Tryz.prog 71 6=some 6:=kf
@[go_sem] theorem ZjQ : ZR Tryz.prog 71 7=some 7:=kf
@[go_sem] theorem ZjR : ZR Tryz.prog 71 8=some 8:=kf
@[go_sem] theorem ZjS : ZR Tryz.prog 71 9=some 9:=kf
@[go_sem] theorem ZfC : ZR Tryz.prog 71 10=some 10:=kf
@[go_sem] theorem ZfD : ZR Tryz.prog 71 11=some 11:=kf
@[go_sem] theorem ZfE : ZR Tryz.prog 71 12=some 12:=kf
@[go_sem] theorem ZfF : ZR Tryz.prog 71 13=some 13:=kf
@[go_sem] theorem Zpp : BG Tryz.prog 71=some (BF [(0,1),(1,1),(2,1),(3,1),(4,1),(5,1),(6,1),(7,1),(8,1),(9,1),(10,1),(11,1),(12,1),(13,1)]):=kf
@[go_sem] theorem Zkt : Xe Tryz.prog 71=some [.str [],.int .i64 0,.int .i64 0,.int .i64 0,.list true [],.int .i64 0,.int .i64 0,.int .i64 0,.int .i64 0,.int .i64 0,.int .i64 0,.int .i64 0,.int .i64 0,.int .i64 0]:=kf
@[go_sem] theorem ZpK : YZ Tryz.prog 73=some 4:=kf
@[go_sem] theorem ZnG : XJ Tryz.prog 73=some true:=kf
@[go_sem] theorem ZjT : ZR Tryz.prog 73 0=some 0:=kf
@[go_sem] theorem ZjU : ZR Tryz.prog 73 1=some 1:=kf
@[go_sem] theorem ZjV : ZR Tryz.prog 73 2=some 2:=kf
@[go_sem] theorem ZjW : ZR Tryz.prog 73 3=some 3:=kf
@[go_sem] theorem Zpq : BG Tryz.prog 73=some (BF [(0,1),(1,1),(2,1),(3,1)]):=kf
@[go_sem] theorem Zku : Xe Tryz.prog 73=some [.int .i64 0,.int .i64 0,.int .i64 0,.int .i64 0]:=kf
@[go_sem] theorem ZpL : YZ Tryz.prog 75=some 16:=kf
@[go_sem] theorem ZnH : XJ Tryz.prog 75=some true:=kf
@[go_sem] theorem ZjX : ZR Tryz.prog 75 0=some 0:=kf
@[go_sem] theorem ZjY : ZR Tryz.prog 75 1=some 1:=kf
@[go_sem] theorem ZjZ : ZR Tryz.prog 75 2=some 2:=kf
@[go_sem] theorem Zj0 : ZR Tryz.prog 75 3=some 6:=kf
@[go_sem] theorem Zj1 : ZR Tryz.prog 75 4=some 10:=kf
@[go_sem] theorem Zj2 : ZR Tryz.prog 75 5=some 11:=kf
@[go_sem] theorem Zj3 : ZR Tryz.prog 75 6=some 12:=kf
@[go_sem] theorem Zj4 : ZR Tryz.prog 75 7=some 13:=kf
@[go_sem] theorem Zj5 : ZR Tryz.prog 75 8=some 14:=kf
@[go_sem] theorem Zj6 : ZR Tryz.prog 75 9=some 15:=kf
@[go_sem] theorem Zpr : BG Tryz.prog 75=some (BF [(0,1),(1,1),(2,4),(6,4),(10,1),(11,1),(12,1),(13,1),(14,1),(15,1)]):=kf
@[go_sem] theorem Zkv : Xe Tryz.prog 75=some [.str [],.list true [],.int .i64 0,.int .i64 0,.int .i64 0,.int .i64 0,.int .i64 0,.int .i64 0,.int .i64 0,.int .i64 0,.int .i64 0,.int .i64 0,.int .i64 0,.int .i64 0,.int .i64 0,.bool false]:=kf
@[go_sem] theorem Zp0 : Tryz.prog.underlying 83=some (.slice 107):=kf
@[go_sem] theorem ZpM : YZ Tryz.prog 83=some 1:=kf
@[go_sem] theorem ZnI : XJ Tryz.prog 83=some false:=kf
@[go_sem] theorem ZnU : We Tryz.prog 83=some (none,7):=kf
@[go_sem] theorem Zng : UR Tryz.prog 83=some 7:=kf
@[go_sem] theorem xB : QM Tryz.prog 83=some (7,88):=kf
@[go_sem] theorem Zgl (H:List AM.Obj) (u:TypeId) (o n:Nat) (y:V):WZ Tryz.prog H 83 u (.sl o 0 n n) y=Uq H (some (7,88)) (oat H o) o n (YI (Tryz.prog.underlying u) H y):=Yk xB
@[go_sem] theorem ZpN : YZ Tryz.prog 88=some 4:=kf
@[go_sem] theorem ZnJ : XJ Tryz.prog 88=some true:=kf
@[go_sem] theorem Zj7 : ZR Tryz.prog 88 0=some 0:=kf
@[go_sem] theorem Zj8 : ZR Tryz.prog 88 1=some 1:=kf
@[go_sem] theorem Zj9 : ZR Tryz.prog 88 2=some 2:=kf
@[go_sem] theorem Zka : ZR Tryz.prog 88 3=some 3:=kf
@[go_sem] theorem Zps : BG Tryz.prog 88=some (BF [(0,1),(1,1),(2,1),(3,1)]):=kf
@[go_sem] theorem Zkw : Xe Tryz.prog 88=some [.int .i64 0,.int .i64 0,.int .i64 0,.int .i64 0]:=kf
@[go_sem] theorem Zoe : YZ Tryz.prog 105=some 2:=kf
@[go_sem] theorem ZlH : XJ Tryz.prog 105=some true:=kf
@[go_sem] theorem Zl4 : We Tryz.prog 105=some ((some 2),1):=kf
@[go_sem] theorem ZfL : Xe Tryz.prog 105=some [.int .i64 0,.int .i64 0]:=kf
@[go_sem] theorem Zof : YZ Tryz.prog 107=some 7:=kf
@[go_sem] theorem ZlI : XJ Tryz.prog 107=some true:=kf
@[go_sem] theorem ZeH : ZR Tryz.prog 107 0=some 0:=kf
@[go_sem] theorem ZeI : ZR Tryz.prog 107 1=some 1:=kf
@[go_sem] theorem ZeJ : ZR Tryz.prog 107 2=some 2:=kf
@[go_sem] theorem ZeK : ZR Tryz.prog 107 3=some 3:=kf
@[go_sem] theorem ZnW : BG Tryz.prog 107=some (BF [(0,1),(1,1),(2,1),(3,4)]):=kf
@[go_sem] theorem ZfM : Xe Tryz.prog 107=some [.int .i64 0,.int .i64 0,.int .i64 0,.int .i64 0,.int .i64 0,.list true [],.list true []]:=kf
@[go_sem] theorem Zog : YZ Tryz.prog 111=some 3:=kf
@[go_sem] theorem ZlJ : XJ Tryz.prog 111=some true:=kf
@[go_sem] theorem ZeL : ZR Tryz.prog 111 0=some 0:=kf
@[go_sem] theorem ZeM : ZR Tryz.prog 111 1=some 1:=kf
@[go_sem] theorem ZeN : ZR Tryz.prog 111 2=some 2:=kf
@[go_sem] theorem ZnX : BG Tryz.prog 111=some (BF [(0,1),(1,1),(2,1)]):=kf
@[go_sem] theorem ZfN : Xe Tryz.prog 111=some [.bool false,.list true [],.int .i64 0]:=kf
@[go_sem] theorem ZoC : Tryz.prog.underlying 116=some (.slice 299):=kf
@[go_sem] theorem Zoh : YZ Tryz.prog 116=some 1:=kf
@[go_sem] theorem ZlK : XJ Tryz.prog 116=some false:=kf
@[go_sem] theorem Zl5 : We Tryz.prog 116=some (none,4):=kf
@[go_sem] theorem Zln : UR Tryz.prog 116=some 4:=kf
@[go_sem] theorem nT : QM Tryz.prog 116=some (4,32):=kf
@[go_sem] theorem Zdc (H:List AM.Obj) (u:TypeId) (o n:Nat) (y:V):WZ Tryz.prog H 116 u (.sl o 0 n n) y=Uq H (some (4,32)) (oat H o) o n (YI (Tryz.prog.underlying u) H y):=Yk nT
@[go_sem] theorem Zoi : YZ Tryz.prog 118=some 5:=kf
@[go_sem] theorem ZlL : XJ Tryz.prog 118=some true:=kf
@[go_sem] theorem ZeO : ZR Tryz.prog 118 0=some 0:=kf
@[go_sem] theorem ZeP : ZR Tryz.prog 118 1=some 1:=kf
@[go_sem] theorem ZeQ : ZR Tryz.prog 118 2=some 2:=kf
@[go_sem] theorem ZeR : ZR Tryz.prog 118 3=some 3:=kf
@[go_sem] theorem ZeS : ZR Tryz.prog 118 4=some 4:=kf
@[go_sem] theorem ZnY : BG Tryz.prog 118=some (BF [(0,1),(1,1),(2,1),(3,1),(4,1)]):=kf
@[go_sem] theorem ZfO : Xe Tryz.prog 118=some [.bool false,.int .i64 0,.list true [],.int .i64 0,.int .i64 0]:=kf
@[go_sem] theorem ZoD : Tryz.prog.underlying 134=some (.int .u64):=kf
@[go_sem] theorem ZeT : ZR Tryz.prog 138 0=some 0:=kf
@[go_sem] theorem ZeU : ZR Tryz.prog 138 1=some 1:=kf
@[go_sem] theorem ZnZ : BG Tryz.prog 138=some (BF [(0,1),(1,1)]):=kf
@[go_sem] theorem ZfP : Xe Tryz.prog 138=some [.int .i64 0,.str []]:=kf
@[go_sem] theorem ZoE : Tryz.prog.underlying 141=some (.slice 44):=kf
@[go_sem] theorem Zl6 : We Tryz.prog 141=some (none,1):=kf
@[go_sem] theorem Zlo : UR Tryz.prog 141=some 1:=kf
@[go_sem] theorem nU : QM Tryz.prog 141=some (1,8):=kf
@[go_sem] theorem Zdd (H:List AM.Obj) (u:TypeId) (o n:Nat) (y:V):WZ Tryz.prog H 141 u (.sl o 0 n n) y=Uq H (some (1,8)) (oat H o) o n (YI (Tryz.prog.underlying u) H y):=Yk nU
@[go_sem] theorem ZeV : ZR Tryz.prog 151 0=some 0:=kf
@[go_sem] theorem ZeW : ZR Tryz.prog 151 1=some 6:=kf
@[go_sem] theorem ZeX : ZR Tryz.prog 151 2=some 7:=kf
@[go_sem] theorem Zn0 : BG Tryz.prog 151=some (BF [(0,6),(6,1),(7,3)]):=kf
@[go_sem] theorem ZfQ : Xe Tryz.prog 151=some [.list true [],.list true [],.list true [],.list true [],.list true [],.list true [],.list true [],.bool false,.list true [],.int .i64 0]:=kf
@[go_sem] theorem Zoj : YZ Tryz.prog 153=some 1:=kf
@[go_sem] theorem ZlM : XJ Tryz.prog 153=some false:=kf
@[go_sem] theorem Zok : YZ Tryz.prog 158=some 2:=kf
@[go_sem] theorem ZlN : XJ Tryz.prog 158=some true:=kf
@[go_sem] theorem ZeY : ZR Tryz.prog 158 0=some 0:=kf
@[go_sem] theorem ZeZ : ZR Tryz.prog 158 1=some 1:=kf
@[go_sem] theorem mF : Tryz.prog.stoodInHeld 158=false:=kf
@[go_sem] theorem Zn1 : BG Tryz.prog 158=some (BF [(0,1),(1,1)]):=kf
@[go_sem] theorem Zmw (d:Nat) (a b:List PV):GI Tryz.prog d 158 (Tryz.prog.underlying 158) (.agg a) (.agg b)=Ee (cE (Vp Tryz.prog d 3) (apart Tryz.prog 3 a 0) (apart Tryz.prog 3 b 0)) (Ee (cE (Vp Tryz.prog d 4) (apart Tryz.prog 4 a 1) (apart Tryz.prog 4 b 1)) (some true)):=by rw [Tryz.underlying158,Qq mF];simp [K5,BJ]
@[go_sem] theorem ZmG : Tryz.prog.eqGuardType Tryz.prog.depth 158=false:=kf
@[go_sem] theorem ZfR : Xe Tryz.prog 158=some [.int .i64 0,.bool false]:=kf
@[go_sem] theorem ZoF : Tryz.prog.underlying 182=some (.slice 187):=kf
@[go_sem] theorem Zol : YZ Tryz.prog 182=some 1:=kf
@[go_sem] theorem ZlO : XJ Tryz.prog 182=some false:=kf
@[go_sem] theorem Zl7 : We Tryz.prog 182=some (none,2):=kf
@[go_sem] theorem Zom : YZ Tryz.prog 184=some 6:=kf
@[go_sem] theorem ZlP : XJ Tryz.prog 184=some true:=kf
@[go_sem] theorem Ze0 : ZR Tryz.prog 184 0=some 0:=kf
@[go_sem] theorem Ze1 : ZR Tryz.prog 184 1=some 1:=kf
@[go_sem] theorem Ze2 : ZR Tryz.prog 184 2=some 2:=kf
@[go_sem] theorem Ze3 : ZR Tryz.prog 184 3=some 3:=kf
@[go_sem] theorem Ze4 : ZR Tryz.prog 184 4=some 4:=kf
@[go_sem] theorem Ze5 : ZR Tryz.prog 184 5=some 5:=kf
@[go_sem] theorem Zn2 : BG Tryz.prog 184=some (BF [(0,1),(1,1),(2,1),(3,1),(4,1),(5,1)]):=kf
@[go_sem] theorem ZfS : Xe Tryz.prog 184=some [.int .i64 0,.int .i64 0,.int .i64 0,.int .i64 0,.list true [],.list true []]:=kf
@[go_sem] theorem Zon : YZ Tryz.prog 187=some 2:=kf
@[go_sem] theorem ZlQ : XJ Tryz.prog 187=some true:=kf
@[go_sem] theorem Ze6 : ZR Tryz.prog 187 0=some 0:=kf
@[go_sem] theorem Ze7 : ZR Tryz.prog 187 1=some 1:=kf
@[go_sem] theorem ZfT : Xe Tryz.prog 187=some [.int .i64 0,.int .i64 0]:=kf
@[go_sem] theorem ZoG : Tryz.prog.underlying 190=some (.slice 5):=kf
@[go_sem] theorem Zlp : UR Tryz.prog 190=some 1:=kf
@[go_sem] theorem Zl8 : We Tryz.prog 195=some ((some 6),1):=kf
@[go_sem] theorem Zoo : YZ Tryz.prog 197=some 8:=kf
@[go_sem] theorem ZlR : XJ Tryz.prog 197=some true:=kf
@[go_sem] theorem Ze8 : ZR Tryz.prog 197 0=some 0:=kf
@[go_sem] theorem Ze9 : ZR Tryz.prog 197 1=some 1:=kf
@[go_sem] theorem Zfa : ZR Tryz.prog 197 2=some 2:=kf
@[go_sem] theorem Zn3 : BG Tryz.prog 197=some (BF [(0,1),(1,1),(2,6)]):=kf
@[go_sem] theorem ZfU : Xe Tryz.prog 197=some [.int .i64 0,.int .i64 0,.int .i64 0,.int .i64 0,.int .i64 0,.int .i64 0,.int .i64 0,.int .i64 0]:=kf
@[go_sem] theorem ZoH : Tryz.prog.underlying 216=some (.slice 34):=kf
@[go_sem] theorem Zl9 : We Tryz.prog 216=some (none,1):=kf
@[go_sem] theorem Zlq : UR Tryz.prog 216=some 1:=kf
@[go_sem] theorem nV : QM Tryz.prog 216=some (1,24):=kf
@[go_sem] theorem Zde (H:List AM.Obj) (u:TypeId) (o n:Nat) (y:V):WZ Tryz.prog H 216 u (.sl o 0 n n) y=Uq H (some (1,24)) (oat H o) o n (YI (Tryz.prog.underlying u) H y):=Yk nV
@[go_sem] theorem Zfb : ZR Tryz.prog 240 0=some 0:=kf
@[go_sem] theorem Zfc : ZR Tryz.prog 240 1=some 6:=kf
@[go_sem] theorem Zfd : ZR Tryz.prog 240 2=some 7:=kf
@[go_sem] theorem Zfe : ZR Tryz.prog 240 3=some 8:=kf
@[go_sem] theorem Zff : ZR Tryz.prog 240 4=some 9:=kf
@[go_sem] theorem Zfg : ZR Tryz.prog 240 5=some 16:=kf
@[go_sem] theorem Zn4 : BG Tryz.prog 240=some (BF [(0,6),(6,1),(7,1),(8,1),(9,7),(16,1)]):=kf
@[go_sem] theorem ZfV : Xe Tryz.prog 240=some [.list true [],.list true [],.list true [],.list true [],.list true [],.list true [],.int .i64 0,.int .i64 0,.int .i64 0,.int .i64 0,.int .i64 0,.int .i64 0,.int .i64 0,.int .i64 0,.list true [],.list true [],.bool false]:=kf
@[go_sem] theorem ZoI : Tryz.prog.underlying 244=some (.slice 278):=kf
@[go_sem] theorem Zma : We Tryz.prog 244=some (none,2):=kf
@[go_sem] theorem Zlr : UR Tryz.prog 244=some 2:=kf
@[go_sem] theorem P8 : QM Tryz.prog 244=some (2,16):=kf
@[go_sem] theorem Zdb (H:List AM.Obj) (u:TypeId) (y:V):WZ Tryz.prog H 244 u (.p (.list true [])) y=Ma H (some (2,16)) (YI (Tryz.prog.underlying u) H y):=BH P8
@[go_sem] theorem Zdf (H:List AM.Obj) (u:TypeId) (o n:Nat) (y:V):WZ Tryz.prog H 244 u (.sl o 0 n n) y=Uq H (some (2,16)) (oat H o) o n (YI (Tryz.prog.underlying u) H y):=Yk P8
@[go_sem] theorem Zop : YZ Tryz.prog 246=some 1:=kf
@[go_sem] theorem ZlS : XJ Tryz.prog 246=some false:=kf
@[go_sem] theorem Zoq : YZ Tryz.prog 248=some 1:=kf
@[go_sem] theorem ZlT : XJ Tryz.prog 248=some false:=kf
@[go_sem] theorem Zmb : We Tryz.prog 248=some (none,1):=kf
@[go_sem] theorem Zfh : ZR Tryz.prog 250 0=some 0:=kf
@[go_sem] theorem Zfi : ZR Tryz.prog 250 1=some 6:=kf
@[go_sem] theorem Zfj : ZR Tryz.prog 250 2=some 7:=kf
@[go_sem] theorem Zfk : ZR Tryz.prog 250 3=some 8:=kf
@[go_sem] theorem Zfl : ZR Tryz.prog 250 4=some 9:=kf
@[go_sem] theorem Zn5 : BG Tryz.prog 250=some (BF [(0,6),(6,1),(7,1),(8,1),(9,1)]):=kf
@[go_sem] theorem ZfW : Xe Tryz.prog 250=some [.list true [],.list true [],.list true [],.list true [],.list true [],.list true [],.list true [],.list true [],.nilm,.int .i64 0]:=kf
@[go_sem] theorem Zor : YZ Tryz.prog 278=some 2:=kf
@[go_sem] theorem ZlU : XJ Tryz.prog 278=some true:=kf
@[go_sem] theorem Zfm : ZR Tryz.prog 278 0=some 0:=kf
@[go_sem] theorem Zfn : ZR Tryz.prog 278 1=some 1:=kf
@[go_sem] theorem mG : Tryz.prog.stoodInHeld 278=false:=kf
@[go_sem] theorem Zn6 : BG Tryz.prog 278=some (BF [(0,1),(1,1)]):=kf
@[go_sem] theorem Zmx (d:Nat) (a b:List PV):GI Tryz.prog d 278 (Tryz.prog.underlying 278) (.agg a) (.agg b)=Ee (cE (Vp Tryz.prog d 3) (apart Tryz.prog 3 a 0) (apart Tryz.prog 3 b 0)) (Ee (cE (Vp Tryz.prog d 3) (apart Tryz.prog 3 a 1) (apart Tryz.prog 3 b 1)) (some true)):=by rw [Tryz.underlying278,Qq mG];simp [K5,BJ]
@[go_sem] theorem ZmH : Tryz.prog.eqGuardType Tryz.prog.depth 278=false:=kf
@[go_sem] theorem ZfX : Xe Tryz.prog 278=some [.int .i64 0,.int .i64 0]:=kf
@[go_sem] theorem Zos : YZ Tryz.prog 283=some 2:=kf
@[go_sem] theorem ZlV : XJ Tryz.prog 283=some true:=kf
@[go_sem] theorem Zn7 : BG Tryz.prog 283=some (BF [(0,1),(1,1)]):=kf
@[go_sem] theorem ZfY : Xe Tryz.prog 283=some [.int .i64 0,.int .i64 0]:=kf
@[go_sem] theorem ZoJ : Tryz.prog.underlying 284=some (.array 4 3):=kf
@[go_sem] theorem Zot : YZ Tryz.prog 284=some 4:=kf
@[go_sem] theorem ZlW : XJ Tryz.prog 284=some true:=kf
@[go_sem] theorem Zn8 : BG Tryz.prog 284=some (plA 1):=kf
@[go_sem] theorem ZfZ : Xe Tryz.prog 284=some [.int .i64 0,.int .i64 0,.int .i64 0,.int .i64 0]:=kf
@[go_sem] theorem Zou : YZ Tryz.prog 294=some 4:=kf
@[go_sem] theorem ZlX : XJ Tryz.prog 294=some true:=kf
@[go_sem] theorem Zfo : ZR Tryz.prog 294 0=some 0:=kf
@[go_sem] theorem Zfp : ZR Tryz.prog 294 1=some 1:=kf
@[go_sem] theorem Zfq : ZR Tryz.prog 294 2=some 2:=kf
@[go_sem] theorem Zfr : ZR Tryz.prog 294 3=some 3:=kf
@[go_sem] theorem Zn9 : BG Tryz.prog 294=some (BF [(0,1),(1,1),(2,1),(3,1)]):=kf
@[go_sem] theorem Zf0 : Xe Tryz.prog 294=some [.int .i64 0,.int .i64 0,.int .i64 0,.int .i64 0]:=kf
@[go_sem] theorem Zov : YZ Tryz.prog 299=some 4:=kf
@[go_sem] theorem ZlY : XJ Tryz.prog 299=some true:=kf
@[go_sem] theorem Zfs : ZR Tryz.prog 299 1=some 1:=kf
@[go_sem] theorem Zft : ZR Tryz.prog 299 2=some 2:=kf
@[go_sem] theorem Zfu : ZR Tryz.prog 299 3=some 3:=kf
@[go_sem] theorem Zoa : BG Tryz.prog 299=some (BF [(0,1),(1,1),(2,1),(3,1)]):=kf
@[go_sem] theorem Zf1 : Xe Tryz.prog 299=some [.int .i64 0,.int .i64 0,.int .i64 0,.bool false]:=kf
@[go_sem] theorem Zmc : We Tryz.prog 309=some ((some 64),1):=kf
@[go_sem] theorem ZoK : Tryz.prog.underlying 313=some (.slice 153):=kf
@[go_sem] theorem Zmd : We Tryz.prog 313=some (none,1):=kf
@[go_sem] theorem Zls : UR Tryz.prog 313=some 1:=kf
@[go_sem] theorem ZoL : Tryz.prog.underlying 328=some (.slice 73):=kf
@[go_sem] theorem Zow : YZ Tryz.prog 328=some 1:=kf
@[go_sem] theorem ZlZ : XJ Tryz.prog 328=some false:=kf
@[go_sem] theorem Zme : We Tryz.prog 328=some (none,4):=kf
@[go_sem] theorem Zlt : UR Tryz.prog 328=some 4:=kf
@[go_sem] theorem nW : QM Tryz.prog 328=some (4,32):=kf
@[go_sem] theorem Zdg (H:List AM.Obj) (u:TypeId) (o n:Nat) (y:V):WZ Tryz.prog H 328 u (.sl o 0 n n) y=Uq H (some (4,32)) (oat H o) o n (YI (Tryz.prog.underlying u) H y):=Yk nW
@[go_sem] theorem Zox : YZ Tryz.prog 330=some 25:=kf
@[go_sem] theorem Zl0 : XJ Tryz.prog 330=some true:=kf
@[go_sem] theorem Zfv : ZR Tryz.prog 330 0=some 0:=kf
@[go_sem] theorem Zfw : ZR Tryz.prog 330 1=some 6:=kf
@[go_sem] theorem Zfx : ZR Tryz.prog 330 2=some 20:=kf
@[go_sem] theorem Zfy : ZR Tryz.prog 330 3=some 24:=kf
@[go_sem] theorem Zob : BG Tryz.prog 330=some (BF [(0,6),(6,14),(20,4),(24,1)]):=kf
@[go_sem] theorem Zf2 : Xe Tryz.prog 330=some [.list true [],.list true [],.list true [],.list true [],.list true [],.list true [],.str [],.int .i64 0,.int .i64 0,.int .i64 0,.list true [],.int .i64 0,.int .i64 0,.int .i64 0,.int .i64 0,.int .i64 0,.int .i64 0,.int .i64 0,.int .i64 0,.int .i64 0,.int .i64 0,.int .i64 0,.list true [],.list true [],.list true []]:=kf
@[go_sem] theorem Zoy : YZ Tryz.prog 334=some 7:=kf
@[go_sem] theorem Zl1 : XJ Tryz.prog 334=some true:=kf
@[go_sem] theorem Zfz : ZR Tryz.prog 334 0=some 0:=kf
@[go_sem] theorem ZfA : ZR Tryz.prog 334 1=some 1:=kf
@[go_sem] theorem ZfB : ZR Tryz.prog 334 2=some 2:=kf
@[go_sem] theorem Zoc : BG Tryz.prog 334=some (BF [(0,1),(1,1),(2,5)]):=kf
@[go_sem] theorem Zf3 : Xe Tryz.prog 334=some [.int .i64 0,.int .i64 0,.bool false,.int .i64 0,.list true [],.int .i64 0,.int .i64 0]:=kf
@[go_sem] theorem ZoM : Tryz.prog.underlying 336=some (.slice 334):=kf
@[go_sem] theorem Zmf : We Tryz.prog 336=some (none,7):=kf
@[go_sem] theorem Zlu : UR Tryz.prog 336=some 7:=kf
@[go_sem] theorem nX : QM Tryz.prog 336=some (7,72):=kf
@[go_sem] theorem Zdh (H:List AM.Obj) (u:TypeId) (o n:Nat) (y:V):WZ Tryz.prog H 336 u (.sl o 0 n n) y=Uq H (some (7,72)) (oat H o) o n (YI (Tryz.prog.underlying u) H y):=Yk nX
@[go_sem] theorem Zoz : YZ Tryz.prog 342=some 3:=kf
@[go_sem] theorem Zl2 : XJ Tryz.prog 342=some true:=kf
@[go_sem] theorem mH : Tryz.prog.stoodInHeld 342=false:=kf
@[go_sem] theorem Zod : BG Tryz.prog 342=some (BF [(0,1),(1,1),(2,1)]):=kf
@[go_sem] theorem Zmy (d:Nat) (a b:List PV):GI Tryz.prog d 342 (Tryz.prog.underlying 342) (.agg a) (.agg b)=Ee (cE (Vp Tryz.prog d 3) (apart Tryz.prog 3 a 0) (apart Tryz.prog 3 b 0)) (Ee (cE (Vp Tryz.prog d 3) (apart Tryz.prog 3 a 1) (apart Tryz.prog 3 b 1)) (Ee (cE (Vp Tryz.prog d 3) (apart Tryz.prog 3 a 2) (apart Tryz.prog 3 b 2)) (some true))):=by rw [Tryz.underlying342,Qq mH];simp [K5,BJ]
@[go_sem] theorem ZmI : Tryz.prog.eqGuardType Tryz.prog.depth 342=false:=kf
@[go_sem] theorem Zf4 : Xe Tryz.prog 342=some [.int .i64 0,.int .i64 0,.int .i64 0]:=kf
theorem Zm1 : Zi Tryz.prog 4:=fun args w=>Tryz.call4 args w
theorem Zm2 : Zi Tryz.prog 7:=fun args w=>Tryz.call7 args w
theorem Zm3 : Zi Tryz.prog 9:=fun args w=>Tryz.call9 args w
theorem Zhx : Zi Tryz.prog 10:=fun args w=>Tryz.call10 args w
theorem Zhy : Zi Tryz.prog 11:=fun args w=>Tryz.call11 args w
theorem Zhz : Zi Tryz.prog 12:=fun args w=>Tryz.call12 args w
theorem ZhA : Zi Tryz.prog 14:=fun args w=>Tryz.call14 args w
theorem ZhB : Zi Tryz.prog 15:=fun args w=>Tryz.call15 args w
theorem ZhC : Zi Tryz.prog 16:=fun args w=>Tryz.call16 args w
theorem ZhD : Zi Tryz.prog 19:=fun args w=>Tryz.call19 args w
theorem ZhE : Zi Tryz.prog 21:=fun args w=>Tryz.call21 args w
theorem ZhF : Zi Tryz.prog 22:=fun args w=>Tryz.call22 args w
theorem ZhG : Zi Tryz.prog 23:=fun args w=>Tryz.call23 args w
theorem ZhH : Zi Tryz.prog 24:=fun args w=>Tryz.call24 args w
theorem ZhI : Zi Tryz.prog 25:=fun args w=>Tryz.call25 args w
theorem ZhJ : Zi Tryz.prog 26:=fun args w=>Tryz.call26 args w
theorem ZhK : Zi Tryz.prog 27:=fun args w=>Tryz.call27 args w
theorem ZhL : Zi Tryz.prog 28:=fun args w=>Tryz.call28 args w
theorem ZhM : Zi Tryz.prog 29:=fun args w=>Tryz.call29 args w
theorem ZhN : Zi Tryz.prog 30:=fun args w=>Tryz.call30 args w
theorem ZhO : Zi Tryz.prog 31:=fun args w=>Tryz.call31 args w
theorem ZhP : Zi Tryz.prog 33:=fun args w=>Tryz.call33 args w
theorem ZhQ : Zi Tryz.prog 34:=fun args w=>Tryz.call34 args w
theorem ZhR : Zi Tryz.prog 35:=fun args w=>Tryz.call35 args w
theorem ZhS : Zi Tryz.prog 40:=fun args w=>Tryz.call40 args w
theorem ZhT : Zi Tryz.prog 41:=fun args w=>Tryz.call41 args w
theorem ZhU : Zi Tryz.prog 42:=fun args w=>Tryz.call42 args w
theorem ZhV : Zi Tryz.prog 43:=fun args w=>Tryz.call43 args w
theorem ZhW : Zi Tryz.prog 44:=fun args w=>Tryz.call44 args w
theorem ZhX : Zi Tryz.prog 45:=fun args w=>Tryz.call45 args w
theorem ZhY : Zi Tryz.prog 46:=fun args w=>Tryz.call46 args w
theorem ZhZ : Zi Tryz.prog 47:=fun args w=>Tryz.call47 args w
theorem Zh0 : Zi Tryz.prog 48:=fun args w=>Tryz.call48 args w
theorem Zh1 : Zi Tryz.prog 49:=fun args w=>Tryz.call49 args w
theorem Zh2 : Zi Tryz.prog 50:=fun args w=>Tryz.call50 args w
theorem Zh3 : Zi Tryz.prog 51:=fun args w=>Tryz.call51 args w
theorem Zh4 : Zi Tryz.prog 52:=fun args w=>Tryz.call52 args w
theorem Zh5 : Zi Tryz.prog 54:=fun args w=>Tryz.call54 args w
theorem Zh6 : Zi Tryz.prog 56:=fun args w=>Tryz.call56 args w
theorem Zh7 : Zi Tryz.prog 57:=fun args w=>Tryz.call57 args w
theorem Zh8 : Zi Tryz.prog 58:=fun args w=>Tryz.call58 args w
theorem Zh9 : Zi Tryz.prog 59:=fun args w=>Tryz.call59 args w
theorem Zia : Zi Tryz.prog 60:=fun args w=>Tryz.call60 args w
theorem vD : Zi Tryz.prog 61:=fun args w=>Tryz.call61 args w
theorem Zib : Zi Tryz.prog 62:=fun args w=>Tryz.call62 args w
theorem Zic : Zi Tryz.prog 63:=fun args w=>Tryz.call63 args w
theorem Zid : Zi Tryz.prog 64:=fun args w=>Tryz.call64 args w
theorem Zie : Zi Tryz.prog 65:=fun args w=>Tryz.call65 args w
theorem Zif : Zi Tryz.prog 66:=fun args w=>Tryz.call66 args w
theorem Zig : Zi Tryz.prog 69:=fun args w=>Tryz.call69 args w
theorem Zih : Zi Tryz.prog 71:=fun args w=>Tryz.call71 args w
theorem Zii : Zi Tryz.prog 72:=fun args w=>Tryz.call72 args w
theorem Zij : Zi Tryz.prog 73:=fun args w=>Tryz.call73 args w
theorem Zik : Zi Tryz.prog 74:=fun args w=>Tryz.call74 args w
theorem Zil : Zi Tryz.prog 75:=fun args w=>Tryz.call75 args w
theorem Zim : Zi Tryz.prog 76:=fun args w=>Tryz.call76 args w
theorem Zin : Zi Tryz.prog 77:=fun args w=>Tryz.call77 args w
theorem Zio : Zi Tryz.prog 78:=fun args w=>Tryz.call78 args w
theorem Ziq : Zi Tryz.prog 79:=fun args w=>Tryz.call79 args w
theorem Zir : Zi Tryz.prog 80:=fun args w=>Tryz.call80 args w
theorem Zis : Zi Tryz.prog 81:=fun args w=>Tryz.call81 args w
theorem Zit : Zi Tryz.prog 82:=fun args w=>Tryz.call82 args w
theorem vE : Zi Tryz.prog 83:=fun args w=>Tryz.call83 args w
theorem Ziu : Zi Tryz.prog 84:=fun args w=>Tryz.call84 args w
theorem vF : Zi Tryz.prog 85:=fun args w=>Tryz.call85 args w
theorem Ziv : Zi Tryz.prog 86:=fun args w=>Tryz.call86 args w
theorem Ziw : Zi Tryz.prog 88:=fun args w=>Tryz.call88 args w
theorem Zix : Zi Tryz.prog 89:=fun args w=>Tryz.call89 args w
theorem Ziy : Zi Tryz.prog 90:=fun args w=>Tryz.call90 args w
theorem vG : Zi Tryz.prog 91:=fun args w=>Tryz.call91 args w
theorem Ziz : Zi Tryz.prog 92:=fun args w=>Tryz.call92 args w
theorem vH : Zi Tryz.prog 93:=fun args w=>Tryz.call93 args w
theorem ZiA : Zi Tryz.prog 94:=fun args w=>Tryz.call94 args w
theorem ZiB : Zi Tryz.prog 95:=fun args w=>Tryz.call95 args w
theorem ZiC : Zi Tryz.prog 97:=fun args w=>Tryz.call97 args w
theorem zA : Zi Tryz.prog 108:=fun args w=>Tryz.call108 args w
theorem zB : Zi Tryz.prog 109:=fun args w=>Tryz.call109 args w
theorem zC : Zi Tryz.prog 110:=fun args w=>Tryz.call110 args w
theorem zD : Zi Tryz.prog 111:=fun args w=>Tryz.call111 args w
theorem zF : Zi Tryz.prog 112:=fun args w=>Tryz.call112 args w
theorem zG : Zi Tryz.prog 113:=fun args w=>Tryz.call113 args w
theorem zH : Zi Tryz.prog 114:=fun args w=>Tryz.call114 args w
theorem zJ : Zi Tryz.prog 115:=fun args w=>Tryz.call115 args w
theorem zK : Zi Tryz.prog 116:=fun args w=>Tryz.call116 args w
theorem zL : Zi Tryz.prog 117:=fun args w=>Tryz.call117 args w
theorem zM : Zi Tryz.prog 118:=fun args w=>Tryz.call118 args w
theorem zN : Zi Tryz.prog 119:=fun args w=>Tryz.call119 args w
theorem zO : Zi Tryz.prog 120:=fun args w=>Tryz.call120 args w
theorem zP : Zi Tryz.prog 121:=fun args w=>Tryz.call121 args w
theorem zQ : Zi Tryz.prog 122:=fun args w=>Tryz.call122 args w
theorem iN : Zi Tryz.prog 123:=fun args w=>Tryz.call123 args w
theorem zR : Zi Tryz.prog 124:=fun args w=>Tryz.call124 args w
theorem zS : Zi Tryz.prog 125:=fun args w=>Tryz.call125 args w
theorem zT : Zi Tryz.prog 126:=fun args w=>Tryz.call126 args w
theorem zU : Zi Tryz.prog 127:=fun args w=>Tryz.call127 args w
theorem zV : Zi Tryz.prog 128:=fun args w=>Tryz.call128 args w
theorem zW : Zi Tryz.prog 129:=fun args w=>Tryz.call129 args w
theorem zX : Zi Tryz.prog 130:=fun args w=>Tryz.call130 args w
theorem zY : Zi Tryz.prog 131:=fun args w=>Tryz.call131 args w
theorem zZ : Zi Tryz.prog 132:=fun args w=>Tryz.call132 args w
theorem Zaa : Zi Tryz.prog 133:=fun args w=>Tryz.call133 args w
theorem Zab : Zi Tryz.prog 134:=fun args w=>Tryz.call134 args w
theorem Zac : Zi Tryz.prog 135:=fun args w=>Tryz.call135 args w
theorem Zad : Zi Tryz.prog 136:=fun args w=>Tryz.call136 args w
theorem Zae : Zi Tryz.prog 137:=fun args w=>Tryz.call137 args w
theorem Zaf : Zi Tryz.prog 138:=fun args w=>Tryz.call138 args w
theorem Zag : Zi Tryz.prog 139:=fun args w=>Tryz.call139 args w
theorem Zah : Zi Tryz.prog 140:=fun args w=>Tryz.call140 args w
theorem Zai : Zi Tryz.prog 141:=fun args w=>Tryz.call141 args w
theorem Zaj : Zi Tryz.prog 142:=fun args w=>Tryz.call142 args w
theorem Zak : Zi Tryz.prog 143:=fun args w=>Tryz.call143 args w
theorem Zal : Zi Tryz.prog 157:=fun args w=>Tryz.call157 args w
theorem Zam : Zi Tryz.prog 158:=fun args w=>Tryz.call158 args w
theorem Zan : Zi Tryz.prog 159:=fun args w=>Tryz.call159 args w
theorem Zao : Zi Tryz.prog 160:=fun args w=>Tryz.call160 args w
theorem Zap : Zi Tryz.prog 161:=fun args w=>Tryz.call161 args w
theorem iO : Zi Tryz.prog 162:=fun args w=>Tryz.call162 args w
theorem iP : Zi Tryz.prog 163:=fun args w=>Tryz.call163 args w
theorem Zaq : Zi Tryz.prog 164:=fun args w=>Tryz.call164 args w
theorem Zar : Zi Tryz.prog 165:=fun args w=>Tryz.call165 args w
theorem Zas : Zi Tryz.prog 166:=fun args w=>Tryz.call166 args w
theorem Zat : Zi Tryz.prog 167:=fun args w=>Tryz.call167 args w
theorem Zau : Zi Tryz.prog 168:=fun args w=>Tryz.call168 args w
theorem Zav : Zi Tryz.prog 169:=fun args w=>Tryz.call169 args w
theorem Zaw : Zi Tryz.prog 170:=fun args w=>Tryz.call170 args w
theorem Zax : Zi Tryz.prog 171:=fun args w=>Tryz.call171 args w
theorem Zay : Zi Tryz.prog 172:=fun args w=>Tryz.call172 args w
theorem Zaz : Zi Tryz.prog 174:=fun args w=>Tryz.call174 args w
theorem ZaA : Zi Tryz.prog 175:=fun args w=>Tryz.call175 args w
theorem ZaB : Zi Tryz.prog 176:=fun args w=>Tryz.call176 args w
theorem ZaC : Zi Tryz.prog 177:=fun args w=>Tryz.call177 args w
theorem ZaD : Zi Tryz.prog 178:=fun args w=>Tryz.call178 args w
theorem ZaE : Zi Tryz.prog 179:=fun args w=>Tryz.call179 args w
theorem ZaF : Zi Tryz.prog 180:=fun args w=>Tryz.call180 args w
theorem ZaG : Zi Tryz.prog 181:=fun args w=>Tryz.call181 args w
theorem ZaH : Zi Tryz.prog 182:=fun args w=>Tryz.call182 args w
theorem ZaI : Zi Tryz.prog 187:=fun args w=>Tryz.call187 args w
theorem iQ : Zi Tryz.prog 188:=fun args w=>Tryz.call188 args w
theorem ZaJ : Zi Tryz.prog 189:=fun args w=>Tryz.call189 args w
theorem ZaK : Zi Tryz.prog 190:=fun args w=>Tryz.call190 args w
theorem ZaL : Zi Tryz.prog 191:=fun args w=>Tryz.call191 args w
theorem ZaM : Zi Tryz.prog 192:=fun args w=>Tryz.call192 args w
theorem ZaN : Zi Tryz.prog 193:=fun args w=>Tryz.call193 args w
theorem ZaO : Zi Tryz.prog 194:=fun args w=>Tryz.call194 args w
theorem ZaP : Zi Tryz.prog 195:=fun args w=>Tryz.call195 args w
theorem iR : Zi Tryz.prog 196:=fun args w=>Tryz.call196 args w
theorem ZaQ : Zi Tryz.prog 197:=fun args w=>Tryz.call197 args w
theorem ZaR : Zi Tryz.prog 198:=fun args w=>Tryz.call198 args w
theorem ZaS : Zi Tryz.prog 199:=fun args w=>Tryz.call199 args w
theorem ZaT : Zi Tryz.prog 200:=fun args w=>Tryz.call200 args w
theorem ZaU : Zi Tryz.prog 201:=fun args w=>Tryz.call201 args w
theorem W9 : Zi Tryz.prog 211:=fun args w=>Tryz.call211 args w
theorem ZaV : Zi Tryz.prog 212:=fun args w=>Tryz.call212 args w
theorem ZaW : Zi Tryz.prog 213:=fun args w=>Tryz.call213 args w
theorem ZaX : Zi Tryz.prog 214:=fun args w=>Tryz.call214 args w
theorem ZaY : Zi Tryz.prog 215:=fun args w=>Tryz.call215 args w
theorem ZaZ : Zi Tryz.prog 216:=fun args w=>Tryz.call216 args w
theorem Za0 : Zi Tryz.prog 218:=fun args w=>Tryz.call218 args w
theorem Za1 : Zi Tryz.prog 219:=fun args w=>Tryz.call219 args w
theorem Za2 : Zi Tryz.prog 220:=fun args w=>Tryz.call220 args w
theorem Za3 : Zi Tryz.prog 221:=fun args w=>Tryz.call221 args w
theorem Za4 : Zi Tryz.prog 222:=fun args w=>Tryz.call222 args w
theorem Za5 : Zi Tryz.prog 223:=fun args w=>Tryz.call223 args w
theorem Za6 : Zi Tryz.prog 227:=fun args w=>Tryz.call227 args w
theorem Za7 : Zi Tryz.prog 228:=fun args w=>Tryz.call228 args w
theorem Za8 : Zi Tryz.prog 229:=fun args w=>Tryz.call229 args w
theorem Za9 : Zi Tryz.prog 230:=fun args w=>Tryz.call230 args w
theorem Zba : Zi Tryz.prog 231:=fun args w=>Tryz.call231 args w
theorem Zbb : Zi Tryz.prog 232:=fun args w=>Tryz.call232 args w
theorem Zbc : Zi Tryz.prog 233:=fun args w=>Tryz.call233 args w
theorem Zbd : Zi Tryz.prog 234:=fun args w=>Tryz.call234 args w
theorem Zbe : Zi Tryz.prog 235:=fun args w=>Tryz.call235 args w
theorem Zbf : Zi Tryz.prog 236:=fun args w=>Tryz.call236 args w
theorem Zbg : Zi Tryz.prog 237:=fun args w=>Tryz.call237 args w
theorem Zbh : Zi Tryz.prog 238:=fun args w=>Tryz.call238 args w
theorem Zbi : Zi Tryz.prog 239:=fun args w=>Tryz.call239 args w
theorem Zbj : Zi Tryz.prog 240:=fun args w=>Tryz.call240 args w
theorem Zbk : Zi Tryz.prog 241:=fun args w=>Tryz.call241 args w
theorem Zbl : Zi Tryz.prog 243:=fun args w=>Tryz.call243 args w
theorem Zbm : Zi Tryz.prog 244:=fun args w=>Tryz.call244 args w
theorem Zbn : Zi Tryz.prog 245:=fun args w=>Tryz.call245 args w
theorem Zbo : Zi Tryz.prog 246:=fun args w=>Tryz.call246 args w
theorem Zbp : Zi Tryz.prog 247:=fun args w=>Tryz.call247 args w
theorem Zbq : Zi Tryz.prog 248:=fun args w=>Tryz.call248 args w
theorem Zbr : Zi Tryz.prog 249:=fun args w=>Tryz.call249 args w
theorem Zbs : Zi Tryz.prog 250:=fun args w=>Tryz.call250 args w
theorem Zbt : Zi Tryz.prog 251:=fun args w=>Tryz.call251 args w
theorem Zbu : Zi Tryz.prog 252:=fun args w=>Tryz.call252 args w
theorem Zbv : Zi Tryz.prog 253:=fun args w=>Tryz.call253 args w
theorem Zbw : Zi Tryz.prog 254:=fun args w=>Tryz.call254 args w
theorem Zbx : Zi Tryz.prog 255:=fun args w=>Tryz.call255 args w
theorem iS : Zi Tryz.prog 256:=fun args w=>Tryz.call256 args w
theorem Zby : Zi Tryz.prog 257:=fun args w=>Tryz.call257 args w
theorem Zbz : Zi Tryz.prog 258:=fun args w=>Tryz.call258 args w
theorem ZbA : Zi Tryz.prog 259:=fun args w=>Tryz.call259 args w
theorem ZbB : Zi Tryz.prog 260:=fun args w=>Tryz.call260 args w
theorem ZbC : Zi Tryz.prog 261:=fun args w=>Tryz.call261 args w
theorem ZbD : Zi Tryz.prog 262:=fun args w=>Tryz.call262 args w
theorem ZbE : Zi Tryz.prog 263:=fun args w=>Tryz.call263 args w
theorem ZbF : Zi Tryz.prog 264:=fun args w=>Tryz.call264 args w
theorem ZbG : Zi Tryz.prog 265:=fun args w=>Tryz.call265 args w
theorem ZbH : Zi Tryz.prog 266:=fun args w=>Tryz.call266 args w
theorem ZbI : Zi Tryz.prog 267:=fun args w=>Tryz.call267 args w
theorem ZbJ : Zi Tryz.prog 268:=fun args w=>Tryz.call268 args w
theorem ZbK : Zi Tryz.prog 269:=fun args w=>Tryz.call269 args w
theorem ZbL : Zi Tryz.prog 270:=fun args w=>Tryz.call270 args w
theorem ZbM : Zi Tryz.prog 271:=fun args w=>Tryz.call271 args w
theorem ZbN : Zi Tryz.prog 272:=fun args w=>Tryz.call272 args w
theorem ZbO : Zi Tryz.prog 273:=fun args w=>Tryz.call273 args w
theorem ZbP : Zi Tryz.prog 274:=fun args w=>Tryz.call274 args w
theorem ZbQ : Zi Tryz.prog 275:=fun args w=>Tryz.call275 args w
theorem ZbR : Zi Tryz.prog 276:=fun args w=>Tryz.call276 args w
theorem ZbS : Zi Tryz.prog 277:=fun args w=>Tryz.call277 args w
theorem ZbT : Zi Tryz.prog 278:=fun args w=>Tryz.call278 args w
theorem ZbU : Zi Tryz.prog 279:=fun args w=>Tryz.call279 args w
theorem ZbV : Zi Tryz.prog 280:=fun args w=>Tryz.call280 args w
theorem ZbW : Zi Tryz.prog 281:=fun args w=>Tryz.call281 args w
theorem ZbX : Zi Tryz.prog 282:=fun args w=>Tryz.call282 args w
theorem ZbY : Zi Tryz.prog 283:=fun args w=>Tryz.call283 args w
theorem ZbZ : Zi Tryz.prog 284:=fun args w=>Tryz.call284 args w
theorem Zb0 : Zi Tryz.prog 285:=fun args w=>Tryz.call285 args w
theorem Zb1 : Zi Tryz.prog 286:=fun args w=>Tryz.call286 args w
theorem Zb2 : Zi Tryz.prog 287:=fun args w=>Tryz.call287 args w
theorem Zb3 : Zi Tryz.prog 288:=fun args w=>Tryz.call288 args w
theorem Zb4 : Zi Tryz.prog 289:=fun args w=>Tryz.call289 args w
theorem Zb5 : Zi Tryz.prog 290:=fun args w=>Tryz.call290 args w
theorem Zb6 : Zi Tryz.prog 291:=fun args w=>Tryz.call291 args w
theorem Zb7 : Zi Tryz.prog 292:=fun args w=>Tryz.call292 args w
theorem Zb8 : Zi Tryz.prog 293:=fun args w=>Tryz.call293 args w
theorem Zb9 : Zi Tryz.prog 294:=fun args w=>Tryz.call294 args w
theorem Zca : Zi Tryz.prog 295:=fun args w=>Tryz.call295 args w
theorem Zcb : Zi Tryz.prog 296:=fun args w=>Tryz.call296 args w
theorem Zcc : Zi Tryz.prog 297:=fun args w=>Tryz.call297 args w
theorem Zcd : Zi Tryz.prog 298:=fun args w=>Tryz.call298 args w
theorem mixed : Tryz.prog.follows .mixedOrders=true:=Ze
end Go.Proofs.YtenjikkmmibffaaGreatDoor.K
