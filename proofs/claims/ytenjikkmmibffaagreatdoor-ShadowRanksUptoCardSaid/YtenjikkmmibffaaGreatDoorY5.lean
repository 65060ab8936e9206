/- Declarations that the closing texts need, part 5: joined by tools/slim.py. -/
import Derived.Test.YtenjikkmmibffaaGreatDoorY4
import Derived.KernelRfl
namespace Go.Proofs.YtenjikkmmibffaaGreatDoor.K
open Go Go.AM Go.Proofs
abbrev PC (f:FuncId) (a:List V) (y:PV):=ACalls Tryz.prog f a [] fun x H'=>x= .p y/\H'= []
abbrev PT (f:FuncId) (a:List V) (b:List V):=ACalls Tryz.prog f a [] fun x H'=>x= .tup b/\H'= []
theorem kf {α:Type} {a b:α} (h:a=b:=by kernel_rfl):a=b:=Zk h rfl
theorem Ze {p:Prop} (h:p:=by kernel_rfl):p:=h
@[go_sem] theorem Zrc : Tryz.prog.underlying 3=some (.int .i64):=kf
@[go_sem] theorem Zq8 : YZ Tryz.prog 3=some 1:=kf
@[go_sem] theorem Zqa : XM Tryz.prog 3=some false:=kf
@[go_sem] theorem Znj : Z9 Tryz.prog 3=some [.int .i64 0]:=kf
@[go_sem] theorem Zrd : Tryz.prog.underlying 4=some .bool:=kf
@[go_sem] theorem Zq9 : YZ Tryz.prog 4=some 1:=kf
@[go_sem] theorem Zqb : XM Tryz.prog 4=some false:=kf
@[go_sem] theorem Zre : Tryz.prog.underlying 5=some (.int .u8):=kf
@[go_sem] theorem Zra : YZ Tryz.prog 5=some 1:=kf
@[go_sem] theorem Zqc : XM Tryz.prog 5=some false:=kf
@[go_sem] theorem Zrf : Tryz.prog.underlying 9=some .string:=kf
@[go_sem] theorem Zrb : YZ Tryz.prog 9=some 1:=kf
@[go_sem] theorem Zqd : XM Tryz.prog 9=some false:=kf
@[go_sem] theorem ZqM : Tryz.prog.underlying 22=some (.slice 9):=kf
@[go_sem] theorem Zqp : YZ Tryz.prog 22=some 1:=kf
@[go_sem] theorem Zog : XM Tryz.prog 22=some false:=kf
@[go_sem] theorem ZoC : Y3 Tryz.prog 22=some (none,1):=kf
@[go_sem] theorem ZnV : Um Tryz.prog 22=some 1:=kf
@[go_sem] theorem ZqN : Tryz.prog.underlying 23=some (.slice 184):=kf
@[go_sem] theorem Zqq : YZ Tryz.prog 23=some 1:=kf
@[go_sem] theorem Zoh : XM Tryz.prog 23=some false:=kf
@[go_sem] theorem ZoD : Y3 Tryz.prog 23=some (none,6):=kf
@[go_sem] theorem Zqr : YZ Tryz.prog 25=some 2:=kf
@[go_sem] theorem Zoi : XM Tryz.prog 25=some true:=kf
@[go_sem] theorem Zke : ZP Tryz.prog 25 0=some 0:=kf
@[go_sem] theorem Zkf : ZP Tryz.prog 25 1=some 1:=kf
@[go_sem] theorem Zqe : Bj Tryz.prog 25=some (Bh [(0,1),(1,1)]):=kf
@[go_sem] theorem Zlb : Z9 Tryz.prog 25=some [.list true [],.list true []]:=kf
@[go_sem] theorem ZqO : Tryz.prog.underlying 26=some (.slice 71):=kf
@[go_sem] theorem Zqs : YZ Tryz.prog 26=some 1:=kf
@[go_sem] theorem Zoj : XM Tryz.prog 26=some false:=kf
@[go_sem] theorem ZoE : Y3 Tryz.prog 26=some (none,14):=kf
@[go_sem] theorem ZnW : Um Tryz.prog 26=some 14:=kf
@[go_sem] theorem yF : Qd Tryz.prog 26=some (14,136):=kf
@[go_sem] theorem ZgQ (H:List AM.Obj) (u:TypeId) (o n:Nat) (y:V):WR Tryz.prog H 26 u (.sl o 0 n n) y=V0 H (some (14,136)) (oat H o) o n (YB (Tryz.prog.underlying u) H y):=X7 yF
@[go_sem] theorem ZqP : Tryz.prog.underlying 27=some (.slice 75):=kf
@[go_sem] theorem Zqt : YZ Tryz.prog 27=some 1:=kf
@[go_sem] theorem Zok : XM Tryz.prog 27=some false:=kf
@[go_sem] theorem ZoF : Y3 Tryz.prog 27=some (none,16):=kf
@[go_sem] theorem ZnX : Um Tryz.prog 27=some 16:=kf
@[go_sem] theorem yG : Qd Tryz.prog 27=some (16,152):=kf
@[go_sem] theorem ZgR (H:List AM.Obj) (u:TypeId) (o n:Nat) (y:V):WR Tryz.prog H 27 u (.sl o 0 n n) y=V0 H (some (16,152)) (oat H o) o n (YB (Tryz.prog.underlying u) H y):=X7 yG
@[go_sem] theorem ZqQ : Tryz.prog.underlying 28=some (.slice 105):=kf
@[go_sem] theorem Zqu : YZ Tryz.prog 28=some 1:=kf
@[go_sem] theorem Zol : XM Tryz.prog 28=some false:=kf
@[go_sem] theorem ZoG : Y3 Tryz.prog 28=some (none,2):=kf
@[go_sem] theorem ZnY : Um Tryz.prog 28=some 2:=kf
@[go_sem] theorem yH : Qd Tryz.prog 28=some (2,16):=kf
@[go_sem] theorem ZgS (H:List AM.Obj) (u:TypeId) (o n:Nat) (y:V):WR Tryz.prog H 28 u (.sl o 0 n n) y=V0 H (some (2,16)) (oat H o) o n (YB (Tryz.prog.underlying u) H y):=X7 yH
@[go_sem] theorem Zqv : YZ Tryz.prog 30=some 6:=kf
@[go_sem] theorem Zom : XM Tryz.prog 30=some true:=kf
@[go_sem] theorem Zkg : ZP Tryz.prog 30 0=some 0:=kf
@[go_sem] theorem Zkh : ZP Tryz.prog 30 1=some 2:=kf
@[go_sem] theorem Zki : ZP Tryz.prog 30 2=some 3:=kf
@[go_sem] theorem Zkj : ZP Tryz.prog 30 3=some 4:=kf
@[go_sem] theorem Zkk : ZP Tryz.prog 30 4=some 5:=kf
@[go_sem] theorem Zqf : Bj Tryz.prog 30=some (Bh [(0,2),(2,1),(3,1),(4,1),(5,1)]):=kf
@[go_sem] theorem Zlc : Z9 Tryz.prog 30=some [.list true [],.list true [],.list true [],.list true [],.list true [],.list true []]:=kf
@[go_sem] theorem Zqw : YZ Tryz.prog 32=some 2:=kf
@[go_sem] theorem Zon : XM Tryz.prog 32=some true:=kf
@[go_sem] theorem Zkl : ZP Tryz.prog 32 0=some 0:=kf
@[go_sem] theorem Zkm : ZP Tryz.prog 32 1=some 1:=kf
@[go_sem] theorem uQ : Tryz.prog.stoodInHeld 32=false:=kf
@[go_sem] theorem Zqg : Bj Tryz.prog 32=some (Bh [(0,1),(1,1)]):=kf
@[go_sem] theorem ZpQ (d:Nat) (a b:List PV):GT Tryz.prog d 32 (Tryz.prog.underlying 32) (.agg a) (.agg b)=Et (dP (Vu Tryz.prog d 3) (apart Tryz.prog 3 a 0) (apart Tryz.prog 3 b 0)) (Et (dP (Vu Tryz.prog d 3) (apart Tryz.prog 3 a 1) (apart Tryz.prog 3 b 1)) (some true)):=by rw [Tryz.underlying32,QD uQ];simp [Ac,BW]
@[go_sem] theorem Zp4 : Tryz.prog.eqGuardType Tryz.prog.depth 32=false:=kf
@[go_sem] theorem Zld : Z9 Tryz.prog 32=some [.int .i64 0,.int .i64 0]:=kf
@[go_sem] theorem ZqR : Tryz.prog.underlying 33=some (.slice 43):=kf
@[go_sem] theorem Zqx : YZ Tryz.prog 33=some 1:=kf
@[go_sem] theorem Zoo : XM Tryz.prog 33=some false:=kf
@[go_sem] theorem ZnZ : Um Tryz.prog 33=some 4:=kf
@[go_sem] theorem yI : Qd Tryz.prog 33=some (4,64):=kf
@[go_sem] theorem ZgT (H:List AM.Obj) (u:TypeId) (o n:Nat) (y:V):WR Tryz.prog H 33 u (.sl o 0 n n) y=V0 H (some (4,64)) (oat H o) o n (YB (Tryz.prog.underlying u) H y):=X7 yI
@[go_sem] theorem ZqS : Tryz.prog.underlying 34=some (.slice 3):=kf
@[go_sem] theorem Zqy : YZ Tryz.prog 34=some 1:=kf
@[go_sem] theorem Zop : XM Tryz.prog 34=some false:=kf
@[go_sem] theorem ZoH : Y3 Tryz.prog 34=some (none,1):=kf
@[go_sem] theorem Zn0 : Um Tryz.prog 34=some 1:=kf
@[go_sem] theorem fE : Qd Tryz.prog 34=some (1,8):=kf
@[go_sem] theorem ZgN (H:List AM.Obj) (u:TypeId) (y:V):WR Tryz.prog H 34 u (.p (.list true [])) y=Mt H (some (1,8)) (YB (Tryz.prog.underlying u) H y):=BU fE
@[go_sem] theorem ZgU (H:List AM.Obj) (u:TypeId) (o n:Nat) (y:V):WR Tryz.prog H 34 u (.sl o 0 n n) y=V0 H (some (1,8)) (oat H o) o n (YB (Tryz.prog.underlying u) H y):=X7 fE
@[go_sem] theorem sK : Sq Tryz.prog 34=some (1,8,.int .i64 0):=kf
@[go_sem] theorem ZpR (H:List AM.Obj) (fr:List V) (x y:Operand):W5 Tryz.prog (.makeSlice 34 x y) fr H=QX (some (1,8,.int .i64 0)) H (ev fr x) (ev fr y):=Fc sK
@[go_sem] theorem Zqz : YZ Tryz.prog 36=some 2:=kf
@[go_sem] theorem Zoq : XM Tryz.prog 36=some true:=kf
@[go_sem] theorem Zkn : ZP Tryz.prog 36 0=some 0:=kf
@[go_sem] theorem Zko : ZP Tryz.prog 36 1=some 1:=kf
@[go_sem] theorem Zqh : Bj Tryz.prog 36=some (Bh [(0,1),(1,1)]):=kf
@[go_sem] theorem Zle : Z9 Tryz.prog 36=some [.list true [],.list true []]:=kf
@[go_sem] theorem ZqT : Tryz.prog.underlying 40=some (.slice 4):=kf
@[go_sem] theorem ZqA : YZ Tryz.prog 40=some 1:=kf
@[go_sem] theorem Zor : XM Tryz.prog 40=some false:=kf
@[go_sem] theorem ZoI : Y3 Tryz.prog 40=some (none,1):=kf
@[go_sem] theorem Zn1 : Um Tryz.prog 40=some 1:=kf
@[go_sem] theorem yJ : Qd Tryz.prog 40=some (1,1):=kf
@[go_sem] theorem ZgO (H:List AM.Obj) (u:TypeId) (y:V):WR Tryz.prog H 40 u (.p (.list true [])) y=Mt H (some (1,1)) (YB (Tryz.prog.underlying u) H y):=BU yJ
@[go_sem] theorem sL : Sq Tryz.prog 40=some (1,1,.bool false):=kf
@[go_sem] theorem ZpS (H:List AM.Obj) (fr:List V) (x y:Operand):W5 Tryz.prog (.makeSlice 40 x y) fr H=QX (some (1,1,.bool false)) H (ev fr x) (ev fr y):=Fc sL
@[go_sem] theorem ZqU : Tryz.prog.underlying 41=some (.slice 158):=kf
@[go_sem] theorem ZqB : YZ Tryz.prog 41=some 1:=kf
@[go_sem] theorem Zos : XM Tryz.prog 41=some false:=kf
@[go_sem] theorem ZoJ : Y3 Tryz.prog 41=some (none,2):=kf
@[go_sem] theorem Zn2 : Um Tryz.prog 41=some 2:=kf
@[go_sem] theorem fF : Qd Tryz.prog 41=some (2,16):=kf
@[go_sem] theorem ZgV (H:List AM.Obj) (u:TypeId) (o n:Nat) (y:V):WR Tryz.prog H 41 u (.sl o 0 n n) y=V0 H (some (2,16)) (oat H o) o n (YB (Tryz.prog.underlying u) H y):=X7 fF
@[go_sem] theorem ZqC : YZ Tryz.prog 43=some 4:=kf
@[go_sem] theorem Zot : XM Tryz.prog 43=some true:=kf
@[go_sem] theorem Zkp : ZP Tryz.prog 43 0=some 0:=kf
@[go_sem] theorem Zkq : ZP Tryz.prog 43 1=some 1:=kf
@[go_sem] theorem Zkr : ZP Tryz.prog 43 2=some 2:=kf
@[go_sem] theorem Zks : ZP Tryz.prog 43 3=some 3:=kf
@[go_sem] theorem Zqi : Bj Tryz.prog 43=some (Bh [(0,1),(1,1),(2,1),(3,1)]):=kf
@[go_sem] theorem Zlf : Z9 Tryz.prog 43=some [.int .i64 0,.int .i64 0,.list true [],.list true []]:=kf
@[go_sem] theorem ZqD : YZ Tryz.prog 44=some 1:=kf
@[go_sem] theorem Zou : XM Tryz.prog 44=some false:=kf
@[go_sem] theorem ZqV : Tryz.prog.underlying 49=some (.slice 32):=kf
@[go_sem] theorem ZqE : YZ Tryz.prog 49=some 1:=kf
@[go_sem] theorem Zov : XM Tryz.prog 49=some false:=kf
@[go_sem] theorem ZoK : Y3 Tryz.prog 49=some (none,2):=kf
@[go_sem] theorem Zn3 : Um Tryz.prog 49=some 2:=kf
@[go_sem] theorem yK : Qd Tryz.prog 49=some (2,16):=kf
@[go_sem] theorem ZgW (H:List AM.Obj) (u:TypeId) (o n:Nat) (y:V):WR Tryz.prog H 49 u (.sl o 0 n n) y=V0 H (some (2,16)) (oat H o) o n (YB (Tryz.prog.underlying u) H y):=X7 yK
@[go_sem] theorem Zlg : Z9 Tryz.prog 49=some [.list true []]:=kf
@[go_sem] theorem ZqW : Tryz.prog.underlying 57=some (.slice 66):=kf
@[go_sem] theorem ZoL : Y3 Tryz.prog 57=some (none,3):=kf
@[go_sem] theorem Zn4 : Um Tryz.prog 57=some 3:=kf
@[go_sem] theorem yL : Qd Tryz.prog 57=some (3,24):=kf
@[go_sem] theorem ZgX (H:List AM.Obj) (u:TypeId) (o n:Nat) (y:V):WR Tryz.prog H 57 u (.sl o 0 n n) y=V0 H (some (3,24)) (oat H o) o n (YB (Tryz.prog.underlying u) H y):=X7 yL
@[go_sem] theorem ZqX : Tryz.prog.underlying 60=some (.slice 67):=kf
@[go_sem] theorem ZoM : Y3 Tryz.prog 60=some (none,3):=kf
@[go_sem] theorem Zn5 : Um Tryz.prog 60=some 3:=kf
@[go_sem] theorem yM : Qd Tryz.prog 60=some (3,24):=kf
@[go_sem] theorem ZgY (H:List AM.Obj) (u:TypeId) (o n:Nat) (y:V):WR Tryz.prog H 60 u (.sl o 0 n n) y=V0 H (some (3,24)) (oat H o) o n (YB (Tryz.prog.underlying u) H y):=X7 yM
@[go_sem] theorem Zkt : ZP Tryz.prog 66 0=some 0:=kf
@[go_sem] theorem Zku : ZP Tryz.prog 66 1=some 2:=kf
@[go_sem] theorem Zqj : Bj Tryz.prog 66=some (Bh [(0,2),(2,1)]):=kf
@[go_sem] theorem Zlh : Z9 Tryz.prog 66=some [.int .i64 0,.int .i64 0,.int .i64 0]:=kf
@[go_sem] theorem ZqF : YZ Tryz.prog 67=some 3:=kf
@[go_sem] theorem Zow : XM Tryz.prog 67=some true:=kf
@[go_sem] theorem Zkv : ZP Tryz.prog 67 0=some 0:=kf
@[go_sem] theorem Zkw : ZP Tryz.prog 67 1=some 2:=kf
@[go_sem] theorem Zqk : Bj Tryz.prog 67=some (Bh [(0,2),(2,1)]):=kf
@[go_sem] theorem Zli : Z9 Tryz.prog 67=some [.int .i64 0,.int .i64 0,.int .i64 0]:=kf
@[go_sem] theorem ZqY : Tryz.prog.underlying 68=some (.slice 138):=kf
@[go_sem] theorem ZoN : Y3 Tryz.prog 68=some (none,2):=kf
@[go_sem] theorem Zn6 : Um Tryz.prog 68=some 2:=kf
@[go_sem] theorem fG : Qd Tryz.prog 68=some (2,24):=kf
@[go_sem] theorem ZgP (H:List AM.Obj) (u:TypeId) (y:V):WR Tryz.prog H 68 u (.p (.list true [])) y=Mt H (some (2,24)) (YB (Tryz.prog.underlying u) H y):=BU fG
@[go_sem] theorem ZgZ (H:List AM.Obj) (u:TypeId) (o n:Nat) (y:V):WR Tryz.prog H 68 u (.sl o 0 n n) y=V0 H (some (2,24)) (oat H o) o n (YB (Tryz.prog.underlying u) H y):=X7 fG
@[go_sem] theorem ZqG : YZ Tryz.prog 71=some 14:=kf
@[go_sem] theorem Zox : XM Tryz.prog 71=some true:=kf
@[go_sem] theorem Zkx : ZP Tryz.prog 71 0=some 0:=kf
@[go_sem] theorem Zky : ZP Tryz.prog 71 1=some 1:=kf
@[go_sem] theorem Zkz : ZP Tryz.prog 71 2=some 2:=kf
@[go_sem] theorem ZkA : ZP Tryz.prog 71 3=some 3:=kf
@[go_sem] theorem ZkB : ZP Tryz.prog 71 4=some 4:=kf
@[go_sem] theorem ZkC : ZP Tryz.prog 71 5=some 5:=kf
@[go_sem] theorem ZkD : ZP Tryz.prog 71 6=some 6:=kf
@[go_sem] theorem ZkE : ZP Tryz.prog 71 7=some 7:=kf
@[go_sem] theorem ZkF : ZP Tryz.prog 71 8=some 8:=kf
@[go_sem] theorem ZkG : ZP Tryz.prog 71 9=some 9:=kf
@[go_sem] theorem Zgf : ZP Tryz.prog 71 10=some 10:=kf
@[go_sem] theorem Zgg : ZP Tryz.prog 71 11=some 11:=kf
@[go_sem] theorem Zgh : ZP Tryz.prog 71 12=some 12:=kf
@[go_sem] theorem Zgi : ZP Tryz.prog 71 13=some 13:=kf
@[go_sem] theorem Zql : Bj Tryz.prog 71=some (Bh [(0,1),(1,1),(2,1),(3,1),(4,1),(5,1),(6,1),(7,1),(8,1),(9,1),(10,1),(11,1),(12,1),(13,1)]):=kf
@[go_sem] theorem Zlj : Z9 Tryz.prog 71=some [.str [],.int .i64 0,.int .i64 0,.int .i64 0,.list true [],.int .i64 0,.int .i64 0,.int .i64 0,.int .i64 0,.int .i64 0,.int .i64 0,.int .i64 0,.int .i64 0,.int .i64 0]:=kf
@[go_sem] theorem ZqH : YZ Tryz.prog 73=some 4:=kf
@[go_sem] theorem Zoy : XM Tryz.prog 73=some true:=kf
@[go_sem] theorem ZkH : ZP Tryz.prog 73 0=some 0:=kf
@[go_sem] theorem ZkI : ZP Tryz.prog 73 1=some 1:=kf
@[go_sem] theorem ZkJ : ZP Tryz.prog 73 2=some 2:=kf
@[go_sem] theorem ZkK : ZP Tryz.prog 73 3=some 3:=kf
@[go_sem] theorem Zqm : Bj Tryz.prog 73=some (Bh [(0,1),(1,1),(2,1),(3,1)]):=kf
@[go_sem] theorem Zlk : Z9 Tryz.prog 73=some [.int .i64 0,.int .i64 0,.int .i64 0,.int .i64 0]:=kf
@[go_sem] theorem ZqI : YZ Tryz.prog 75=some 16:=kf
@[go_sem] theorem Zoz : XM Tryz.prog 75=some true:=kf
@[go_sem] theorem ZkL : ZP Tryz.prog 75 0=some 0:=kf
@[go_sem] theorem ZkM : ZP Tryz.prog 75 1=some 1:=kf
@[go_sem] theorem ZkN : ZP Tryz.prog 75 2=some 2:=kf
@[go_sem] theorem ZkO : ZP Tryz.prog 75 3=some 6:=kf
@[go_sem] theorem ZkP : ZP Tryz.prog 75 4=some 10:=kf
@[go_sem] theorem ZkQ : ZP Tryz.prog 75 5=some 11:=kf
@[go_sem] theorem ZkR : ZP Tryz.prog 75 6=some 12:=kf
@[go_sem] theorem ZkS : ZP Tryz.prog 75 7=some 13:=kf
@[go_sem] theorem ZkT : ZP Tryz.prog 75 8=some 14:=kf
@[go_sem] theorem ZkU : ZP Tryz.prog 75 9=some 15:=kf
@[go_sem] theorem Zqn : Bj Tryz.prog 75=some (Bh [(0,1),(1,1),(2,4),(6,4),(10,1),(11,1),(12,1),(13,1),(14,1),(15,1)]):=kf
@[go_sem] theorem Zll : Z9 Tryz.prog 75=some [.str [],.list true [],.int .i64 0,.int .i64 0,.int .i64 0,.int .i64 0,.int .i64 0,.int .i64 0,.int .i64 0,.int .i64 0,.int .i64 0,.int .i64 0,.int .i64 0,.int .i64 0,.int .i64 0,.bool false]:=kf
@[go_sem] theorem ZqZ : Tryz.prog.underlying 83=some (.slice 107):=kf
@[go_sem] theorem ZqJ : YZ Tryz.prog 83=some 1:=kf
@[go_sem] theorem ZoA : XM Tryz.prog 83=some false:=kf
@[go_sem] theorem ZoO : Y3 Tryz.prog 83=some (none,7):=kf
@[go_sem] theorem Zn7 : Um Tryz.prog 83=some 7:=kf
@[go_sem] theorem yN : Qd Tryz.prog 83=some (7,88):=kf
@[go_sem] theorem Zg0 (H:List AM.Obj) (u:TypeId) (o n:Nat) (y:V):WR Tryz.prog H 83 u (.sl o 0 n n) y=V0 H (some (7,88)) (oat H o) o n (YB (Tryz.prog.underlying u) H y):=X7 yN
@[go_sem] theorem ZqK : YZ Tryz.prog 88=some 4:=kf
@[go_sem] theorem ZoB : XM Tryz.prog 88=some true:=kf
@[go_sem] theorem ZkV : ZP Tryz.prog 88 0=some 0:=kf
@[go_sem] theorem ZkW : ZP Tryz.prog 88 1=some 1:=kf
@[go_sem] theorem ZkX : ZP Tryz.prog 88 2=some 2:=kf
@[go_sem] theorem ZkY : ZP Tryz.prog 88 3=some 3:=kf
@[go_sem] theorem Zqo : Bj Tryz.prog 88=some (Bh [(0,1),(1,1),(2,1),(3,1)]):=kf
@[go_sem] theorem Zlm : Z9 Tryz.prog 88=some [.int .i64 0,.int .i64 0,.int .i64 0,.int .i64 0]:=kf
@[go_sem] theorem Zo8 : YZ Tryz.prog 105=some 2:=kf
@[go_sem] theorem Zmx : XM Tryz.prog 105=some true:=kf
@[go_sem] theorem ZmU : Y3 Tryz.prog 105=some ((some 2),1):=kf
@[go_sem] theorem Zgo : Z9 Tryz.prog 105=some [.int .i64 0,.int .i64 0]:=kf
@[go_sem] theorem Zo9 : YZ Tryz.prog 107=some 7:=kf
@[go_sem] theorem Zmy : XM Tryz.prog 107=some true:=kf
@[go_sem] theorem Zfk : ZP Tryz.prog 107 0=some 0:=kf
@[go_sem] theorem Zfl : ZP Tryz.prog 107 1=some 1:=kf
@[go_sem] theorem Zfm : ZP Tryz.prog 107 2=some 2:=kf
@[go_sem] theorem Zfn : ZP Tryz.prog 107 3=some 3:=kf
@[go_sem] theorem ZoQ : Bj Tryz.prog 107=some (Bh [(0,1),(1,1),(2,1),(3,4)]):=kf
@[go_sem] theorem Zgp : Z9 Tryz.prog 107=some [.int .i64 0,.int .i64 0,.int .i64 0,.int .i64 0,.int .i64 0,.list true [],.list true []]:=kf
@[go_sem] theorem Zpa : YZ Tryz.prog 111=some 3:=kf
@[go_sem] theorem Zmz : XM Tryz.prog 111=some true:=kf
@[go_sem] theorem Zfo : ZP Tryz.prog 111 0=some 0:=kf
@[go_sem] theorem Zfp : ZP Tryz.prog 111 1=some 1:=kf
@[go_sem] theorem Zfq : ZP Tryz.prog 111 2=some 2:=kf
@[go_sem] theorem ZoR : Bj Tryz.prog 111=some (Bh [(0,1),(1,1),(2,1)]):=kf
@[go_sem] theorem Zgq : Z9 Tryz.prog 111=some [.bool false,.list true [],.int .i64 0]:=kf
@[go_sem] theorem Zpw : Tryz.prog.underlying 116=some (.slice 299):=kf
@[go_sem] theorem Zpb : YZ Tryz.prog 116=some 1:=kf
@[go_sem] theorem ZmA : XM Tryz.prog 116=some false:=kf
@[go_sem] theorem ZmV : Y3 Tryz.prog 116=some (none,4):=kf
@[go_sem] theorem Zmd : Um Tryz.prog 116=some 4:=kf
@[go_sem] theorem pD : Qd Tryz.prog 116=some (4,32):=kf
@[go_sem] theorem ZdQ (H:List AM.Obj) (u:TypeId) (o n:Nat) (y:V):WR Tryz.prog H 116 u (.sl o 0 n n) y=V0 H (some (4,32)) (oat H o) o n (YB (Tryz.prog.underlying u) H y):=X7 pD
@[go_sem] theorem Zpc : YZ Tryz.prog 118=some 5:=kf
@[go_sem] theorem ZmB : XM Tryz.prog 118=some true:=kf
@[go_sem] theorem Zfr : ZP Tryz.prog 118 0=some 0:=kf
@[go_sem] theorem Zfs : ZP Tryz.prog 118 1=some 1:=kf
@[go_sem] theorem Zft : ZP Tryz.prog 118 2=some 2:=kf
@[go_sem] theorem Zfu : ZP Tryz.prog 118 3=some 3:=kf
@[go_sem] theorem Zfv : ZP Tryz.prog 118 4=some 4:=kf
@[go_sem] theorem ZoS : Bj Tryz.prog 118=some (Bh [(0,1),(1,1),(2,1),(3,1),(4,1)]):=kf
@[go_sem] theorem Zgr : Z9 Tryz.prog 118=some [.bool false,.int .i64 0,.list true [],.int .i64 0,.int .i64 0]:=kf
@[go_sem] theorem Zpx : Tryz.prog.underlying 134=some (.int .u64):=kf
@[go_sem] theorem Zfw : ZP Tryz.prog 138 0=some 0:=kf
@[go_sem] theorem Zfx : ZP Tryz.prog 138 1=some 1:=kf
@[go_sem] theorem ZoT : Bj Tryz.prog 138=some (Bh [(0,1),(1,1)]):=kf
@[go_sem] theorem Zgs : Z9 Tryz.prog 138=some [.int .i64 0,.str []]:=kf
@[go_sem] theorem Zpy : Tryz.prog.underlying 141=some (.slice 44):=kf
@[go_sem] theorem ZmW : Y3 Tryz.prog 141=some (none,1):=kf
@[go_sem] theorem Zme : Um Tryz.prog 141=some 1:=kf
@[go_sem] theorem pE : Qd Tryz.prog 141=some (1,8):=kf
@[go_sem] theorem ZdR (H:List AM.Obj) (u:TypeId) (o n:Nat) (y:V):WR Tryz.prog H 141 u (.sl o 0 n n) y=V0 H (some (1,8)) (oat H o) o n (YB (Tryz.prog.underlying u) H y):=X7 pE
@[go_sem] theorem Zfy : ZP Tryz.prog 151 0=some 0:=kf
@[go_sem] theorem Zfz : ZP Tryz.prog 151 1=some 6:=kf
@[go_sem] theorem ZfA : ZP Tryz.prog 151 2=some 7:=kf
@[go_sem] theorem ZoU : Bj Tryz.prog 151=some (Bh [(0,6),(6,1),(7,3)]):=kf
@[go_sem] theorem Zgt : Z9 Tryz.prog 151=some [.list true [],.list true [],.list true [],.list true [],.list true [],.list true [],.list true [],.bool false,.list true [],.int .i64 0]:=kf
@[go_sem] theorem Zpd : YZ Tryz.prog 153=some 1:=kf
@[go_sem] theorem ZmC : XM Tryz.prog 153=some false:=kf
@[go_sem] theorem Zpe : YZ Tryz.prog 158=some 2:=kf
@[go_sem] theorem ZmD : XM Tryz.prog 158=some true:=kf
@[go_sem] theorem ZfB : ZP Tryz.prog 158 0=some 0:=kf
@[go_sem] theorem ZfC : ZP Tryz.prog 158 1=some 1:=kf
@[go_sem] theorem nO : Tryz.prog.stoodInHeld 158=false:=kf
@[go_sem] theorem ZoV : Bj Tryz.prog 158=some (Bh [(0,1),(1,1)]):=kf
@[go_sem] theorem Znm (d:Nat) (a b:List PV):GT Tryz.prog d 158 (Tryz.prog.underlying 158) (.agg a) (.agg b)=Et (dP (Vu Tryz.prog d 3) (apart Tryz.prog 3 a 0) (apart Tryz.prog 3 b 0)) (Et (dP (Vu Tryz.prog d 4) (apart Tryz.prog 4 a 1) (apart Tryz.prog 4 b 1)) (some true)):=by rw [Tryz.underlying158,QD nO];simp [Ac,BW]
@[go_sem] theorem Znv : Tryz.prog.eqGuardType Tryz.prog.depth 158=false:=kf
@[go_sem] theorem Zgu : Z9 Tryz.prog 158=some [.int .i64 0,.bool false]:=kf
@[go_sem] theorem Zpz : Tryz.prog.underlying 182=some (.slice 187):=kf
@[go_sem] theorem Zpf : YZ Tryz.prog 182=some 1:=kf
@[go_sem] theorem ZmE : XM Tryz.prog 182=some false:=kf
@[go_sem] theorem ZmX : Y3 Tryz.prog 182=some (none,2):=kf
@[go_sem] theorem Zpg : YZ Tryz.prog 184=some 6:=kf
@[go_sem] theorem ZmF : XM Tryz.prog 184=some true:=kf
@[go_sem] theorem ZfD : ZP Tryz.prog 184 0=some 0:=kf
@[go_sem] theorem ZfE : ZP Tryz.prog 184 1=some 1:=kf
@[go_sem] theorem ZfF : ZP Tryz.prog 184 2=some 2:=kf
@[go_sem] theorem ZfG : ZP Tryz.prog 184 3=some 3:=kf
@[go_sem] theorem ZfH : ZP Tryz.prog 184 4=some 4:=kf
@[go_sem] theorem ZfI : ZP Tryz.prog 184 5=some 5:=kf
@[go_sem] theorem ZoW : Bj Tryz.prog 184=some (Bh [(0,1),(1,1),(2,1),(3,1),(4,1),(5,1)]):=kf
@[go_sem] theorem Zgv : Z9 Tryz.prog 184=some [.int .i64 0,.int .i64 0,.int .i64 0,.int .i64 0,.list true [],.list true []]:=kf
@[go_sem] theorem Zph : YZ Tryz.prog 187=some 2:=kf
@[go_sem] theorem ZmG : XM Tryz.prog 187=some true:=kf
@[go_sem] theorem ZfJ : ZP Tryz.prog 187 0=some 0:=kf
@[go_sem] theorem ZfK : ZP Tryz.prog 187 1=some 1:=kf
@[go_sem] theorem Zgw : Z9 Tryz.prog 187=some [.int .i64 0,.int .i64 0]:=kf
@[go_sem] theorem ZpA : Tryz.prog.underlying 190=some (.slice 5):=kf
@[go_sem] theorem Zmf : Um Tryz.prog 190=some 1:=kf
@[go_sem] theorem ZmY : Y3 Tryz.prog 195=some ((some 6),1):=kf
@[go_sem] theorem Zpi : YZ Tryz.prog 197=some 8:=kf
@[go_sem] theorem ZmH : XM Tryz.prog 197=some true:=kf
@[go_sem] theorem ZfL : ZP Tryz.prog 197 0=some 0:=kf
@[go_sem] theorem ZfM : ZP Tryz.prog 197 1=some 1:=kf
@[go_sem] theorem ZfN : ZP Tryz.prog 197 2=some 2:=kf
@[go_sem] theorem ZoX : Bj Tryz.prog 197=some (Bh [(0,1),(1,1),(2,6)]):=kf
@[go_sem] theorem Zgx : Z9 Tryz.prog 197=some [.int .i64 0,.int .i64 0,.int .i64 0,.int .i64 0,.int .i64 0,.int .i64 0,.int .i64 0,.int .i64 0]:=kf
@[go_sem] theorem ZpB : Tryz.prog.underlying 216=some (.slice 34):=kf
@[go_sem] theorem ZmZ : Y3 Tryz.prog 216=some (none,1):=kf
@[go_sem] theorem Zmg : Um Tryz.prog 216=some 1:=kf
@[go_sem] theorem pG : Qd Tryz.prog 216=some (1,24):=kf
@[go_sem] theorem ZdS (H:List AM.Obj) (u:TypeId) (o n:Nat) (y:V):WR Tryz.prog H 216 u (.sl o 0 n n) y=V0 H (some (1,24)) (oat H o) o n (YB (Tryz.prog.underlying u) H y):=X7 pG
@[go_sem] theorem ZfO : ZP Tryz.prog 240 0=some 0:=kf
@[go_sem] theorem ZfP : ZP Tryz.prog 240 1=some 6:=kf
@[go_sem] theorem ZfQ : ZP Tryz.prog 240 2=some 7:=kf
@[go_sem] theorem ZfR : ZP Tryz.prog 240 3=some 8:=kf
@[go_sem] theorem ZfS : ZP Tryz.prog 240 4=some 9:=kf
@[go_sem] theorem ZfT : ZP Tryz.prog 240 5=some 16:=kf
@[go_sem] theorem ZoY : Bj Tryz.prog 240=some (Bh [(0,6),(6,1),(7,1),(8,1),(9,7),(16,1)]):=kf
@[go_sem] theorem Zgy : Z9 Tryz.prog 240=some [.list true [],.list true [],.list true [],.list true [],.list true [],.list true [],.int .i64 0,.int .i64 0,.int .i64 0,.int .i64 0,.int .i64 0,.int .i64 0,.int .i64 0,.int .i64 0,.list true [],.list true [],.bool false]:=kf
@[go_sem] theorem ZpC : Tryz.prog.underlying 244=some (.slice 278):=kf
@[go_sem] theorem Zm0 : Y3 Tryz.prog 244=some (none,2):=kf
@[go_sem] theorem Zmh : Um Tryz.prog 244=some 2:=kf
@[go_sem] theorem RC : Qd Tryz.prog 244=some (2,16):=kf
@[go_sem] theorem ZdP (H:List AM.Obj) (u:TypeId) (y:V):WR Tryz.prog H 244 u (.p (.list true [])) y=Mt H (some (2,16)) (YB (Tryz.prog.underlying u) H y):=BU RC
@[go_sem] theorem ZdT (H:List AM.Obj) (u:TypeId) (o n:Nat) (y:V):WR Tryz.prog H 244 u (.sl o 0 n n) y=V0 H (some (2,16)) (oat H o) o n (YB (Tryz.prog.underlying u) H y):=X7 RC
@[go_sem] theorem Zpj : YZ Tryz.prog 246=some 1:=kf
@[go_sem] theorem ZmI : XM Tryz.prog 246=some false:=kf
@[go_sem] theorem Zpk : YZ Tryz.prog 248=some 1:=kf
@[go_sem] theorem ZmJ : XM Tryz.prog 248=some false:=kf
@[go_sem] theorem Zm1 : Y3 Tryz.prog 248=some (none,1):=kf
@[go_sem] theorem ZfU : ZP Tryz.prog 250 0=some 0:=kf
@[go_sem] theorem ZfV : ZP Tryz.prog 250 1=some 6:=kf
@[go_sem] theorem ZfW : ZP Tryz.prog 250 2=some 7:=kf
@[go_sem] theorem ZfX : ZP Tryz.prog 250 3=some 8:=kf
@[go_sem] theorem ZfY : ZP Tryz.prog 250 4=some 9:=kf
@[go_sem] theorem ZoZ : Bj Tryz.prog 250=some (Bh [(0,6),(6,1),(7,1),(8,1),(9,1)]):=kf
@[go_sem] theorem Zgz : Z9 Tryz.prog 250=some [.list true [],.list true [],.list true [],.list true [],.list true [],.list true [],.list true [],.list true [],.nilm,.int .i64 0]:=kf
@[go_sem] theorem Zpl : YZ Tryz.prog 278=some 2:=kf
@[go_sem] theorem ZmK : XM Tryz.prog 278=some true:=kf
@[go_sem] theorem ZfZ : ZP Tryz.prog 278 0=some 0:=kf
@[go_sem] theorem Zf0 : ZP Tryz.prog 278 1=some 1:=kf
@[go_sem] theorem nP : Tryz.prog.stoodInHeld 278=false:=kf
@[go_sem] theorem Zo0 : Bj Tryz.prog 278=some (Bh [(0,1),(1,1)]):=kf
@[go_sem] theorem Znn (d:Nat) (a b:List PV):GT Tryz.prog d 278 (Tryz.prog.underlying 278) (.agg a) (.agg b)=Et (dP (Vu Tryz.prog d 3) (apart Tryz.prog 3 a 0) (apart Tryz.prog 3 b 0)) (Et (dP (Vu Tryz.prog d 3) (apart Tryz.prog 3 a 1) (apart Tryz.prog 3 b 1)) (some true)):=by rw [Tryz.underlying278,QD nP];simp [Ac,BW]
@[go_sem] theorem Znw : Tryz.prog.eqGuardType Tryz.prog.depth 278=false:=kf
@[go_sem] theorem ZgA : Z9 Tryz.prog 278=some [.int .i64 0,.int .i64 0]:=kf
@[go_sem] theorem Zpm : YZ Tryz.prog 283=some 2:=kf
@[go_sem] theorem ZmL : XM Tryz.prog 283=some true:=kf
@[go_sem] theorem Zo1 : Bj Tryz.prog 283=some (Bh [(0,1),(1,1)]):=kf
@[go_sem] theorem ZgB : Z9 Tryz.prog 283=some [.int .i64 0,.int .i64 0]:=kf
@[go_sem] theorem ZpD : Tryz.prog.underlying 284=some (.array 4 3):=kf
@[go_sem] theorem Zpn : YZ Tryz.prog 284=some 4:=kf
@[go_sem] theorem ZmM : XM Tryz.prog 284=some true:=kf
@[go_sem] theorem Zo2 : Bj Tryz.prog 284=some (plA 1):=kf
@[go_sem] theorem ZgC : Z9 Tryz.prog 284=some [.int .i64 0,.int .i64 0,.int .i64 0,.int .i64 0]:=kf
@[go_sem] theorem Zpo : YZ Tryz.prog 294=some 4:=kf
@[go_sem] theorem ZmN : XM Tryz.prog 294=some true:=kf
@[go_sem] theorem Zf1 : ZP Tryz.prog 294 0=some 0:=kf
@[go_sem] theorem Zf2 : ZP Tryz.prog 294 1=some 1:=kf
@[go_sem] theorem Zf3 : ZP Tryz.prog 294 2=some 2:=kf
@[go_sem] theorem Zf4 : ZP Tryz.prog 294 3=some 3:=kf
@[go_sem] theorem Zo3 : Bj Tryz.prog 294=some (Bh [(0,1),(1,1),(2,1),(3,1)]):=kf
@[go_sem] theorem ZgD : Z9 Tryz.prog 294=some [.int .i64 0,.int .i64 0,.int .i64 0,.int .i64 0]:=kf
@[go_sem] theorem Zpp : YZ Tryz.prog 299=some 4:=kf
@[go_sem] theorem ZmO : XM Tryz.prog 299=some true:=kf
@[go_sem] theorem Zf5 : ZP Tryz.prog 299 1=some 1:=kf
@[go_sem] theorem Zf6 : ZP Tryz.prog 299 2=some 2:=kf
@[go_sem] theorem Zf7 : ZP Tryz.prog 299 3=some 3:=kf
@[go_sem] theorem Zo4 : Bj Tryz.prog 299=some (Bh [(0,1),(1,1),(2,1),(3,1)]):=kf
@[go_sem] theorem ZgE : Z9 Tryz.prog 299=some [.int .i64 0,.int .i64 0,.int .i64 0,.bool false]:=kf
@[go_sem] theorem Zm2 : Y3 Tryz.prog 309=some ((some 64),1):=kf
@[go_sem] theorem ZpE : Tryz.prog.underlying 313=some (.slice 153):=kf
@[go_sem] theorem Zm3 : Y3 Tryz.prog 313=some (none,1):=kf
@[go_sem] theorem Zmi : Um Tryz.prog 313=some 1:=kf
@[go_sem] theorem ZpF : Tryz.prog.underlying 328=some (.slice 73):=kf
@[go_sem] theorem Zpq : YZ Tryz.prog 328=some 1:=kf
@[go_sem] theorem ZmP : XM Tryz.prog 328=some false:=kf
@[go_sem] theorem Zm4 : Y3 Tryz.prog 328=some (none,4):=kf
@[go_sem] theorem Zmj : Um Tryz.prog 328=some 4:=kf
@[go_sem] theorem pH : Qd Tryz.prog 328=some (4,32):=kf
@[go_sem] theorem ZdU (H:List AM.Obj) (u:TypeId) (o n:Nat) (y:V):WR Tryz.prog H 328 u (.sl o 0 n n) y=V0 H (some (4,32)) (oat H o) o n (YB (Tryz.prog.underlying u) H y):=X7 pH
@[go_sem] theorem Zpr : YZ Tryz.prog 330=some 25:=kf
@[go_sem] theorem ZmQ : XM Tryz.prog 330=some true:=kf
@[go_sem] theorem Zf8 : ZP Tryz.prog 330 0=some 0:=kf
@[go_sem] theorem Zf9 : ZP Tryz.prog 330 1=some 6:=kf
@[go_sem] theorem Zga : ZP Tryz.prog 330 2=some 20:=kf
@[go_sem] theorem Zgb : ZP Tryz.prog 330 3=some 24:=kf
@[go_sem] theorem Zo5 : Bj Tryz.prog 330=some (Bh [(0,6),(6,14),(20,4),(24,1)]):=kf
@[go_sem] theorem ZgF : Z9 Tryz.prog 330=some [.list true [],.list true [],.list true [],.list true [],.list true [],.list true [],.str [],.int .i64 0,.int .i64 0,.int .i64 0,.list true [],.int .i64 0,.int .i64 0,.int .i64 0,.int .i64 0,.int .i64 0,.int .i64 0,.int .i64 0,.int .i64 0,.int .i64 0,.int .i64 0,.int .i64 0,.list true [],.list true [],.list true []]:=kf
@[go_sem] theorem Zps : YZ Tryz.prog 334=some 7:=kf
@[go_sem] theorem ZmR : XM Tryz.prog 334=some true:=kf
@[go_sem] theorem Zgc : ZP Tryz.prog 334 0=some 0:=kf
@[go_sem] theorem Zgd : ZP Tryz.prog 334 1=some 1:=kf
@[go_sem] theorem Zge : ZP Tryz.prog 334 2=some 2:=kf
@[go_sem] theorem Zo6 : Bj Tryz.prog 334=some (Bh [(0,1),(1,1),(2,5)]):=kf
@[go_sem] theorem ZgG : Z9 Tryz.prog 334=some [.int .i64 0,.int .i64 0,.bool false,.int .i64 0,.list true [],.int .i64 0,.int .i64 0]:=kf
@[go_sem] theorem ZpG : Tryz.prog.underlying 336=some (.slice 334):=kf
@[go_sem] theorem Zm5 : Y3 Tryz.prog 336=some (none,7):=kf
@[go_sem] theorem Zmk : Um Tryz.prog 336=some 7:=kf
@[go_sem] theorem pI : Qd Tryz.prog 336=some (7,72):=kf
@[go_sem] theorem ZdV (H:List AM.Obj) (u:TypeId) (o n:Nat) (y:V):WR Tryz.prog H 336 u (.sl o 0 n n) y=V0 H (some (7,72)) (oat H o) o n (YB (Tryz.prog.underlying u) H y):=X7 pI
@[go_sem] theorem Zpt : YZ Tryz.prog 342=some 3:=kf
@[go_sem] theorem ZmS : XM Tryz.prog 342=some true:=kf
@[go_sem] theorem nQ : Tryz.prog.stoodInHeld 342=false:=kf
@[go_sem] theorem Zo7 : Bj Tryz.prog 342=some (Bh [(0,1),(1,1),(2,1)]):=kf
@[go_sem] theorem Zno (d:Nat) (a b:List PV):GT Tryz.prog d 342 (Tryz.prog.underlying 342) (.agg a) (.agg b)=Et (dP (Vu Tryz.prog d 3) (apart Tryz.prog 3 a 0) (apart Tryz.prog 3 b 0)) (Et (dP (Vu Tryz.prog d 3) (apart Tryz.prog 3 a 1) (apart Tryz.prog 3 b 1)) (Et (dP (Vu Tryz.prog d 3) (apart Tryz.prog 3 a 2) (apart Tryz.prog 3 b 2)) (some true))):=by rw [Tryz.underlying342,QD nQ];simp [Ac,BW]
@[go_sem] theorem Znx : Tryz.prog.eqGuardType Tryz.prog.depth 342=false:=kf
@[go_sem] theorem ZgH : Z9 Tryz.prog 342=some [.int .i64 0,.int .i64 0,.int .i64 0]:=kf
theorem ZnQ : Zj Tryz.prog 6:=fun args w=>Tryz.call6 args w
theorem ZnR : Zj Tryz.prog 7:=fun args w=>Tryz.call7 args w
theorem ZnS : Zj Tryz.prog 9:=fun args w=>Tryz.call9 args w
theorem Zib : Zj Tryz.prog 10:=fun args w=>Tryz.call10 args w
theorem Zic : Zj Tryz.prog 11:=fun args w=>Tryz.call11 args w
theorem Zid : Zj Tryz.prog 12:=fun args w=>Tryz.call12 args w
theorem Zie : Zj Tryz.prog 14:=fun args w=>Tryz.call14 args w
theorem Zif : Zj Tryz.prog 16:=fun args w=>Tryz.call16 args w
theorem Zig : Zj Tryz.prog 17:=fun args w=>Tryz.call17 args w
theorem Zih : Zj Tryz.prog 18:=fun args w=>Tryz.call18 args w
theorem Zii : Zj Tryz.prog 19:=fun args w=>Tryz.call19 args w
theorem Zij : Zj Tryz.prog 20:=fun args w=>Tryz.call20 args w
theorem Zik : Zj Tryz.prog 21:=fun args w=>Tryz.call21 args w
theorem Zil : Zj Tryz.prog 22:=fun args w=>Tryz.call22 args w
theorem Zim : Zj Tryz.prog 23:=fun args w=>Tryz.call23 args w
theorem Zin : Zj Tryz.prog 24:=fun args w=>Tryz.call24 args w
theorem Zio : Zj Tryz.prog 25:=fun args w=>Tryz.call25 args w
theorem Ziq : Zj Tryz.prog 26:=fun args w=>Tryz.call26 args w
theorem Zir : Zj Tryz.prog 27:=fun args w=>Tryz.call27 args w
theorem Zis : Zj Tryz.prog 28:=fun args w=>Tryz.call28 args w
theorem Zit : Zj Tryz.prog 29:=fun args w=>Tryz.call29 args w
theorem Ziu : Zj Tryz.prog 30:=fun args w=>Tryz.call30 args w
theorem Ziv : Zj Tryz.prog 31:=fun args w=>Tryz.call31 args w
theorem Ziw : Zj Tryz.prog 33:=fun args w=>Tryz.call33 args w
theorem Zix : Zj Tryz.prog 34:=fun args w=>Tryz.call34 args w
theorem Ziy : Zj Tryz.prog 35:=fun args w=>Tryz.call35 args w
theorem Ziz : Zj Tryz.prog 36:=fun args w=>Tryz.call36 args w
theorem ZiA : Zj Tryz.prog 37:=fun args w=>Tryz.call37 args w
theorem ZiB : Zj Tryz.prog 38:=fun args w=>Tryz.call38 args w
theorem ZiC : Zj Tryz.prog 39:=fun args w=>Tryz.call39 args w
theorem ZiD : Zj Tryz.prog 40:=fun args w=>Tryz.call40 args w
theorem ZiE : Zj Tryz.prog 41:=fun args w=>Tryz.call41 args w
theorem ZiF : Zj Tryz.prog 42:=fun args w=>Tryz.call42 args w
theorem ZiG : Zj Tryz.prog 43:=fun args w=>Tryz.call43 args w
theorem ZiH : Zj Tryz.prog 44:=fun args w=>Tryz.call44 args w
theorem ZiI : Zj Tryz.prog 45:=fun args w=>Tryz.call45 args w
theorem ZiJ : Zj Tryz.prog 46:=fun args w=>Tryz.call46 args w
theorem ZiK : Zj Tryz.prog 47:=fun args w=>Tryz.call47 args w
theorem ZiL : Zj Tryz.prog 48:=fun args w=>Tryz.call48 args w
theorem ZiM : Zj Tryz.prog 49:=fun args w=>Tryz.call49 args w
theorem ZiN : Zj Tryz.prog 50:=fun args w=>Tryz.call50 args w
theorem ZiO : Zj Tryz.prog 51:=fun args w=>Tryz.call51 args w
theorem ZiP : Zj Tryz.prog 52:=fun args w=>Tryz.call52 args w
theorem ZiQ : Zj Tryz.prog 54:=fun args w=>Tryz.call54 args w
theorem ZiR : Zj Tryz.prog 56:=fun args w=>Tryz.call56 args w
theorem ZiS : Zj Tryz.prog 57:=fun args w=>Tryz.call57 args w
theorem ZiT : Zj Tryz.prog 58:=fun args w=>Tryz.call58 args w
theorem ZiU : Zj Tryz.prog 59:=fun args w=>Tryz.call59 args w
theorem ZiV : Zj Tryz.prog 60:=fun args w=>Tryz.call60 args w
theorem wO : Zj Tryz.prog 61:=fun args w=>Tryz.call61 args w
theorem ZiW : Zj Tryz.prog 62:=fun args w=>Tryz.call62 args w
theorem ZiX : Zj Tryz.prog 63:=fun args w=>Tryz.call63 args w
theorem ZiY : Zj Tryz.prog 64:=fun args w=>Tryz.call64 args w
theorem ZiZ : Zj Tryz.prog 65:=fun args w=>Tryz.call65 args w
theorem Zi0 : Zj Tryz.prog 66:=fun args w=>Tryz.call66 args w
theorem Zi1 : Zj Tryz.prog 69:=fun args w=>Tryz.call69 args w
theorem Zi2 : Zj Tryz.prog 70:=fun args w=>Tryz.call70 args w
theorem Zi3 : Zj Tryz.prog 71:=fun args w=>Tryz.call71 args w
theorem Zi4 : Zj Tryz.prog 72:=fun args w=>Tryz.call72 args w
theorem Zi5 : Zj Tryz.prog 73:=fun args w=>Tryz.call73 args w
theorem Zi6 : Zj Tryz.prog 74:=fun args w=>Tryz.call74 args w
theorem Zi7 : Zj Tryz.prog 75:=fun args w=>Tryz.call75 args w
theorem Zi8 : Zj Tryz.prog 76:=fun args w=>Tryz.call76 args w
theorem Zi9 : Zj Tryz.prog 77:=fun args w=>Tryz.call77 args w
theorem Zja : Zj Tryz.prog 78:=fun args w=>Tryz.call78 args w
theorem Zjb : Zj Tryz.prog 79:=fun args w=>Tryz.call79 args w
theorem Zjc : Zj Tryz.prog 80:=fun args w=>Tryz.call80 args w
theorem Zjd : Zj Tryz.prog 81:=fun args w=>Tryz.call81 args w
theorem Zje : Zj Tryz.prog 82:=fun args w=>Tryz.call82 args w
theorem wP : Zj Tryz.prog 83:=fun args w=>Tryz.call83 args w
theorem Zjf : Zj Tryz.prog 84:=fun args w=>Tryz.call84 args w
theorem wQ : Zj Tryz.prog 85:=fun args w=>Tryz.call85 args w
theorem Zjg : Zj Tryz.prog 86:=fun args w=>Tryz.call86 args w
theorem Zjh : Zj Tryz.prog 88:=fun args w=>Tryz.call88 args w
theorem Zji : Zj Tryz.prog 89:=fun args w=>Tryz.call89 args w
theorem Zjj : Zj Tryz.prog 90:=fun args w=>Tryz.call90 args w
theorem wR : Zj Tryz.prog 91:=fun args w=>Tryz.call91 args w
theorem Zjk : Zj Tryz.prog 92:=fun args w=>Tryz.call92 args w
theorem wS : Zj Tryz.prog 93:=fun args w=>Tryz.call93 args w
theorem Zjl : Zj Tryz.prog 94:=fun args w=>Tryz.call94 args w
theorem Zjm : Zj Tryz.prog 95:=fun args w=>Tryz.call95 args w
theorem Zjn : Zj Tryz.prog 97:=fun args w=>Tryz.call97 args w
theorem Zao : Zj Tryz.prog 108:=fun args w=>Tryz.call108 args w
theorem Zap : Zj Tryz.prog 109:=fun args w=>Tryz.call109 args w
theorem Zaq : Zj Tryz.prog 110:=fun args w=>Tryz.call110 args w
theorem Zar : Zj Tryz.prog 111:=fun args w=>Tryz.call111 args w
theorem Zas : Zj Tryz.prog 112:=fun args w=>Tryz.call112 args w
theorem Zat : Zj Tryz.prog 113:=fun args w=>Tryz.call113 args w
theorem Zau : Zj Tryz.prog 114:=fun args w=>Tryz.call114 args w
theorem Zav : Zj Tryz.prog 115:=fun args w=>Tryz.call115 args w
theorem Zaw : Zj Tryz.prog 116:=fun args w=>Tryz.call116 args w
theorem Zax : Zj Tryz.prog 117:=fun args w=>Tryz.call117 args w
theorem Zay : Zj Tryz.prog 118:=fun args w=>Tryz.call118 args w
theorem Zaz : Zj Tryz.prog 119:=fun args w=>Tryz.call119 args w
theorem ZaA : Zj Tryz.prog 120:=fun args w=>Tryz.call120 args w
theorem ZaB : Zj Tryz.prog 121:=fun args w=>Tryz.call121 args w
theorem ZaC : Zj Tryz.prog 122:=fun args w=>Tryz.call122 args w
theorem jV : Zj Tryz.prog 123:=fun args w=>Tryz.call123 args w
theorem ZaD : Zj Tryz.prog 124:=fun args w=>Tryz.call124 args w
theorem ZaE : Zj Tryz.prog 125:=fun args w=>Tryz.call125 args w
theorem ZaF : Zj Tryz.prog 126:=fun args w=>Tryz.call126 args w
theorem ZaG : Zj Tryz.prog 127:=fun args w=>Tryz.call127 args w
theorem ZaH : Zj Tryz.prog 128:=fun args w=>Tryz.call128 args w
theorem ZaI : Zj Tryz.prog 129:=fun args w=>Tryz.call129 args w
theorem ZaJ : Zj Tryz.prog 130:=fun args w=>Tryz.call130 args w
theorem ZaK : Zj Tryz.prog 131:=fun args w=>Tryz.call131 args w
theorem ZaL : Zj Tryz.prog 132:=fun args w=>Tryz.call132 args w
theorem ZaM : Zj Tryz.prog 133:=fun args w=>Tryz.call133 args w
theorem ZaN : Zj Tryz.prog 134:=fun args w=>Tryz.call134 args w
theorem ZaO : Zj Tryz.prog 135:=fun args w=>Tryz.call135 args w
theorem ZaP : Zj Tryz.prog 136:=fun args w=>Tryz.call136 args w
theorem ZaQ : Zj Tryz.prog 137:=fun args w=>Tryz.call137 args w
theorem ZaR : Zj Tryz.prog 138:=fun args w=>Tryz.call138 args w
theorem ZaS : Zj Tryz.prog 139:=fun args w=>Tryz.call139 args w
theorem ZaT : Zj Tryz.prog 140:=fun args w=>Tryz.call140 args w
theorem ZaU : Zj Tryz.prog 141:=fun args w=>Tryz.call141 args w
theorem ZaV : Zj Tryz.prog 142:=fun args w=>Tryz.call142 args w
theorem ZaW : Zj Tryz.prog 143:=fun args w=>Tryz.call143 args w
theorem ZaX : Zj Tryz.prog 157:=fun args w=>Tryz.call157 args w
theorem ZaY : Zj Tryz.prog 158:=fun args w=>Tryz.call158 args w
theorem ZaZ : Zj Tryz.prog 159:=fun args w=>Tryz.call159 args w
theorem Za0 : Zj Tryz.prog 160:=fun args w=>Tryz.call160 args w
theorem Za1 : Zj Tryz.prog 161:=fun args w=>Tryz.call161 args w
theorem jW : Zj Tryz.prog 162:=fun args w=>Tryz.call162 args w
theorem jX : Zj Tryz.prog 163:=fun args w=>Tryz.call163 args w
theorem Za2 : Zj Tryz.prog 164:=fun args w=>Tryz.call164 args w
theorem Za3 : Zj Tryz.prog 165:=fun args w=>Tryz.call165 args w
theorem Za4 : Zj Tryz.prog 166:=fun args w=>Tryz.call166 args w
theorem Za5 : Zj Tryz.prog 167:=fun args w=>Tryz.call167 args w
theorem Za6 : Zj Tryz.prog 168:=fun args w=>Tryz.call168 args w
theorem Za7 : Zj Tryz.prog 169:=fun args w=>Tryz.call169 args w
theorem Za8 : Zj Tryz.prog 170:=fun args w=>Tryz.call170 args w
theorem Za9 : Zj Tryz.prog 171:=fun args w=>Tryz.call171 args w
theorem Zba : Zj Tryz.prog 172:=fun args w=>Tryz.call172 args w
theorem Zbb : Zj Tryz.prog 174:=fun args w=>Tryz.call174 args w
theorem Zbc : Zj Tryz.prog 175:=fun args w=>Tryz.call175 args w
theorem Zbd : Zj Tryz.prog 176:=fun args w=>Tryz.call176 args w
theorem Zbe : Zj Tryz.prog 177:=fun args w=>Tryz.call177 args w
theorem Zbf : Zj Tryz.prog 178:=fun args w=>Tryz.call178 args w
theorem Zbg : Zj Tryz.prog 179:=fun args w=>Tryz.call179 args w
theorem Zbh : Zj Tryz.prog 180:=fun args w=>Tryz.call180 args w
theorem Zbi : Zj Tryz.prog 181:=fun args w=>Tryz.call181 args w
theorem Zbj : Zj Tryz.prog 182:=fun args w=>Tryz.call182 args w
theorem Zbk : Zj Tryz.prog 187:=fun args w=>Tryz.call187 args w
theorem jY : Zj Tryz.prog 188:=fun args w=>Tryz.call188 args w
theorem Zbl : Zj Tryz.prog 189:=fun args w=>Tryz.call189 args w
theorem Zbm : Zj Tryz.prog 190:=fun args w=>Tryz.call190 args w
theorem Zbn : Zj Tryz.prog 191:=fun args w=>Tryz.call191 args w
theorem Zbo : Zj Tryz.prog 192:=fun args w=>Tryz.call192 args w
theorem Zbp : Zj Tryz.prog 193:=fun args w=>Tryz.call193 args w
theorem Zbq : Zj Tryz.prog 194:=fun args w=>Tryz.call194 args w
theorem Zbr : Zj Tryz.prog 195:=fun args w=>Tryz.call195 args w
theorem jZ : Zj Tryz.prog 196:=fun args w=>Tryz.call196 args w
theorem Zbs : Zj Tryz.prog 197:=fun args w=>Tryz.call197 args w
theorem Zbt : Zj Tryz.prog 198:=fun args w=>Tryz.call198 args w
theorem Zbu : Zj Tryz.prog 199:=fun args w=>Tryz.call199 args w
theorem Zbv : Zj Tryz.prog 200:=fun args w=>Tryz.call200 args w
theorem Zbw : Zj Tryz.prog 201:=fun args w=>Tryz.call201 args w
theorem Vf : Zj Tryz.prog 211:=fun args w=>Tryz.call211 args w
theorem Zbx : Zj Tryz.prog 212:=fun args w=>Tryz.call212 args w
theorem Zby : Zj Tryz.prog 213:=fun args w=>Tryz.call213 args w
theorem Zbz : Zj Tryz.prog 214:=fun args w=>Tryz.call214 args w
theorem ZbA : Zj Tryz.prog 215:=fun args w=>Tryz.call215 args w
theorem ZbB : Zj Tryz.prog 216:=fun args w=>Tryz.call216 args w
theorem ZbC : Zj Tryz.prog 218:=fun args w=>Tryz.call218 args w
theorem ZbD : Zj Tryz.prog 219:=fun args w=>Tryz.call219 args w
theorem ZbE : Zj Tryz.prog 220:=fun args w=>Tryz.call220 args w
theorem ZbF : Zj Tryz.prog 221:=fun args w=>Tryz.call221 args w
theorem ZbG : Zj Tryz.prog 222:=fun args w=>Tryz.call222 args w
theorem ZbH : Zj Tryz.prog 223:=fun args w=>Tryz.call223 args w
theorem ZbI : Zj Tryz.prog 227:=fun args w=>Tryz.call227 args w
theorem ZbJ : Zj Tryz.prog 228:=fun args w=>Tryz.call228 args w
theorem ZbK : Zj Tryz.prog 229:=fun args w=>Tryz.call229 args w
theorem ZbL : Zj Tryz.prog 230:=fun args w=>Tryz.call230 args w
theorem ZbM : Zj Tryz.prog 231:=fun args w=>Tryz.call231 args w
theorem ZbN : Zj Tryz.prog 232:=fun args w=>Tryz.call232 args w
theorem ZbO : Zj Tryz.prog 233:=fun args w=>Tryz.call233 args w
theorem ZbP : Zj Tryz.prog 234:=fun args w=>Tryz.call234 args w
theorem ZbQ : Zj Tryz.prog 235:=fun args w=>Tryz.call235 args w
theorem ZbR : Zj Tryz.prog 236:=fun args w=>Tryz.call236 args w
theorem ZbS : Zj Tryz.prog 237:=fun args w=>Tryz.call237 args w
theorem ZbT : Zj Tryz.prog 238:=fun args w=>Tryz.call238 args w
theorem ZbU : Zj Tryz.prog 239:=fun args w=>Tryz.call239 args w
theorem ZbV : Zj Tryz.prog 240:=fun args w=>Tryz.call240 args w
theorem ZbW : Zj Tryz.prog 241:=fun args w=>Tryz.call241 args w
theorem ZbX : Zj Tryz.prog 243:=fun args w=>Tryz.call243 args w
theorem ZbY : Zj Tryz.prog 244:=fun args w=>Tryz.call244 args w
theorem ZbZ : Zj Tryz.prog 245:=fun args w=>Tryz.call245 args w
theorem Zb0 : Zj Tryz.prog 246:=fun args w=>Tryz.call246 args w
theorem Zb1 : Zj Tryz.prog 247:=fun args w=>Tryz.call247 args w
theorem Zb2 : Zj Tryz.prog 248:=fun args w=>Tryz.call248 args w
theorem Zb3 : Zj Tryz.prog 249:=fun args w=>Tryz.call249 args w
theorem Zb4 : Zj Tryz.prog 250:=fun args w=>Tryz.call250 args w
theorem Zb5 : Zj Tryz.prog 251:=fun args w=>Tryz.call251 args w
theorem Zb6 : Zj Tryz.prog 252:=fun args w=>Tryz.call252 args w
theorem Zb7 : Zj Tryz.prog 253:=fun args w=>Tryz.call253 args w
theorem Zb8 : Zj Tryz.prog 254:=fun args w=>Tryz.call254 args w
theorem Zb9 : Zj Tryz.prog 255:=fun args w=>Tryz.call255 args w
theorem kA : Zj Tryz.prog 256:=fun args w=>Tryz.call256 args w
theorem Zca : Zj Tryz.prog 257:=fun args w=>Tryz.call257 args w
theorem Zcb : Zj Tryz.prog 258:=fun args w=>Tryz.call258 args w
theorem Zcc : Zj Tryz.prog 259:=fun args w=>Tryz.call259 args w
theorem Zcd : Zj Tryz.prog 260:=fun args w=>Tryz.call260 args w
theorem Zce : Zj Tryz.prog 261:=fun args w=>Tryz.call261 args w
theorem Zcf : Zj Tryz.prog 262:=fun args w=>Tryz.call262 args w
theorem Zcg : Zj Tryz.prog 263:=fun args w=>Tryz.call263 args w
theorem Zch : Zj Tryz.prog 264:=fun args w=>Tryz.call264 args w
theorem Zci : Zj Tryz.prog 265:=fun args w=>Tryz.call265 args w
theorem Zcj : Zj Tryz.prog 266:=fun args w=>Tryz.call266 args w
theorem Zck : Zj Tryz.prog 267:=fun args w=>Tryz.call267 args w
theorem Zcl : Zj Tryz.prog 268:=fun args w=>Tryz.call268 args w
theorem Zcm : Zj Tryz.prog 269:=fun args w=>Tryz.call269 args w
theorem Zcn : Zj Tryz.prog 270:=fun args w=>Tryz.call270 args w
theorem Zco : Zj Tryz.prog 271:=fun args w=>Tryz.call271 args w
theorem Zcp : Zj Tryz.prog 272:=fun args w=>Tryz.call272 args w
theorem Zcq : Zj Tryz.prog 273:=fun args w=>Tryz.call273 args w
theorem Zcr : Zj Tryz.prog 274:=fun args w=>Tryz.call274 args w
theorem Zcs : Zj Tryz.prog 275:=fun args w=>Tryz.call275 args w
theorem Zct : Zj Tryz.prog 276:=fun args w=>Tryz.call276 args w
theorem Zcu : Zj Tryz.prog 277:=fun args w=>Tryz.call277 args w
theorem Zcv : Zj Tryz.prog 278:=fun args w=>Tryz.call278 args w
theorem Zcw : Zj Tryz.prog 279:=fun args w=>Tryz.call279 args w
theorem Zcx : Zj Tryz.prog 280:=fun args w=>Tryz.call280 args w
theorem Zcy : Zj Tryz.prog 281:=fun args w=>Tryz.call281 args w
theorem Zcz : Zj Tryz.prog 282:=fun args w=>Tryz.call282 args w
theorem ZcA : Zj Tryz.prog 283:=fun args w=>Tryz.call283 args w
theorem ZcB : Zj Tryz.prog 284:=fun args w=>Tryz.call284 args w
theorem ZcC : Zj Tryz.prog 285:=fun args w=>Tryz.call285 args w
theorem ZcD : Zj Tryz.prog 286:=fun args w=>Tryz.call286 args w
theorem ZcE : Zj Tryz.prog 287:=fun args w=>Tryz.call287 args w
theorem ZcF : Zj Tryz.prog 288:=fun args w=>Tryz.call288 args w
theorem ZcG : Zj Tryz.prog 289:=fun args w=>Tryz.call289 args w
theorem ZcH : Zj Tryz.prog 290:=fun args w=>Tryz.call290 args w
theorem ZcI : Zj Tryz.prog 291:=fun args w=>Tryz.call291 args w
theorem ZcJ : Zj Tryz.prog 292:=fun args w=>Tryz.call292 args w
theorem ZcK : Zj Tryz.prog 293:=fun args w=>Tryz.call293 args w
theorem ZcL : Zj Tryz.prog 294:=fun args w=>Tryz.call294 args w
theorem ZcM : Zj Tryz.prog 295:=fun args w=>Tryz.call295 args w
theorem ZcN : Zj Tryz.prog 296:=fun args w=>Tryz.call296 args w
theorem ZcO : Zj Tryz.prog 297:=fun args w=>Tryz.call297 args w
theorem ZcP : Zj Tryz.prog 298:=fun args w=>Tryz.call298 args w
theorem mixed : Tryz.prog.follows .mixedOrders=true:=Ze
end Go.Proofs.YtenjikkmmibffaaGreatDoor.K
