/- Declarations that the closing texts need, part 5: joined by tools/slim.py. -/
import Derived.Test.YtiigdaohjanidaaGreatDoorP4
import Derived.KernelRfl
namespace Go.Proofs.YtiigdaohjanidaaGreatDoor.K
open Go Go.AM Go.Proofs
abbrev PC (f:FuncId) (a:List V) (y:PV):=ACalls Tryz.prog f a [] fun x H'=>x= .p y/\H'= []
abbrev PT (f:FuncId) (a:List V) (b:List V):=ACalls Tryz.prog f a [] fun x H'=>x= .tup b/\H'= []
theorem kf {α:Type} {a b:α} (h:a=b:=by kernel_rfl):a=b:=Zl h rfl
theorem Ze {p:Prop} (h:p:=by kernel_rfl):p:=h
@[go_sem] theorem ZqL : Tryz.prog.underlying 3=some (.int .i64):=kf
@[go_sem] theorem ZqH : YU Tryz.prog 3=some 1:=kf
@[go_sem] theorem ZpU : XW Tryz.prog 3=some false:=kf
@[go_sem] theorem Znb : XB Tryz.prog 3=some [.int .i64 0]:=kf
@[go_sem] theorem ZqM : Tryz.prog.underlying 4=some .bool:=kf
@[go_sem] theorem ZqI : YU Tryz.prog 4=some 1:=kf
@[go_sem] theorem ZpV : XW Tryz.prog 4=some false:=kf
@[go_sem] theorem ZqN : Tryz.prog.underlying 5=some (.int .u8):=kf
@[go_sem] theorem ZqJ : YU Tryz.prog 5=some 1:=kf
@[go_sem] theorem ZpW : XW Tryz.prog 5=some false:=kf
@[go_sem] theorem ZqO : Tryz.prog.underlying 9=some .string:=kf
@[go_sem] theorem ZqK : YU Tryz.prog 9=some 1:=kf
@[go_sem] theorem ZpX : XW Tryz.prog 9=some false:=kf
@[go_sem] theorem Zp4 : YU Tryz.prog 26=some 1:=kf
@[go_sem] theorem Zoa : XW Tryz.prog 26=some false:=kf
@[go_sem] theorem Zqr : Tryz.prog.underlying 30=some (.slice 49):=kf
@[go_sem] theorem Zp5 : YU Tryz.prog 30=some 1:=kf
@[go_sem] theorem Zob : XW Tryz.prog 30=some false:=kf
@[go_sem] theorem Zow : Wd Tryz.prog 30=some (none,4):=kf
@[go_sem] theorem ZnV : QB Tryz.prog 30=some 4:=kf
@[go_sem] theorem xQ : AO Tryz.prog 30=some (4,64):=kf
@[go_sem] theorem Zg6 (H:List AM.Obj) (u:TypeId) (o n:Nat) (y:V):VJ Tryz.prog H 30 u (.sl o 0 n n) y=U5 H (some (4,64)) (oat H o) o n (WU (Tryz.prog.underlying u) H y):=Y5 xQ
@[go_sem] theorem Zqs : Tryz.prog.underlying 31=some (.slice 3):=kf
@[go_sem] theorem Zp6 : YU Tryz.prog 31=some 1:=kf
@[go_sem] theorem Zoc : XW Tryz.prog 31=some false:=kf
@[go_sem] theorem Zox : Wd Tryz.prog 31=some (none,1):=kf
@[go_sem] theorem ZnW : QB Tryz.prog 31=some 1:=kf
@[go_sem] theorem xR : AO Tryz.prog 31=some (1,8):=kf
@[go_sem] theorem Zg7 (H:List AM.Obj) (u:TypeId) (o n:Nat) (y:V):VJ Tryz.prog H 31 u (.sl o 0 n n) y=U5 H (some (1,8)) (oat H o) o n (WU (Tryz.prog.underlying u) H y):=Y5 xR
@[go_sem] theorem qT : RO Tryz.prog 31=some (1,8,.int .i64 0):=kf
@[go_sem] theorem ZpA (H:List AM.Obj) (fr:List V) (x y:Operand):WN Tryz.prog (.makeSlice 31 x y) fr H=Qo (some (1,8,.int .i64 0)) H (ev fr x) (ev fr y):=EL qT
@[go_sem] theorem Zld : XB Tryz.prog 31=some [.list true []]:=kf
@[go_sem] theorem Zp7 : YU Tryz.prog 33=some 2:=kf
@[go_sem] theorem Zod : XW Tryz.prog 33=some true:=kf
@[go_sem] theorem Zkb : ZX Tryz.prog 33 0=some 0:=kf
@[go_sem] theorem Zkc : ZX Tryz.prog 33 1=some 1:=kf
@[go_sem] theorem ZpY : Gd Tryz.prog 33=some (FH [(0,1),(1,1)]):=kf
@[go_sem] theorem Zle : XB Tryz.prog 33=some [.list true [],.list true []]:=kf
@[go_sem] theorem Zqt : Tryz.prog.underlying 35=some (.slice 9):=kf
@[go_sem] theorem Zp8 : YU Tryz.prog 35=some 1:=kf
@[go_sem] theorem Zoe : XW Tryz.prog 35=some false:=kf
@[go_sem] theorem Zoy : Wd Tryz.prog 35=some (none,1):=kf
@[go_sem] theorem Zqu : Tryz.prog.underlying 36=some (.slice 129):=kf
@[go_sem] theorem Zp9 : YU Tryz.prog 36=some 1:=kf
@[go_sem] theorem Zof : XW Tryz.prog 36=some false:=kf
@[go_sem] theorem Zoz : Wd Tryz.prog 36=some (none,6):=kf
@[go_sem] theorem Zqa : YU Tryz.prog 38=some 2:=kf
@[go_sem] theorem Zog : XW Tryz.prog 38=some true:=kf
@[go_sem] theorem Zkd : ZX Tryz.prog 38 0=some 0:=kf
@[go_sem] theorem Zke : ZX Tryz.prog 38 1=some 1:=kf
@[go_sem] theorem Zqv : Tryz.prog.underlying 39=some (.slice 82):=kf
@[go_sem] theorem Zqb : YU Tryz.prog 39=some 1:=kf
@[go_sem] theorem Zoh : XW Tryz.prog 39=some false:=kf
@[go_sem] theorem ZoA : Wd Tryz.prog 39=some (none,14):=kf
@[go_sem] theorem Zqw : Tryz.prog.underlying 40=some (.slice 59):=kf
@[go_sem] theorem Zqc : YU Tryz.prog 40=some 1:=kf
@[go_sem] theorem Zoi : XW Tryz.prog 40=some false:=kf
@[go_sem] theorem ZoB : Wd Tryz.prog 40=some (none,16):=kf
@[go_sem] theorem ZnX : QB Tryz.prog 40=some 16:=kf
@[go_sem] theorem xS : AO Tryz.prog 40=some (16,152):=kf
@[go_sem] theorem Zg8 (H:List AM.Obj) (u:TypeId) (o n:Nat) (y:V):VJ Tryz.prog H 40 u (.sl o 0 n n) y=U5 H (some (16,152)) (oat H o) o n (WU (Tryz.prog.underlying u) H y):=Y5 xS
@[go_sem] theorem Zqx : Tryz.prog.underlying 41=some (.slice 132):=kf
@[go_sem] theorem Zqd : YU Tryz.prog 41=some 1:=kf
@[go_sem] theorem Zoj : XW Tryz.prog 41=some false:=kf
@[go_sem] theorem ZoC : Wd Tryz.prog 41=some (none,2):=kf
@[go_sem] theorem Zqe : YU Tryz.prog 43=some 6:=kf
@[go_sem] theorem Zok : XW Tryz.prog 43=some true:=kf
@[go_sem] theorem Zkf : ZX Tryz.prog 43 0=some 0:=kf
@[go_sem] theorem Zkg : ZX Tryz.prog 43 1=some 2:=kf
@[go_sem] theorem Zkh : ZX Tryz.prog 43 2=some 3:=kf
@[go_sem] theorem Zki : ZX Tryz.prog 43 3=some 4:=kf
@[go_sem] theorem Zkj : ZX Tryz.prog 43 4=some 5:=kf
@[go_sem] theorem ZpZ : Gd Tryz.prog 43=some (FH [(0,2),(2,1),(3,1),(4,1),(5,1)]):=kf
@[go_sem] theorem Zlf : XB Tryz.prog 43=some [.list true [],.list true [],.list true [],.list true [],.list true [],.list true []]:=kf
@[go_sem] theorem Zqy : Tryz.prog.underlying 46=some (.slice 4):=kf
@[go_sem] theorem Zqf : YU Tryz.prog 46=some 1:=kf
@[go_sem] theorem Zol : XW Tryz.prog 46=some false:=kf
@[go_sem] theorem ZoD : Wd Tryz.prog 46=some (none,1):=kf
@[go_sem] theorem ZnY : QB Tryz.prog 46=some 1:=kf
@[go_sem] theorem dB : AO Tryz.prog 46=some (1,1):=kf
@[go_sem] theorem Zg4 (H:List AM.Obj) (u:TypeId) (y:V):VJ Tryz.prog H 46 u (.p (.list true [])) y=Oq H (some (1,1)) (WU (Tryz.prog.underlying u) H y):=ED dB
@[go_sem] theorem Zg9 (H:List AM.Obj) (u:TypeId) (o n:Nat) (y:V):VJ Tryz.prog H 46 u (.sl o 0 n n) y=U5 H (some (1,1)) (oat H o) o n (WU (Tryz.prog.underlying u) H y):=Y5 dB
@[go_sem] theorem qU : RO Tryz.prog 46=some (1,1,.bool false):=kf
@[go_sem] theorem ZpB (H:List AM.Obj) (fr:List V) (x y:Operand):WN Tryz.prog (.makeSlice 46 x y) fr H=Qo (some (1,1,.bool false)) H (ev fr x) (ev fr y):=EL qU
@[go_sem] theorem Zqz : Tryz.prog.underlying 47=some (.slice 126):=kf
@[go_sem] theorem Zqg : YU Tryz.prog 47=some 1:=kf
@[go_sem] theorem Zom : XW Tryz.prog 47=some false:=kf
@[go_sem] theorem ZoE : Wd Tryz.prog 47=some (none,2):=kf
@[go_sem] theorem ZnZ : QB Tryz.prog 47=some 2:=kf
@[go_sem] theorem dC : AO Tryz.prog 47=some (2,16):=kf
@[go_sem] theorem Zg5 (H:List AM.Obj) (u:TypeId) (y:V):VJ Tryz.prog H 47 u (.p (.list true [])) y=Oq H (some (2,16)) (WU (Tryz.prog.underlying u) H y):=ED dC
@[go_sem] theorem Zha (H:List AM.Obj) (u:TypeId) (o n:Nat) (y:V):VJ Tryz.prog H 47 u (.sl o 0 n n) y=U5 H (some (2,16)) (oat H o) o n (WU (Tryz.prog.underlying u) H y):=Y5 dC
@[go_sem] theorem Zqh : YU Tryz.prog 49=some 4:=kf
@[go_sem] theorem Zon : XW Tryz.prog 49=some true:=kf
@[go_sem] theorem Zkk : ZX Tryz.prog 49 0=some 0:=kf
@[go_sem] theorem Zkl : ZX Tryz.prog 49 1=some 1:=kf
@[go_sem] theorem Zkm : ZX Tryz.prog 49 2=some 2:=kf
@[go_sem] theorem Zkn : ZX Tryz.prog 49 3=some 3:=kf
@[go_sem] theorem Zp0 : Gd Tryz.prog 49=some (FH [(0,1),(1,1),(2,1),(3,1)]):=kf
@[go_sem] theorem Zlg : XB Tryz.prog 49=some [.int .i64 0,.int .i64 0,.list true [],.list true []]:=kf
@[go_sem] theorem Zqi : YU Tryz.prog 51=some 4:=kf
@[go_sem] theorem Zoo : XW Tryz.prog 51=some true:=kf
@[go_sem] theorem Zko : ZX Tryz.prog 51 0=some 0:=kf
@[go_sem] theorem Zkp : ZX Tryz.prog 51 1=some 1:=kf
@[go_sem] theorem Zkq : ZX Tryz.prog 51 2=some 2:=kf
@[go_sem] theorem Zkr : ZX Tryz.prog 51 3=some 3:=kf
@[go_sem] theorem Zp1 : Gd Tryz.prog 51=some (FH [(0,1),(1,1),(2,1),(3,1)]):=kf
@[go_sem] theorem Zlh : XB Tryz.prog 51=some [.int .i64 0,.int .i64 0,.int .i64 0,.int .i64 0]:=kf
@[go_sem] theorem Zqj : YU Tryz.prog 57=some 4:=kf
@[go_sem] theorem Zop : XW Tryz.prog 57=some true:=kf
@[go_sem] theorem Zks : ZX Tryz.prog 57 0=some 0:=kf
@[go_sem] theorem Zkt : ZX Tryz.prog 57 1=some 1:=kf
@[go_sem] theorem Zku : ZX Tryz.prog 57 2=some 2:=kf
@[go_sem] theorem Zkv : ZX Tryz.prog 57 3=some 3:=kf
@[go_sem] theorem Zp2 : Gd Tryz.prog 57=some (FH [(0,1),(1,1),(2,1),(3,1)]):=kf
@[go_sem] theorem Zli : XB Tryz.prog 57=some [.int .i64 0,.int .i64 0,.int .i64 0,.int .i64 0]:=kf
@[go_sem] theorem Zqk : YU Tryz.prog 59=some 16:=kf
@[go_sem] theorem Zoq : XW Tryz.prog 59=some true:=kf
@[go_sem] theorem Zkw : ZX Tryz.prog 59 0=some 0:=kf
@[go_sem] theorem Zkx : ZX Tryz.prog 59 1=some 1:=kf
@[go_sem] theorem Zky : ZX Tryz.prog 59 2=some 2:=kf
@[go_sem] theorem Zkz : ZX Tryz.prog 59 3=some 6:=kf
@[go_sem] theorem ZkA : ZX Tryz.prog 59 4=some 10:=kf
@[go_sem] theorem ZkB : ZX Tryz.prog 59 5=some 11:=kf
@[go_sem] theorem ZkC : ZX Tryz.prog 59 6=some 12:=kf
@[go_sem] theorem ZkD : ZX Tryz.prog 59 7=some 13:=kf
@[go_sem] theorem ZkE : ZX Tryz.prog 59 8=some 14:=kf
@[go_sem] theorem ZkF : ZX Tryz.prog 59 9=some 15:=kf
@[go_sem] theorem Zlj : XB Tryz.prog 59=some [.str [],.list true [],.int .i64 0,.int .i64 0,.int .i64 0,.int .i64 0,.int .i64 0,.int .i64 0,.int .i64 0,.int .i64 0,.int .i64 0,.int .i64 0,.int .i64 0,.int .i64 0,.int .i64 0,.bool false]:=kf
@[go_sem] theorem Zql : YU Tryz.prog 63=some 15:=kf
@[go_sem] theorem Zor : XW Tryz.prog 63=some true:=kf
@[go_sem] theorem ZkG : ZX Tryz.prog 63 0=some 0:=kf
@[go_sem] theorem ZkH : ZX Tryz.prog 63 1=some 6:=kf
@[go_sem] theorem ZkI : ZX Tryz.prog 63 2=some 8:=kf
@[go_sem] theorem ZkJ : ZX Tryz.prog 63 3=some 9:=kf
@[go_sem] theorem Zqm : YU Tryz.prog 82=some 14:=kf
@[go_sem] theorem Zos : XW Tryz.prog 82=some true:=kf
@[go_sem] theorem ZkK : ZX Tryz.prog 82 0=some 0:=kf
@[go_sem] theorem ZkL : ZX Tryz.prog 82 1=some 1:=kf
@[go_sem] theorem ZkM : ZX Tryz.prog 82 2=some 2:=kf
@[go_sem] theorem ZkN : ZX Tryz.prog 82 3=some 3:=kf
@[go_sem] theorem ZkO : ZX Tryz.prog 82 4=some 4:=kf
@[go_sem] theorem ZkP : ZX Tryz.prog 82 5=some 5:=kf
@[go_sem] theorem ZkQ : ZX Tryz.prog 82 6=some 6:=kf
@[go_sem] theorem ZkR : ZX Tryz.prog 82 7=some 7:=kf
@[go_sem] theorem ZkS : ZX Tryz.prog 82 8=some 8:=kf
@[go_sem] theorem ZkT : ZX Tryz.prog 82 9=some 9:=kf
@[go_sem] theorem Zf1 : ZX Tryz.prog 82 10=some 10:=kf
@[go_sem] theorem Zf2 : ZX Tryz.prog 82 11=some 11:=kf
@[go_sem] theorem Zf3 : ZX Tryz.prog 82 12=some 12:=kf
@[go_sem] theorem Zf4 : ZX Tryz.prog 82 13=some 13:=kf
@[go_sem] theorem Zlk : XB Tryz.prog 82=some [.str [],.int .i64 0,.int .i64 0,.int .i64 0,.list true [],.int .i64 0,.int .i64 0,.int .i64 0,.int .i64 0,.int .i64 0,.int .i64 0,.int .i64 0,.int .i64 0,.int .i64 0]:=kf
@[go_sem] theorem Zqn : YU Tryz.prog 90=some 1:=kf
@[go_sem] theorem Zot : XW Tryz.prog 90=some false:=kf
@[go_sem] theorem ZqA : Tryz.prog.underlying 93=some (.slice 178):=kf
@[go_sem] theorem Zqo : YU Tryz.prog 93=some 1:=kf
@[go_sem] theorem Zou : XW Tryz.prog 93=some false:=kf
@[go_sem] theorem ZoF : Wd Tryz.prog 93=some (none,4):=kf
@[go_sem] theorem Zn0 : QB Tryz.prog 93=some 4:=kf
@[go_sem] theorem xT : AO Tryz.prog 93=some (4,32):=kf
@[go_sem] theorem Zhb (H:List AM.Obj) (u:TypeId) (o n:Nat) (y:V):VJ Tryz.prog H 93 u (.sl o 0 n n) y=U5 H (some (4,32)) (oat H o) o n (WU (Tryz.prog.underlying u) H y):=Y5 xT
@[go_sem] theorem Zqp : YU Tryz.prog 95=some 5:=kf
@[go_sem] theorem Zov : XW Tryz.prog 95=some true:=kf
@[go_sem] theorem ZkU : ZX Tryz.prog 95 0=some 0:=kf
@[go_sem] theorem ZkV : ZX Tryz.prog 95 1=some 1:=kf
@[go_sem] theorem ZkW : ZX Tryz.prog 95 2=some 2:=kf
@[go_sem] theorem ZkX : ZX Tryz.prog 95 3=some 3:=kf
@[go_sem] theorem ZkY : ZX Tryz.prog 95 4=some 4:=kf
@[go_sem] theorem Zp3 : Gd Tryz.prog 95=some (FH [(0,1),(1,1),(2,1),(3,1),(4,1)]):=kf
@[go_sem] theorem Zll : XB Tryz.prog 95=some [.bool false,.int .i64 0,.list true [],.int .i64 0,.int .i64 0]:=kf
@[go_sem] theorem Zpf : Tryz.prog.underlying 110=some (.slice 158):=kf
@[go_sem] theorem ZoV : YU Tryz.prog 110=some 1:=kf
@[go_sem] theorem Zmu : XW Tryz.prog 110=some false:=kf
@[go_sem] theorem ZmN : Wd Tryz.prog 110=some (none,7):=kf
@[go_sem] theorem Zl8 : QB Tryz.prog 110=some 7:=kf
@[go_sem] theorem nT : AO Tryz.prog 110=some (7,88):=kf
@[go_sem] theorem ZdT (H:List AM.Obj) (u:TypeId) (o n:Nat) (y:V):VJ Tryz.prog H 110 u (.sl o 0 n n) y=U5 H (some (7,88)) (oat H o) o n (WU (Tryz.prog.underlying u) H y):=Y5 nT
@[go_sem] theorem Zpg : Tryz.prog.underlying 121=some (.slice 229):=kf
@[go_sem] theorem ZmO : Wd Tryz.prog 121=some (none,2):=kf
@[go_sem] theorem Zl9 : QB Tryz.prog 121=some 2:=kf
@[go_sem] theorem P2 : AO Tryz.prog 121=some (2,24):=kf
@[go_sem] theorem ZdS (H:List AM.Obj) (u:TypeId) (y:V):VJ Tryz.prog H 121 u (.p (.list true [])) y=Oq H (some (2,24)) (WU (Tryz.prog.underlying u) H y):=ED P2
@[go_sem] theorem ZdU (H:List AM.Obj) (u:TypeId) (o n:Nat) (y:V):VJ Tryz.prog H 121 u (.sl o 0 n n) y=U5 H (some (2,24)) (oat H o) o n (WU (Tryz.prog.underlying u) H y):=Y5 P2
@[go_sem] theorem ZoW : YU Tryz.prog 126=some 2:=kf
@[go_sem] theorem Zmv : XW Tryz.prog 126=some true:=kf
@[go_sem] theorem Zfk : ZX Tryz.prog 126 0=some 0:=kf
@[go_sem] theorem Zfl : ZX Tryz.prog 126 1=some 1:=kf
@[go_sem] theorem mC : Tryz.prog.stoodInHeld 126=false:=kf
@[go_sem] theorem ZoH : Gd Tryz.prog 126=some (FH [(0,1),(1,1)]):=kf
@[go_sem] theorem Znn (d:Nat) (a b:List PV):LO Tryz.prog d 126 (Tryz.prog.underlying 126) (.agg a) (.agg b)=Nh (vV (Ue Tryz.prog d 3) (apart Tryz.prog 3 a 0) (apart Tryz.prog 3 b 0)) (Nh (vV (Ue Tryz.prog d 4) (apart Tryz.prog 4 a 1) (apart Tryz.prog 4 b 1)) (some true)):=by rw [Tryz.underlying126,DD mC];simp [GV,LP]
@[go_sem] theorem Zny : Tryz.prog.eqGuardType Tryz.prog.depth 126=false:=kf
@[go_sem] theorem Zf9 : XB Tryz.prog 126=some [.int .i64 0,.bool false]:=kf
@[go_sem] theorem Zph : Tryz.prog.underlying 127=some (.slice 188):=kf
@[go_sem] theorem ZoX : YU Tryz.prog 127=some 1:=kf
@[go_sem] theorem Zmw : XW Tryz.prog 127=some false:=kf
@[go_sem] theorem ZmP : Wd Tryz.prog 127=some (none,2):=kf
@[go_sem] theorem ZoY : YU Tryz.prog 129=some 6:=kf
@[go_sem] theorem Zmx : XW Tryz.prog 129=some true:=kf
@[go_sem] theorem Zfm : ZX Tryz.prog 129 0=some 0:=kf
@[go_sem] theorem Zfn : ZX Tryz.prog 129 1=some 1:=kf
@[go_sem] theorem Zfo : ZX Tryz.prog 129 2=some 2:=kf
@[go_sem] theorem Zfp : ZX Tryz.prog 129 3=some 3:=kf
@[go_sem] theorem Zfq : ZX Tryz.prog 129 4=some 4:=kf
@[go_sem] theorem Zfr : ZX Tryz.prog 129 5=some 5:=kf
@[go_sem] theorem ZoI : Gd Tryz.prog 129=some (FH [(0,1),(1,1),(2,1),(3,1),(4,1),(5,1)]):=kf
@[go_sem] theorem Zga : XB Tryz.prog 129=some [.int .i64 0,.int .i64 0,.int .i64 0,.int .i64 0,.list true [],.list true []]:=kf
@[go_sem] theorem ZoZ : YU Tryz.prog 132=some 2:=kf
@[go_sem] theorem Zmy : XW Tryz.prog 132=some true:=kf
@[go_sem] theorem ZmQ : Wd Tryz.prog 132=some ((some 2),1):=kf
@[go_sem] theorem Zgb : XB Tryz.prog 132=some [.int .i64 0,.int .i64 0]:=kf
@[go_sem] theorem Zpi : Tryz.prog.underlying 139=some (.int .u64):=kf
@[go_sem] theorem ZmR : Wd Tryz.prog 149=some ((some 6),1):=kf
@[go_sem] theorem Zo0 : YU Tryz.prog 151=some 8:=kf
@[go_sem] theorem Zmz : XW Tryz.prog 151=some true:=kf
@[go_sem] theorem Zfs : ZX Tryz.prog 151 0=some 0:=kf
@[go_sem] theorem Zft : ZX Tryz.prog 151 1=some 1:=kf
@[go_sem] theorem Zfu : ZX Tryz.prog 151 2=some 2:=kf
@[go_sem] theorem ZoJ : Gd Tryz.prog 151=some (FH [(0,1),(1,1),(2,6)]):=kf
@[go_sem] theorem Zgc : XB Tryz.prog 151=some [.int .i64 0,.int .i64 0,.int .i64 0,.int .i64 0,.int .i64 0,.int .i64 0,.int .i64 0,.int .i64 0]:=kf
@[go_sem] theorem Zo1 : YU Tryz.prog 158=some 7:=kf
@[go_sem] theorem ZmA : XW Tryz.prog 158=some true:=kf
@[go_sem] theorem Zfv : ZX Tryz.prog 158 0=some 0:=kf
@[go_sem] theorem Zfw : ZX Tryz.prog 158 1=some 1:=kf
@[go_sem] theorem Zfx : ZX Tryz.prog 158 2=some 2:=kf
@[go_sem] theorem Zfy : ZX Tryz.prog 158 3=some 3:=kf
@[go_sem] theorem ZoK : Gd Tryz.prog 158=some (FH [(0,1),(1,1),(2,1),(3,4)]):=kf
@[go_sem] theorem Zgd : XB Tryz.prog 158=some [.int .i64 0,.int .i64 0,.int .i64 0,.int .i64 0,.int .i64 0,.list true [],.list true []]:=kf
@[go_sem] theorem Zo2 : YU Tryz.prog 178=some 4:=kf
@[go_sem] theorem ZmB : XW Tryz.prog 178=some true:=kf
@[go_sem] theorem Zfz : ZX Tryz.prog 178 1=some 1:=kf
@[go_sem] theorem ZfA : ZX Tryz.prog 178 2=some 2:=kf
@[go_sem] theorem ZfB : ZX Tryz.prog 178 3=some 3:=kf
@[go_sem] theorem ZoL : Gd Tryz.prog 178=some (FH [(0,1),(1,1),(2,1),(3,1)]):=kf
@[go_sem] theorem Zge : XB Tryz.prog 178=some [.int .i64 0,.int .i64 0,.int .i64 0,.bool false]:=kf
@[go_sem] theorem Zo3 : YU Tryz.prog 188=some 2:=kf
@[go_sem] theorem ZmC : XW Tryz.prog 188=some true:=kf
@[go_sem] theorem ZfC : ZX Tryz.prog 188 0=some 0:=kf
@[go_sem] theorem ZfD : ZX Tryz.prog 188 1=some 1:=kf
@[go_sem] theorem Zgf : XB Tryz.prog 188=some [.int .i64 0,.int .i64 0]:=kf
@[go_sem] theorem Zpj : Tryz.prog.underlying 192=some (.slice 31):=kf
@[go_sem] theorem ZmS : Wd Tryz.prog 192=some (none,1):=kf
@[go_sem] theorem Zma : QB Tryz.prog 192=some 1:=kf
@[go_sem] theorem nU : AO Tryz.prog 192=some (1,24):=kf
@[go_sem] theorem ZdV (H:List AM.Obj) (u:TypeId) (o n:Nat) (y:V):VJ Tryz.prog H 192 u (.sl o 0 n n) y=U5 H (some (1,24)) (oat H o) o n (WU (Tryz.prog.underlying u) H y):=Y5 nU
@[go_sem] theorem Zpk : Tryz.prog.underlying 202=some (.slice 30):=kf
@[go_sem] theorem ZmT : Wd Tryz.prog 202=some (none,1):=kf
@[go_sem] theorem Zmb : QB Tryz.prog 202=some 1:=kf
@[go_sem] theorem Zo4 : YU Tryz.prog 204=some 1:=kf
@[go_sem] theorem ZmD : XW Tryz.prog 204=some false:=kf
@[go_sem] theorem Zo5 : YU Tryz.prog 205=some 1:=kf
@[go_sem] theorem ZmE : XW Tryz.prog 205=some false:=kf
@[go_sem] theorem ZmU : Wd Tryz.prog 205=some (none,1):=kf
@[go_sem] theorem ZfE : ZX Tryz.prog 207 0=some 0:=kf
@[go_sem] theorem ZfF : ZX Tryz.prog 207 1=some 6:=kf
@[go_sem] theorem ZfG : ZX Tryz.prog 207 2=some 7:=kf
@[go_sem] theorem ZfH : ZX Tryz.prog 207 3=some 8:=kf
@[go_sem] theorem ZfI : ZX Tryz.prog 207 4=some 9:=kf
@[go_sem] theorem ZoM : Gd Tryz.prog 207=some (FH [(0,6),(6,1),(7,1),(8,1),(9,1)]):=kf
@[go_sem] theorem Zgg : XB Tryz.prog 207=some [.list true [],.list true [],.list true [],.list true [],.list true [],.list true [],.list true [],.list true [],.nilm,.int .i64 0]:=kf
@[go_sem] theorem ZfJ : ZX Tryz.prog 229 0=some 0:=kf
@[go_sem] theorem ZfK : ZX Tryz.prog 229 1=some 1:=kf
@[go_sem] theorem ZoN : Gd Tryz.prog 229=some (FH [(0,1),(1,1)]):=kf
@[go_sem] theorem Zgh : XB Tryz.prog 229=some [.int .i64 0,.str []]:=kf
@[go_sem] theorem Zpl : Tryz.prog.underlying 232=some (.slice 26):=kf
@[go_sem] theorem ZmV : Wd Tryz.prog 232=some (none,1):=kf
@[go_sem] theorem Zmc : QB Tryz.prog 232=some 1:=kf
@[go_sem] theorem nV : AO Tryz.prog 232=some (1,8):=kf
@[go_sem] theorem ZdW (H:List AM.Obj) (u:TypeId) (o n:Nat) (y:V):VJ Tryz.prog H 232 u (.sl o 0 n n) y=U5 H (some (1,8)) (oat H o) o n (WU (Tryz.prog.underlying u) H y):=Y5 nV
@[go_sem] theorem ZfL : ZX Tryz.prog 261 0=some 0:=kf
@[go_sem] theorem ZfM : ZX Tryz.prog 261 1=some 6:=kf
@[go_sem] theorem ZfN : ZX Tryz.prog 261 2=some 10:=kf
@[go_sem] theorem ZfO : ZX Tryz.prog 261 3=some 11:=kf
@[go_sem] theorem ZfP : ZX Tryz.prog 261 4=some 12:=kf
@[go_sem] theorem ZoO : Gd Tryz.prog 261=some (FH [(0,6),(6,4),(10,1),(11,1),(12,7)]):=kf
@[go_sem] theorem Zgi : XB Tryz.prog 261=some [.list true [],.list true [],.list true [],.list true [],.list true [],.list true [],.int .i64 0,.int .i64 0,.list true [],.list true [],.int .i64 0,.bool false,.int .i64 0,.int .i64 0,.int .i64 0,.int .i64 0,.int .i64 0,.list true [],.list true []]:=kf
@[go_sem] theorem Zo6 : YU Tryz.prog 267=some 2:=kf
@[go_sem] theorem ZmF : XW Tryz.prog 267=some true:=kf
@[go_sem] theorem ZoP : Gd Tryz.prog 267=some (FH [(0,1),(1,1)]):=kf
@[go_sem] theorem Zgj : XB Tryz.prog 267=some [.int .i64 0,.int .i64 0]:=kf
@[go_sem] theorem Zpm : Tryz.prog.underlying 268=some (.array 4 3):=kf
@[go_sem] theorem Zo7 : YU Tryz.prog 268=some 4:=kf
@[go_sem] theorem ZmG : XW Tryz.prog 268=some true:=kf
@[go_sem] theorem ZoQ : Gd Tryz.prog 268=some (plA 1):=kf
@[go_sem] theorem Zgk : XB Tryz.prog 268=some [.int .i64 0,.int .i64 0,.int .i64 0,.int .i64 0]:=kf
@[go_sem] theorem Zpn : Tryz.prog.underlying 286=some (.slice 90):=kf
@[go_sem] theorem ZmW : Wd Tryz.prog 286=some (none,1):=kf
@[go_sem] theorem Zmd : QB Tryz.prog 286=some 1:=kf
@[go_sem] theorem Zpo : Tryz.prog.underlying 292=some (.slice 5):=kf
@[go_sem] theorem Zme : QB Tryz.prog 292=some 1:=kf
@[go_sem] theorem Zo8 : YU Tryz.prog 307=some 4:=kf
@[go_sem] theorem ZmH : XW Tryz.prog 307=some true:=kf
@[go_sem] theorem ZfQ : ZX Tryz.prog 307 0=some 0:=kf
@[go_sem] theorem ZfR : ZX Tryz.prog 307 1=some 1:=kf
@[go_sem] theorem ZfS : ZX Tryz.prog 307 2=some 2:=kf
@[go_sem] theorem ZfT : ZX Tryz.prog 307 3=some 3:=kf
@[go_sem] theorem ZoR : Gd Tryz.prog 307=some (FH [(0,1),(1,1),(2,1),(3,1)]):=kf
@[go_sem] theorem Zgl : XB Tryz.prog 307=some [.int .i64 0,.int .i64 0,.int .i64 0,.int .i64 0]:=kf
@[go_sem] theorem ZmX : Wd Tryz.prog 318=some ((some 64),1):=kf
@[go_sem] theorem Zpp : Tryz.prog.underlying 323=some (.slice 57):=kf
@[go_sem] theorem Zo9 : YU Tryz.prog 323=some 1:=kf
@[go_sem] theorem ZmI : XW Tryz.prog 323=some false:=kf
@[go_sem] theorem ZmY : Wd Tryz.prog 323=some (none,4):=kf
@[go_sem] theorem Zmf : QB Tryz.prog 323=some 4:=kf
@[go_sem] theorem nX : AO Tryz.prog 323=some (4,32):=kf
@[go_sem] theorem ZdX (H:List AM.Obj) (u:TypeId) (o n:Nat) (y:V):VJ Tryz.prog H 323 u (.sl o 0 n n) y=U5 H (some (4,32)) (oat H o) o n (WU (Tryz.prog.underlying u) H y):=Y5 nX
@[go_sem] theorem Zpa : YU Tryz.prog 325=some 25:=kf
@[go_sem] theorem ZmJ : XW Tryz.prog 325=some true:=kf
@[go_sem] theorem ZfU : ZX Tryz.prog 325 0=some 0:=kf
@[go_sem] theorem ZfV : ZX Tryz.prog 325 1=some 6:=kf
@[go_sem] theorem ZfW : ZX Tryz.prog 325 2=some 20:=kf
@[go_sem] theorem ZfX : ZX Tryz.prog 325 3=some 24:=kf
@[go_sem] theorem ZoS : Gd Tryz.prog 325=some (FH [(0,6),(6,14),(20,4),(24,1)]):=kf
@[go_sem] theorem Zgm : XB Tryz.prog 325=some [.list true [],.list true [],.list true [],.list true [],.list true [],.list true [],.str [],.int .i64 0,.int .i64 0,.int .i64 0,.list true [],.int .i64 0,.int .i64 0,.int .i64 0,.int .i64 0,.int .i64 0,.int .i64 0,.int .i64 0,.int .i64 0,.int .i64 0,.int .i64 0,.int .i64 0,.list true [],.list true [],.list true []]:=kf
@[go_sem] theorem Zpb : YU Tryz.prog 329=some 7:=kf
@[go_sem] theorem ZmK : XW Tryz.prog 329=some true:=kf
@[go_sem] theorem ZfY : ZX Tryz.prog 329 0=some 0:=kf
@[go_sem] theorem ZfZ : ZX Tryz.prog 329 1=some 1:=kf
@[go_sem] theorem Zf0 : ZX Tryz.prog 329 2=some 2:=kf
@[go_sem] theorem ZoT : Gd Tryz.prog 329=some (FH [(0,1),(1,1),(2,5)]):=kf
@[go_sem] theorem Zgn : XB Tryz.prog 329=some [.int .i64 0,.int .i64 0,.bool false,.int .i64 0,.list true [],.int .i64 0,.int .i64 0]:=kf
@[go_sem] theorem Zpq : Tryz.prog.underlying 331=some (.slice 329):=kf
@[go_sem] theorem ZmZ : Wd Tryz.prog 331=some (none,7):=kf
@[go_sem] theorem Zmg : QB Tryz.prog 331=some 7:=kf
@[go_sem] theorem nY : AO Tryz.prog 331=some (7,72):=kf
@[go_sem] theorem ZdY (H:List AM.Obj) (u:TypeId) (o n:Nat) (y:V):VJ Tryz.prog H 331 u (.sl o 0 n n) y=U5 H (some (7,72)) (oat H o) o n (WU (Tryz.prog.underlying u) H y):=Y5 nY
@[go_sem] theorem Zpc : YU Tryz.prog 366=some 3:=kf
@[go_sem] theorem ZmL : XW Tryz.prog 366=some true:=kf
@[go_sem] theorem mD : Tryz.prog.stoodInHeld 366=false:=kf
@[go_sem] theorem ZoU : Gd Tryz.prog 366=some (FH [(0,1),(1,1),(2,1)]):=kf
@[go_sem] theorem Zno (d:Nat) (a b:List PV):LO Tryz.prog d 366 (Tryz.prog.underlying 366) (.agg a) (.agg b)=Nh (vV (Ue Tryz.prog d 3) (apart Tryz.prog 3 a 0) (apart Tryz.prog 3 b 0)) (Nh (vV (Ue Tryz.prog d 3) (apart Tryz.prog 3 a 1) (apart Tryz.prog 3 b 1)) (Nh (vV (Ue Tryz.prog d 3) (apart Tryz.prog 3 a 2) (apart Tryz.prog 3 b 2)) (some true))):=by rw [Tryz.underlying366,DD mD];simp [GV,LP]
@[go_sem] theorem Znz : Tryz.prog.eqGuardType Tryz.prog.depth 366=false:=kf
@[go_sem] theorem Zgo : XB Tryz.prog 366=some [.int .i64 0,.int .i64 0,.int .i64 0]:=kf
theorem ZnR : Zj Tryz.prog 7:=fun args w=>Tryz.call7 args w
theorem Zin : Zj Tryz.prog 16:=fun args w=>Tryz.call16 args w
theorem Zio : Zj Tryz.prog 17:=fun args w=>Tryz.call17 args w
theorem Ziq : Zj Tryz.prog 20:=fun args w=>Tryz.call20 args w
theorem Zir : Zj Tryz.prog 22:=fun args w=>Tryz.call22 args w
theorem Zis : Zj Tryz.prog 23:=fun args w=>Tryz.call23 args w
theorem Zit : Zj Tryz.prog 25:=fun args w=>Tryz.call25 args w
theorem Ziu : Zj Tryz.prog 27:=fun args w=>Tryz.call27 args w
theorem Ziv : Zj Tryz.prog 28:=fun args w=>Tryz.call28 args w
theorem Ziw : Zj Tryz.prog 29:=fun args w=>Tryz.call29 args w
theorem Zix : Zj Tryz.prog 30:=fun args w=>Tryz.call30 args w
theorem Ziy : Zj Tryz.prog 31:=fun args w=>Tryz.call31 args w
theorem Ziz : Zj Tryz.prog 32:=fun args w=>Tryz.call32 args w
theorem ZiA : Zj Tryz.prog 34:=fun args w=>Tryz.call34 args w
theorem ZiB : Zj Tryz.prog 46:=fun args w=>Tryz.call46 args w
theorem ZiC : Zj Tryz.prog 47:=fun args w=>Tryz.call47 args w
theorem ZiD : Zj Tryz.prog 48:=fun args w=>Tryz.call48 args w
theorem ZiE : Zj Tryz.prog 49:=fun args w=>Tryz.call49 args w
theorem ZiF : Zj Tryz.prog 50:=fun args w=>Tryz.call50 args w
theorem ZiG : Zj Tryz.prog 53:=fun args w=>Tryz.call53 args w
theorem ZiH : Zj Tryz.prog 55:=fun args w=>Tryz.call55 args w
theorem ZiI : Zj Tryz.prog 56:=fun args w=>Tryz.call56 args w
theorem ZiJ : Zj Tryz.prog 57:=fun args w=>Tryz.call57 args w
theorem ZiK : Zj Tryz.prog 58:=fun args w=>Tryz.call58 args w
theorem ZiL : Zj Tryz.prog 59:=fun args w=>Tryz.call59 args w
theorem ZiM : Zj Tryz.prog 60:=fun args w=>Tryz.call60 args w
theorem ZiN : Zj Tryz.prog 61:=fun args w=>Tryz.call61 args w
theorem ZiO : Zj Tryz.prog 62:=fun args w=>Tryz.call62 args w
theorem ZiP : Zj Tryz.prog 63:=fun args w=>Tryz.call63 args w
theorem ZiQ : Zj Tryz.prog 64:=fun args w=>Tryz.call64 args w
theorem ZiR : Zj Tryz.prog 67:=fun args w=>Tryz.call67 args w
theorem ZiS : Zj Tryz.prog 68:=fun args w=>Tryz.call68 args w
theorem ZiT : Zj Tryz.prog 69:=fun args w=>Tryz.call69 args w
theorem ZiU : Zj Tryz.prog 70:=fun args w=>Tryz.call70 args w
theorem ZiV : Zj Tryz.prog 71:=fun args w=>Tryz.call71 args w
theorem ZiW : Zj Tryz.prog 72:=fun args w=>Tryz.call72 args w
theorem ZiX : Zj Tryz.prog 73:=fun args w=>Tryz.call73 args w
theorem ZiY : Zj Tryz.prog 74:=fun args w=>Tryz.call74 args w
theorem ZiZ : Zj Tryz.prog 75:=fun args w=>Tryz.call75 args w
theorem Zi0 : Zj Tryz.prog 76:=fun args w=>Tryz.call76 args w
theorem Zi1 : Zj Tryz.prog 78:=fun args w=>Tryz.call78 args w
theorem Zi2 : Zj Tryz.prog 81:=fun args w=>Tryz.call81 args w
theorem Zi3 : Zj Tryz.prog 86:=fun args w=>Tryz.call86 args w
theorem Zi4 : Zj Tryz.prog 87:=fun args w=>Tryz.call87 args w
theorem Zi5 : Zj Tryz.prog 88:=fun args w=>Tryz.call88 args w
theorem wA : Zj Tryz.prog 89:=fun args w=>Tryz.call89 args w
theorem Zi6 : Zj Tryz.prog 90:=fun args w=>Tryz.call90 args w
theorem Zi7 : Zj Tryz.prog 92:=fun args w=>Tryz.call92 args w
theorem Zi8 : Zj Tryz.prog 93:=fun args w=>Tryz.call93 args w
theorem Zi9 : Zj Tryz.prog 94:=fun args w=>Tryz.call94 args w
theorem Zja : Zj Tryz.prog 95:=fun args w=>Tryz.call95 args w
theorem Zjb : Zj Tryz.prog 96:=fun args w=>Tryz.call96 args w
theorem Zjc : Zj Tryz.prog 97:=fun args w=>Tryz.call97 args w
theorem Zjd : Zj Tryz.prog 98:=fun args w=>Tryz.call98 args w
theorem Zje : Zj Tryz.prog 99:=fun args w=>Tryz.call99 args w
theorem Zae : Zj Tryz.prog 100:=fun args w=>Tryz.call100 args w
theorem Zaf : Zj Tryz.prog 101:=fun args w=>Tryz.call101 args w
theorem Zag : Zj Tryz.prog 102:=fun args w=>Tryz.call102 args w
theorem hJ : Zj Tryz.prog 103:=fun args w=>Tryz.call103 args w
theorem Zah : Zj Tryz.prog 104:=fun args w=>Tryz.call104 args w
theorem Zai : Zj Tryz.prog 105:=fun args w=>Tryz.call105 args w
theorem Zaj : Zj Tryz.prog 106:=fun args w=>Tryz.call106 args w
theorem Zak : Zj Tryz.prog 107:=fun args w=>Tryz.call107 args w
theorem Zal : Zj Tryz.prog 112:=fun args w=>Tryz.call112 args w
theorem Zam : Zj Tryz.prog 113:=fun args w=>Tryz.call113 args w
theorem Zan : Zj Tryz.prog 114:=fun args w=>Tryz.call114 args w
theorem Zao : Zj Tryz.prog 115:=fun args w=>Tryz.call115 args w
theorem Zap : Zj Tryz.prog 116:=fun args w=>Tryz.call116 args w
theorem Zaq : Zj Tryz.prog 117:=fun args w=>Tryz.call117 args w
theorem Zar : Zj Tryz.prog 118:=fun args w=>Tryz.call118 args w
theorem Zas : Zj Tryz.prog 119:=fun args w=>Tryz.call119 args w
theorem Zat : Zj Tryz.prog 120:=fun args w=>Tryz.call120 args w
theorem Zau : Zj Tryz.prog 121:=fun args w=>Tryz.call121 args w
theorem Zav : Zj Tryz.prog 122:=fun args w=>Tryz.call122 args w
theorem Zaw : Zj Tryz.prog 123:=fun args w=>Tryz.call123 args w
theorem Zax : Zj Tryz.prog 124:=fun args w=>Tryz.call124 args w
theorem Zay : Zj Tryz.prog 125:=fun args w=>Tryz.call125 args w
theorem Zaz : Zj Tryz.prog 126:=fun args w=>Tryz.call126 args w
theorem ZaA : Zj Tryz.prog 127:=fun args w=>Tryz.call127 args w
theorem ZaB : Zj Tryz.prog 128:=fun args w=>Tryz.call128 args w
theorem ZaC : Zj Tryz.prog 129:=fun args w=>Tryz.call129 args w
theorem ZaD : Zj Tryz.prog 130:=fun args w=>Tryz.call130 args w
theorem ZaE : Zj Tryz.prog 132:=fun args w=>Tryz.call132 args w
theorem ZaF : Zj Tryz.prog 133:=fun args w=>Tryz.call133 args w
theorem ZaG : Zj Tryz.prog 135:=fun args w=>Tryz.call135 args w
theorem ZaH : Zj Tryz.prog 136:=fun args w=>Tryz.call136 args w
theorem ZaI : Zj Tryz.prog 137:=fun args w=>Tryz.call137 args w
theorem ZaJ : Zj Tryz.prog 138:=fun args w=>Tryz.call138 args w
theorem ZaK : Zj Tryz.prog 139:=fun args w=>Tryz.call139 args w
theorem ZaL : Zj Tryz.prog 140:=fun args w=>Tryz.call140 args w
theorem ZaM : Zj Tryz.prog 141:=fun args w=>Tryz.call141 args w
theorem ZaN : Zj Tryz.prog 142:=fun args w=>Tryz.call142 args w
theorem ZaO : Zj Tryz.prog 143:=fun args w=>Tryz.call143 args w
theorem ZaP : Zj Tryz.prog 144:=fun args w=>Tryz.call144 args w
theorem iA : Zj Tryz.prog 146:=fun args w=>Tryz.call146 args w
theorem ZaQ : Zj Tryz.prog 147:=fun args w=>Tryz.call147 args w
theorem ZaR : Zj Tryz.prog 148:=fun args w=>Tryz.call148 args w
theorem ZaS : Zj Tryz.prog 149:=fun args w=>Tryz.call149 args w
theorem ZaT : Zj Tryz.prog 150:=fun args w=>Tryz.call150 args w
theorem ZaU : Zj Tryz.prog 151:=fun args w=>Tryz.call151 args w
theorem ZaV : Zj Tryz.prog 152:=fun args w=>Tryz.call152 args w
theorem ZaW : Zj Tryz.prog 153:=fun args w=>Tryz.call153 args w
theorem ZaX : Zj Tryz.prog 154:=fun args w=>Tryz.call154 args w
theorem ZaY : Zj Tryz.prog 155:=fun args w=>Tryz.call155 args w
theorem ZaZ : Zj Tryz.prog 158:=fun args w=>Tryz.call158 args w
theorem Za0 : Zj Tryz.prog 159:=fun args w=>Tryz.call159 args w
theorem Za1 : Zj Tryz.prog 164:=fun args w=>Tryz.call164 args w
theorem Za2 : Zj Tryz.prog 165:=fun args w=>Tryz.call165 args w
theorem Za3 : Zj Tryz.prog 166:=fun args w=>Tryz.call166 args w
theorem Za4 : Zj Tryz.prog 167:=fun args w=>Tryz.call167 args w
theorem Za5 : Zj Tryz.prog 168:=fun args w=>Tryz.call168 args w
theorem Za6 : Zj Tryz.prog 169:=fun args w=>Tryz.call169 args w
theorem Za7 : Zj Tryz.prog 170:=fun args w=>Tryz.call170 args w
theorem Za8 : Zj Tryz.prog 171:=fun args w=>Tryz.call171 args w
theorem Za9 : Zj Tryz.prog 172:=fun args w=>Tryz.call172 args w
theorem Zba : Zj Tryz.prog 173:=fun args w=>Tryz.call173 args w
theorem Zbb : Zj Tryz.prog 174:=fun args w=>Tryz.call174 args w
theorem Zbc : Zj Tryz.prog 175:=fun args w=>Tryz.call175 args w
theorem Zbd : Zj Tryz.prog 176:=fun args w=>Tryz.call176 args w
theorem Zbe : Zj Tryz.prog 178:=fun args w=>Tryz.call178 args w
theorem Zbf : Zj Tryz.prog 183:=fun args w=>Tryz.call183 args w
theorem Zbg : Zj Tryz.prog 184:=fun args w=>Tryz.call184 args w
theorem Zbh : Zj Tryz.prog 185:=fun args w=>Tryz.call185 args w
theorem Zbi : Zj Tryz.prog 186:=fun args w=>Tryz.call186 args w
theorem Zbj : Zj Tryz.prog 187:=fun args w=>Tryz.call187 args w
theorem Zbk : Zj Tryz.prog 190:=fun args w=>Tryz.call190 args w
theorem Zbl : Zj Tryz.prog 191:=fun args w=>Tryz.call191 args w
theorem Zbm : Zj Tryz.prog 192:=fun args w=>Tryz.call192 args w
theorem iB : Zj Tryz.prog 193:=fun args w=>Tryz.call193 args w
theorem Zbn : Zj Tryz.prog 194:=fun args w=>Tryz.call194 args w
theorem Zbo : Zj Tryz.prog 195:=fun args w=>Tryz.call195 args w
theorem Zbp : Zj Tryz.prog 196:=fun args w=>Tryz.call196 args w
theorem Zbq : Zj Tryz.prog 197:=fun args w=>Tryz.call197 args w
theorem Zbr : Zj Tryz.prog 198:=fun args w=>Tryz.call198 args w
theorem W9 : Zj Tryz.prog 210:=fun args w=>Tryz.call210 args w
theorem Zbs : Zj Tryz.prog 218:=fun args w=>Tryz.call218 args w
theorem Zbt : Zj Tryz.prog 219:=fun args w=>Tryz.call219 args w
theorem Zbu : Zj Tryz.prog 220:=fun args w=>Tryz.call220 args w
theorem Zbv : Zj Tryz.prog 221:=fun args w=>Tryz.call221 args w
theorem Zbw : Zj Tryz.prog 222:=fun args w=>Tryz.call222 args w
theorem Zbx : Zj Tryz.prog 223:=fun args w=>Tryz.call223 args w
theorem Zby : Zj Tryz.prog 224:=fun args w=>Tryz.call224 args w
theorem Zbz : Zj Tryz.prog 225:=fun args w=>Tryz.call225 args w
theorem ZbA : Zj Tryz.prog 226:=fun args w=>Tryz.call226 args w
theorem ZbB : Zj Tryz.prog 227:=fun args w=>Tryz.call227 args w
theorem ZbC : Zj Tryz.prog 228:=fun args w=>Tryz.call228 args w
theorem ZbD : Zj Tryz.prog 229:=fun args w=>Tryz.call229 args w
theorem ZbE : Zj Tryz.prog 230:=fun args w=>Tryz.call230 args w
theorem ZbF : Zj Tryz.prog 231:=fun args w=>Tryz.call231 args w
theorem ZbG : Zj Tryz.prog 232:=fun args w=>Tryz.call232 args w
theorem ZbH : Zj Tryz.prog 233:=fun args w=>Tryz.call233 args w
theorem ZbI : Zj Tryz.prog 234:=fun args w=>Tryz.call234 args w
theorem iC : Zj Tryz.prog 236:=fun args w=>Tryz.call236 args w
theorem ZbJ : Zj Tryz.prog 237:=fun args w=>Tryz.call237 args w
theorem ZbK : Zj Tryz.prog 239:=fun args w=>Tryz.call239 args w
theorem ZbL : Zj Tryz.prog 240:=fun args w=>Tryz.call240 args w
theorem ZbM : Zj Tryz.prog 241:=fun args w=>Tryz.call241 args w
theorem ZbN : Zj Tryz.prog 247:=fun args w=>Tryz.call247 args w
theorem ZbO : Zj Tryz.prog 248:=fun args w=>Tryz.call248 args w
theorem ZbP : Zj Tryz.prog 249:=fun args w=>Tryz.call249 args w
theorem ZbQ : Zj Tryz.prog 250:=fun args w=>Tryz.call250 args w
theorem ZbR : Zj Tryz.prog 251:=fun args w=>Tryz.call251 args w
theorem ZbS : Zj Tryz.prog 258:=fun args w=>Tryz.call258 args w
theorem ZbT : Zj Tryz.prog 259:=fun args w=>Tryz.call259 args w
theorem ZbU : Zj Tryz.prog 260:=fun args w=>Tryz.call260 args w
theorem ZbV : Zj Tryz.prog 261:=fun args w=>Tryz.call261 args w
theorem ZbW : Zj Tryz.prog 262:=fun args w=>Tryz.call262 args w
theorem ZbX : Zj Tryz.prog 263:=fun args w=>Tryz.call263 args w
theorem ZbY : Zj Tryz.prog 264:=fun args w=>Tryz.call264 args w
theorem ZbZ : Zj Tryz.prog 265:=fun args w=>Tryz.call265 args w
theorem Zb0 : Zj Tryz.prog 266:=fun args w=>Tryz.call266 args w
theorem Zb1 : Zj Tryz.prog 267:=fun args w=>Tryz.call267 args w
theorem Zb2 : Zj Tryz.prog 268:=fun args w=>Tryz.call268 args w
theorem iD : Zj Tryz.prog 269:=fun args w=>Tryz.call269 args w
theorem Zb3 : Zj Tryz.prog 270:=fun args w=>Tryz.call270 args w
theorem Zb4 : Zj Tryz.prog 271:=fun args w=>Tryz.call271 args w
theorem Zb5 : Zj Tryz.prog 272:=fun args w=>Tryz.call272 args w
theorem Zb6 : Zj Tryz.prog 273:=fun args w=>Tryz.call273 args w
theorem Zb7 : Zj Tryz.prog 274:=fun args w=>Tryz.call274 args w
theorem Zb8 : Zj Tryz.prog 275:=fun args w=>Tryz.call275 args w
theorem Zb9 : Zj Tryz.prog 276:=fun args w=>Tryz.call276 args w
theorem Zca : Zj Tryz.prog 277:=fun args w=>Tryz.call277 args w
theorem Zcb : Zj Tryz.prog 278:=fun args w=>Tryz.call278 args w
theorem Zcc : Zj Tryz.prog 283:=fun args w=>Tryz.call283 args w
theorem Zcd : Zj Tryz.prog 284:=fun args w=>Tryz.call284 args w
theorem Zce : Zj Tryz.prog 286:=fun args w=>Tryz.call286 args w
theorem Zcf : Zj Tryz.prog 287:=fun args w=>Tryz.call287 args w
theorem Zcg : Zj Tryz.prog 288:=fun args w=>Tryz.call288 args w
theorem Zch : Zj Tryz.prog 289:=fun args w=>Tryz.call289 args w
theorem Zci : Zj Tryz.prog 290:=fun args w=>Tryz.call290 args w
theorem Zcj : Zj Tryz.prog 291:=fun args w=>Tryz.call291 args w
theorem Zck : Zj Tryz.prog 292:=fun args w=>Tryz.call292 args w
theorem Zcl : Zj Tryz.prog 293:=fun args w=>Tryz.call293 args w
theorem Zcm : Zj Tryz.prog 294:=fun args w=>Tryz.call294 args w
theorem Zcn : Zj Tryz.prog 295:=fun args w=>Tryz.call295 args w
theorem Zco : Zj Tryz.prog 296:=fun args w=>Tryz.call296 args w
theorem Zcp : Zj Tryz.prog 297:=fun args w=>Tryz.call297 args w
theorem Zcq : Zj Tryz.prog 298:=fun args w=>Tryz.call298 args w
theorem Zcr : Zj Tryz.prog 299:=fun args w=>Tryz.call299 args w
theorem Zcs : Zj Tryz.prog 300:=fun args w=>Tryz.call300 args w
theorem Zct : Zj Tryz.prog 301:=fun args w=>Tryz.call301 args w
theorem Zcu : Zj Tryz.prog 302:=fun args w=>Tryz.call302 args w
theorem Zcv : Zj Tryz.prog 303:=fun args w=>Tryz.call303 args w
theorem Zcw : Zj Tryz.prog 304:=fun args w=>Tryz.call304 args w
theorem Zcx : Zj Tryz.prog 307:=fun args w=>Tryz.call307 args w
theorem Zcy : Zj Tryz.prog 308:=fun args w=>Tryz.call308 args w
theorem Zcz : Zj Tryz.prog 309:=fun args w=>Tryz.call309 args w
theorem ZcA : Zj Tryz.prog 310:=fun args w=>Tryz.call310 args w
theorem ZcB : Zj Tryz.prog 311:=fun args w=>Tryz.call311 args w
theorem ZcC : Zj Tryz.prog 312:=fun args w=>Tryz.call312 args w
theorem ZcD : Zj Tryz.prog 313:=fun args w=>Tryz.call313 args w
theorem ZcE : Zj Tryz.prog 314:=fun args w=>Tryz.call314 args w
theorem ZcF : Zj Tryz.prog 315:=fun args w=>Tryz.call315 args w
theorem ZcG : Zj Tryz.prog 316:=fun args w=>Tryz.call316 args w
theorem ZcH : Zj Tryz.prog 317:=fun args w=>Tryz.call317 args w
theorem ZcI : Zj Tryz.prog 318:=fun args w=>Tryz.call318 args w
theorem ZcJ : Zj Tryz.prog 319:=fun args w=>Tryz.call319 args w
theorem ZcK : Zj Tryz.prog 320:=fun args w=>Tryz.call320 args w
theorem ZcL : Zj Tryz.prog 321:=fun args w=>Tryz.call321 args w
theorem ZcM : Zj Tryz.prog 322:=fun args w=>Tryz.call322 args w
theorem ZcN : Zj Tryz.prog 323:=fun args w=>Tryz.call323 args w
theorem ZcO : Zj Tryz.prog 324:=fun args w=>Tryz.call324 args w
theorem ZcP : Zj Tryz.prog 325:=fun args w=>Tryz.call325 args w
theorem ZcQ : Zj Tryz.prog 326:=fun args w=>Tryz.call326 args w
theorem ZcR : Zj Tryz.prog 327:=fun args w=>Tryz.call327 args w
theorem ZcS : Zj Tryz.prog 328:=fun args w=>Tryz.call328 args w
theorem ZcT : Zj Tryz.prog 329:=fun args w=>Tryz.call329 args w
theorem ZcU : Zj Tryz.prog 330:=fun args w=>Tryz.call330 args w
theorem ZcV : Zj Tryz.prog 331:=fun args w=>Tryz.call331 args w
theorem mixed : Tryz.prog.follows .mixedOrders=true:=Ze
end Go.Proofs.YtiigdaohjanidaaGreatDoor.K
