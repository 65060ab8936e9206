/- Declarations that the closing texts need, part 5: joined by tools/slim.py. -/
import Derived.Test.YtenjikkmmibffaaGreatDoorI4
import Derived.KernelRfl
namespace Go.Proofs.YtenjikkmmibffaaGreatDoor.K
open Go Go.AM Go.Proofs
abbrev PC (f:FuncId) (a:List V) (y:PV):=ACalls Tryz.prog f a [] fun x H'=>x= .p y/\H'= []
abbrev PT (f:FuncId) (a:List V) (b:List V):=ACalls Tryz.prog f a [] fun x H'=>x= .tup b/\H'= []
theorem kf {α:Type} {a b:α} (h:a=b:=by kernel_rfl):a=b:=Zl h rfl
theorem Ze {p:Prop} (h:p:=by kernel_rfl):p:=h
@[go_sem] theorem ZqB : Tryz.prog.underlying 3=some (.int .i64):=kf
@[go_sem] theorem Zqx : Y2 Tryz.prog 3=some 1:=kf
@[go_sem] theorem ZpE : XL Tryz.prog 3=some false:=kf
@[go_sem] theorem ZmQ : Xi Tryz.prog 3=some [.int .i64 0]:=kf
@[go_sem] theorem ZqC : Tryz.prog.underlying 4=some .bool:=kf
@[go_sem] theorem Zqy : Y2 Tryz.prog 4=some 1:=kf
@[go_sem] theorem ZpF : XL Tryz.prog 4=some false:=kf
@[go_sem] theorem ZqD : Tryz.prog.underlying 5=some (.int .u8):=kf
@[go_sem] theorem Zqz : Y2 Tryz.prog 5=some 1:=kf
@[go_sem] theorem ZpG : XL Tryz.prog 5=some false:=kf
@[go_sem] theorem ZqE : Tryz.prog.underlying 9=some .string:=kf
@[go_sem] theorem ZqA : Y2 Tryz.prog 9=some 1:=kf
@[go_sem] theorem ZpH : XL Tryz.prog 9=some false:=kf
@[go_sem] theorem Zqd : Tryz.prog.underlying 22=some (.slice 9):=kf
@[go_sem] theorem ZpR : Y2 Tryz.prog 22=some 1:=kf
@[go_sem] theorem ZnN : XL Tryz.prog 22=some false:=kf
@[go_sem] theorem Zn8 : Wi Tryz.prog 22=some (none,1):=kf
@[go_sem] theorem Znu : UU Tryz.prog 22=some 1:=kf
@[go_sem] theorem Zqe : Tryz.prog.underlying 23=some (.slice 184):=kf
@[go_sem] theorem ZpS : Y2 Tryz.prog 23=some 1:=kf
@[go_sem] theorem ZnO : XL Tryz.prog 23=some false:=kf
@[go_sem] theorem Zn9 : Wi Tryz.prog 23=some (none,6):=kf
@[go_sem] theorem ZpT : Y2 Tryz.prog 25=some 2:=kf
@[go_sem] theorem ZnP : XL Tryz.prog 25=some true:=kf
@[go_sem] theorem ZjR : ZR Tryz.prog 25 0=some 0:=kf
@[go_sem] theorem ZjS : ZR Tryz.prog 25 1=some 1:=kf
@[go_sem] theorem ZpI : BN Tryz.prog 25=some (BM [(0,1),(1,1)]):=kf
@[go_sem] theorem ZkK : Xi Tryz.prog 25=some [.list true [],.list true []]:=kf
@[go_sem] theorem Zqf : Tryz.prog.underlying 26=some (.slice 71):=kf
@[go_sem] theorem ZpU : Y2 Tryz.prog 26=some 1:=kf
@[go_sem] theorem ZnQ : XL Tryz.prog 26=some false:=kf
@[go_sem] theorem Zoa : Wi Tryz.prog 26=some (none,14):=kf
@[go_sem] theorem Znv : UU Tryz.prog 26=some 14:=kf
@[go_sem] theorem xR : QP Tryz.prog 26=some (14,136):=kf
@[go_sem] theorem Zgz (H:List AM.Obj) (u:TypeId) (o n:Nat) (y:V):W5 Tryz.prog H 26 u (.sl o 0 n n) y=Uv H (some (14,136)) (oat H o) o n (YK (Tryz.prog.underlying u) H y):=Ym xR
@[go_sem] theorem Zqg : Tryz.prog.underlying 27=some (.slice 75):=kf
@[go_sem] theorem ZpV : Y2 Tryz.prog 27=some 1:=kf
@[go_sem] theorem ZnR : XL Tryz.prog 27=some false:=kf
@[go_sem] theorem Zob : Wi Tryz.prog 27=some (none,16):=kf
@[go_sem] theorem Znw : UU Tryz.prog 27=some 16:=kf
@[go_sem] theorem xS : QP Tryz.prog 27=some (16,152):=kf
@[go_sem] theorem ZgA (H:List AM.Obj) (u:TypeId) (o n:Nat) (y:V):W5 Tryz.prog H 27 u (.sl o 0 n n) y=Uv H (some (16,152)) (oat H o) o n (YK (Tryz.prog.underlying u) H y):=Ym xS
@[go_sem] theorem Zqh : Tryz.prog.underlying 28=some (.slice 105):=kf
@[go_sem] theorem ZpW : Y2 Tryz.prog 28=some 1:=kf
@[go_sem] theorem ZnS : XL Tryz.prog 28=some false:=kf
@[go_sem] theorem Zoc : Wi Tryz.prog 28=some (none,2):=kf
@[go_sem] theorem Znx : UU Tryz.prog 28=some 2:=kf
@[go_sem] theorem xT : QP Tryz.prog 28=some (2,16):=kf
@[go_sem] theorem ZgB (H:List AM.Obj) (u:TypeId) (o n:Nat) (y:V):W5 Tryz.prog H 28 u (.sl o 0 n n) y=Uv H (some (2,16)) (oat H o) o n (YK (Tryz.prog.underlying u) H y):=Ym xT
@[go_sem] theorem ZpX : Y2 Tryz.prog 30=some 6:=kf
@[go_sem] theorem ZnT : XL Tryz.prog 30=some true:=kf
@[go_sem] theorem ZjT : ZR Tryz.prog 30 0=some 0:=kf
@[go_sem] theorem ZjU : ZR Tryz.prog 30 1=some 2:=kf
@[go_sem] theorem ZjV : ZR Tryz.prog 30 2=some 3:=kf
@[go_sem] theorem ZjW : ZR Tryz.prog 30 3=some 4:=kf
@[go_sem] theorem ZjX : ZR Tryz.prog 30 4=some 5:=kf
@[go_sem] theorem ZpJ : BN Tryz.prog 30=some (BM [(0,2),(2,1),(3,1),(4,1),(5,1)]):=kf
@[go_sem] theorem ZkL : Xi Tryz.prog 30=some [.list true [],.list true [],.list true [],.list true [],.list true [],.list true []]:=kf
@[go_sem] theorem ZpY : Y2 Tryz.prog 32=some 2:=kf
@[go_sem] theorem ZnU : XL Tryz.prog 32=some true:=kf
@[go_sem] theorem ZjY : ZR Tryz.prog 32 0=some 0:=kf
@[go_sem] theorem ZjZ : ZR Tryz.prog 32 1=some 1:=kf
@[go_sem] theorem uA : Tryz.prog.stoodInHeld 32=false:=kf
@[go_sem] theorem ZpK : BN Tryz.prog 32=some (BM [(0,1),(1,1)]):=kf
@[go_sem] theorem Zpk (d:Nat) (a b:List PV):GR Tryz.prog d 32 (Tryz.prog.underlying 32) (.agg a) (.agg b)=Em (cW (Vx Tryz.prog d 3) (apart Tryz.prog 3 a 0) (apart Tryz.prog 3 b 0)) (Em (cW (Vx Tryz.prog d 3) (apart Tryz.prog 3 a 1) (apart Tryz.prog 3 b 1)) (some true)):=by rw [Tryz.underlying32,Qs uA];simp [K9,BQ]
@[go_sem] theorem Zpy : Tryz.prog.eqGuardType Tryz.prog.depth 32=false:=kf
@[go_sem] theorem ZkM : Xi Tryz.prog 32=some [.int .i64 0,.int .i64 0]:=kf
@[go_sem] theorem Zqi : Tryz.prog.underlying 33=some (.slice 43):=kf
@[go_sem] theorem ZpZ : Y2 Tryz.prog 33=some 1:=kf
@[go_sem] theorem ZnV : XL Tryz.prog 33=some false:=kf
@[go_sem] theorem Zny : UU Tryz.prog 33=some 4:=kf
@[go_sem] theorem xU : QP Tryz.prog 33=some (4,64):=kf
@[go_sem] theorem ZgC (H:List AM.Obj) (u:TypeId) (o n:Nat) (y:V):W5 Tryz.prog H 33 u (.sl o 0 n n) y=Uv H (some (4,64)) (oat H o) o n (YK (Tryz.prog.underlying u) H y):=Ym xU
@[go_sem] theorem Zqj : Tryz.prog.underlying 34=some (.slice 3):=kf
@[go_sem] theorem Zp0 : Y2 Tryz.prog 34=some 1:=kf
@[go_sem] theorem ZnW : XL Tryz.prog 34=some false:=kf
@[go_sem] theorem Zod : Wi Tryz.prog 34=some (none,1):=kf
@[go_sem] theorem Znz : UU Tryz.prog 34=some 1:=kf
@[go_sem] theorem eA : QP Tryz.prog 34=some (1,8):=kf
@[go_sem] theorem Zgw (H:List AM.Obj) (u:TypeId) (y:V):W5 Tryz.prog H 34 u (.p (.list true [])) y=Mm H (some (1,8)) (YK (Tryz.prog.underlying u) H y):=BO eA
@[go_sem] theorem ZgD (H:List AM.Obj) (u:TypeId) (o n:Nat) (y:V):W5 Tryz.prog H 34 u (.sl o 0 n n) y=Uv H (some (1,8)) (oat H o) o n (YK (Tryz.prog.underlying u) H y):=Ym eA
@[go_sem] theorem rW : Sc Tryz.prog 34=some (1,8,.int .i64 0):=kf
@[go_sem] theorem Zpl (H:List AM.Obj) (fr:List V) (x y:Operand):W6 Tryz.prog (.makeSlice 34 x y) fr H=QN (some (1,8,.int .i64 0)) H (ev fr x) (ev fr y):=E9 rW
@[go_sem] theorem Zp1 : Y2 Tryz.prog 36=some 2:=kf
@[go_sem] theorem ZnX : XL Tryz.prog 36=some true:=kf
@[go_sem] theorem Zj0 : ZR Tryz.prog 36 0=some 0:=kf
@[go_sem] theorem Zj1 : ZR Tryz.prog 36 1=some 1:=kf
@[go_sem] theorem ZpL : BN Tryz.prog 36=some (BM [(0,1),(1,1)]):=kf
@[go_sem] theorem ZkN : Xi Tryz.prog 36=some [.list true [],.list true []]:=kf
@[go_sem] theorem Zqk : Tryz.prog.underlying 40=some (.slice 4):=kf
@[go_sem] theorem Zp2 : Y2 Tryz.prog 40=some 1:=kf
@[go_sem] theorem ZnY : XL Tryz.prog 40=some false:=kf
@[go_sem] theorem Zoe : Wi Tryz.prog 40=some (none,1):=kf
@[go_sem] theorem ZnA : UU Tryz.prog 40=some 1:=kf
@[go_sem] theorem xV : QP Tryz.prog 40=some (1,1):=kf
@[go_sem] theorem Zgx (H:List AM.Obj) (u:TypeId) (y:V):W5 Tryz.prog H 40 u (.p (.list true [])) y=Mm H (some (1,1)) (YK (Tryz.prog.underlying u) H y):=BO xV
@[go_sem] theorem rX : Sc Tryz.prog 40=some (1,1,.bool false):=kf
@[go_sem] theorem Zpm (H:List AM.Obj) (fr:List V) (x y:Operand):W6 Tryz.prog (.makeSlice 40 x y) fr H=QN (some (1,1,.bool false)) H (ev fr x) (ev fr y):=E9 rX
@[go_sem] theorem Zql : Tryz.prog.underlying 41=some (.slice 158):=kf
@[go_sem] theorem Zp3 : Y2 Tryz.prog 41=some 1:=kf
@[go_sem] theorem ZnZ : XL Tryz.prog 41=some false:=kf
@[go_sem] theorem Zof : Wi Tryz.prog 41=some (none,2):=kf
@[go_sem] theorem ZnB : UU Tryz.prog 41=some 2:=kf
@[go_sem] theorem eC : QP Tryz.prog 41=some (2,16):=kf
@[go_sem] theorem ZgE (H:List AM.Obj) (u:TypeId) (o n:Nat) (y:V):W5 Tryz.prog H 41 u (.sl o 0 n n) y=Uv H (some (2,16)) (oat H o) o n (YK (Tryz.prog.underlying u) H y):=Ym eC
@[go_sem] theorem Zp4 : Y2 Tryz.prog 43=some 4:=kf
@[go_sem] theorem Zn0 : XL Tryz.prog 43=some true:=kf
@[go_sem] theorem Zj2 : ZR Tryz.prog 43 0=some 0:=kf
@[go_sem] theorem Zj3 : ZR Tryz.prog 43 1=some 1:=kf
@[go_sem] theorem Zj4 : ZR Tryz.prog 43 2=some 2:=kf
@[go_sem] theorem Zj5 : ZR Tryz.prog 43 3=some 3:=kf
@[go_sem] theorem ZpM : BN Tryz.prog 43=some (BM [(0,1),(1,1),(2,1),(3,1)]):=kf
@[go_sem] theorem ZkO : Xi Tryz.prog 43=some [.int .i64 0,.int .i64 0,.list true [],.list true []]:=kf
@[go_sem] theorem Zp5 : Y2 Tryz.prog 44=some 1:=kf
@[go_sem] theorem Zn1 : XL Tryz.prog 44=some false:=kf
@[go_sem] theorem Zqm : Tryz.prog.underlying 49=some (.slice 32):=kf
@[go_sem] theorem Zp6 : Y2 Tryz.prog 49=some 1:=kf
@[go_sem] theorem Zn2 : XL Tryz.prog 49=some false:=kf
@[go_sem] theorem Zog : Wi Tryz.prog 49=some (none,2):=kf
@[go_sem] theorem ZnC : UU Tryz.prog 49=some 2:=kf
@[go_sem] theorem xW : QP Tryz.prog 49=some (2,16):=kf
@[go_sem] theorem ZgF (H:List AM.Obj) (u:TypeId) (o n:Nat) (y:V):W5 Tryz.prog H 49 u (.sl o 0 n n) y=Uv H (some (2,16)) (oat H o) o n (YK (Tryz.prog.underlying u) H y):=Ym xW
@[go_sem] theorem ZkP : Xi Tryz.prog 49=some [.list true []]:=kf
@[go_sem] theorem Zqn : Tryz.prog.underlying 68=some (.slice 138):=kf
@[go_sem] theorem Zoh : Wi Tryz.prog 68=some (none,2):=kf
@[go_sem] theorem ZnD : UU Tryz.prog 68=some 2:=kf
@[go_sem] theorem eD : QP Tryz.prog 68=some (2,24):=kf
@[go_sem] theorem Zgy (H:List AM.Obj) (u:TypeId) (y:V):W5 Tryz.prog H 68 u (.p (.list true [])) y=Mm H (some (2,24)) (YK (Tryz.prog.underlying u) H y):=BO eD
@[go_sem] theorem ZgG (H:List AM.Obj) (u:TypeId) (o n:Nat) (y:V):W5 Tryz.prog H 68 u (.sl o 0 n n) y=Uv H (some (2,24)) (oat H o) o n (YK (Tryz.prog.underlying u) H y):=Ym eD
@[go_sem] theorem Zp7 : Y2 Tryz.prog 71=some 14:=kf
@[go_sem] theorem Zn3 : XL Tryz.prog 71=some true:=kf
@[go_sem] theorem Zj6 : ZR Tryz.prog 71 0=some 0:=kf
@[go_sem] theorem Zj7 : ZR Tryz.prog 71 1=some 1:=kf
@[go_sem] theorem Zj8 : ZR Tryz.prog 71 2=some 2:=kf
@[go_sem] theorem Zj9 : ZR Tryz.prog 71 3=some 3:=kf
@[go_sem] theorem Zka : ZR Tryz.prog 71 4=some 4:=kf
@[go_sem] theorem Zkb : ZR Tryz.prog 71 5=some 5:=kf
@[go_sem] theorem Zkc : ZR Tryz.prog 71 6=some 6:=kf
@[go_sem] theorem Zkd : ZR Tryz.prog 71 7=some 7:=kf
@[go_sem] theorem Zke : ZR Tryz.prog 71 8=some 8:=kf
@[go_sem] theorem Zkf : ZR Tryz.prog 71 9=some 9:=kf
@[go_sem] theorem ZfY : ZR Tryz.prog 71 10=some 10:=kf
@[go_sem] theorem ZfZ : ZR Tryz.prog 71 11=some 11:=kf
@[go_sem] theorem Zf0 : ZR Tryz.prog 71 12=some 12:=kf
@[go_sem] theorem Zf1 : ZR Tryz.prog 71 13=some 13:=kf
@[go_sem] theorem ZpN : BN Tryz.prog 71=some (BM [(0,1),(1,1),(2,1),(3,1),(4,1),(5,1),(6,1),(7,1),(8,1),(9,1),(10,1),(11,1),(12,1),(13,1)]):=kf
@[go_sem] theorem ZkQ : Xi Tryz.prog 71=some [.str [],.int .i64 0,.int .i64 0,.int .i64 0,.list true [],.int .i64 0,.int .i64 0,.int .i64 0,.int .i64 0,.int .i64 0,.int .i64 0,.int .i64 0,.int .i64 0,.int .i64 0]:=kf
@[go_sem] theorem Zp8 : Y2 Tryz.prog 73=some 4:=kf
@[go_sem] theorem Zn4 : XL Tryz.prog 73=some true:=kf
@[go_sem] theorem Zkg : ZR Tryz.prog 73 0=some 0:=kf
@[go_sem] theorem Zkh : ZR Tryz.prog 73 1=some 1:=kf
@[go_sem] theorem Zki : ZR Tryz.prog 73 2=some 2:=kf
@[go_sem] theorem Zkj : ZR Tryz.prog 73 3=some 3:=kf
@[go_sem] theorem ZpO : BN Tryz.prog 73=some (BM [(0,1),(1,1),(2,1),(3,1)]):=kf
@[go_sem] theorem ZkR : Xi Tryz.prog 73=some [.int .i64 0,.int .i64 0,.int .i64 0,.int .i64 0]:=kf
@[go_sem] theorem Zp9 : Y2 Tryz.prog 75=some 16:=kf
@[go_sem] theorem Zn5 : XL Tryz.prog 75=some true:=kf
@[go_sem] theorem Zkk : ZR Tryz.prog 75 0=some 0:=kf
@[go_sem] theorem Zkl : ZR Tryz.prog 75 1=some 1:=kf
@[go_sem] theorem Zkm : ZR Tryz.prog 75 2=some 2:=kf
@[go_sem] theorem Zkn : ZR Tryz.prog 75 3=some 6:=kf
@[go_sem] theorem Zko : ZR Tryz.prog 75 4=some 10:=kf
@[go_sem] theorem Zkp : ZR Tryz.prog 75 5=some 11:=kf
@[go_sem] theorem Zkq : ZR Tryz.prog 75 6=some 12:=kf
@[go_sem] theorem Zkr : ZR Tryz.prog 75 7=some 13:=kf
@[go_sem] theorem Zks : ZR Tryz.prog 75 8=some 14:=kf
@[go_sem] theorem Zkt : ZR Tryz.prog 75 9=some 15:=kf
@[go_sem] theorem ZpP : BN Tryz.prog 75=some (BM [(0,1),(1,1),(2,4),(6,4),(10,1),(11,1),(12,1),(13,1),(14,1),(15,1)]):=kf
@[go_sem] theorem ZkS : Xi Tryz.prog 75=some [.str [],.list true [],.int .i64 0,.int .i64 0,.int .i64 0,.int .i64 0,.int .i64 0,.int .i64 0,.int .i64 0,.int .i64 0,.int .i64 0,.int .i64 0,.int .i64 0,.int .i64 0,.int .i64 0,.bool false]:=kf
@[go_sem] theorem Zqo : Tryz.prog.underlying 83=some (.slice 107):=kf
@[go_sem] theorem Zqa : Y2 Tryz.prog 83=some 1:=kf
@[go_sem] theorem Zn6 : XL Tryz.prog 83=some false:=kf
@[go_sem] theorem Zoi : Wi Tryz.prog 83=some (none,7):=kf
@[go_sem] theorem ZnE : UU Tryz.prog 83=some 7:=kf
@[go_sem] theorem xX : QP Tryz.prog 83=some (7,88):=kf
@[go_sem] theorem ZgH (H:List AM.Obj) (u:TypeId) (o n:Nat) (y:V):W5 Tryz.prog H 83 u (.sl o 0 n n) y=Uv H (some (7,88)) (oat H o) o n (YK (Tryz.prog.underlying u) H y):=Ym xX
@[go_sem] theorem Zqb : Y2 Tryz.prog 88=some 4:=kf
@[go_sem] theorem Zn7 : XL Tryz.prog 88=some true:=kf
@[go_sem] theorem Zku : ZR Tryz.prog 88 0=some 0:=kf
@[go_sem] theorem Zkv : ZR Tryz.prog 88 1=some 1:=kf
@[go_sem] theorem Zkw : ZR Tryz.prog 88 2=some 2:=kf
@[go_sem] theorem Zkx : ZR Tryz.prog 88 3=some 3:=kf
@[go_sem] theorem ZpQ : BN Tryz.prog 88=some (BM [(0,1),(1,1),(2,1),(3,1)]):=kf
@[go_sem] theorem ZkT : Xi Tryz.prog 88=some [.int .i64 0,.int .i64 0,.int .i64 0,.int .i64 0]:=kf
@[go_sem] theorem ZoC : Y2 Tryz.prog 105=some 2:=kf
@[go_sem] theorem Zl4 : XL Tryz.prog 105=some true:=kf
@[go_sem] theorem Zmr : Wi Tryz.prog 105=some ((some 2),1):=kf
@[go_sem] theorem Zf7 : Xi Tryz.prog 105=some [.int .i64 0,.int .i64 0]:=kf
@[go_sem] theorem ZoD : Y2 Tryz.prog 107=some 7:=kf
@[go_sem] theorem Zl5 : XL Tryz.prog 107=some true:=kf
@[go_sem] theorem Ze3 : ZR Tryz.prog 107 0=some 0:=kf
@[go_sem] theorem Ze4 : ZR Tryz.prog 107 1=some 1:=kf
@[go_sem] theorem Ze5 : ZR Tryz.prog 107 2=some 2:=kf
@[go_sem] theorem Ze6 : ZR Tryz.prog 107 3=some 3:=kf
@[go_sem] theorem Zok : BN Tryz.prog 107=some (BM [(0,1),(1,1),(2,1),(3,4)]):=kf
@[go_sem] theorem Zf8 : Xi Tryz.prog 107=some [.int .i64 0,.int .i64 0,.int .i64 0,.int .i64 0,.int .i64 0,.list true [],.list true []]:=kf
@[go_sem] theorem ZoE : Y2 Tryz.prog 111=some 3:=kf
@[go_sem] theorem Zl6 : XL Tryz.prog 111=some true:=kf
@[go_sem] theorem Ze7 : ZR Tryz.prog 111 0=some 0:=kf
@[go_sem] theorem Ze8 : ZR Tryz.prog 111 1=some 1:=kf
@[go_sem] theorem Ze9 : ZR Tryz.prog 111 2=some 2:=kf
@[go_sem] theorem Zol : BN Tryz.prog 111=some (BM [(0,1),(1,1),(2,1)]):=kf
@[go_sem] theorem Zf9 : Xi Tryz.prog 111=some [.bool false,.list true [],.int .i64 0]:=kf
@[go_sem] theorem Zo0 : Tryz.prog.underlying 116=some (.slice 299):=kf
@[go_sem] theorem ZoF : Y2 Tryz.prog 116=some 1:=kf
@[go_sem] theorem Zl7 : XL Tryz.prog 116=some false:=kf
@[go_sem] theorem Zms : Wi Tryz.prog 116=some (none,4):=kf
@[go_sem] theorem ZlK : UU Tryz.prog 116=some 4:=kf
@[go_sem] theorem oP : QP Tryz.prog 116=some (4,32):=kf
@[go_sem] theorem Zdy (H:List AM.Obj) (u:TypeId) (o n:Nat) (y:V):W5 Tryz.prog H 116 u (.sl o 0 n n) y=Uv H (some (4,32)) (oat H o) o n (YK (Tryz.prog.underlying u) H y):=Ym oP
@[go_sem] theorem ZoG : Y2 Tryz.prog 118=some 5:=kf
@[go_sem] theorem Zl8 : XL Tryz.prog 118=some true:=kf
@[go_sem] theorem Zfa : ZR Tryz.prog 118 0=some 0:=kf
@[go_sem] theorem Zfb : ZR Tryz.prog 118 1=some 1:=kf
@[go_sem] theorem Zfc : ZR Tryz.prog 118 2=some 2:=kf
@[go_sem] theorem Zfd : ZR Tryz.prog 118 3=some 3:=kf
@[go_sem] theorem Zfe : ZR Tryz.prog 118 4=some 4:=kf
@[go_sem] theorem Zom : BN Tryz.prog 118=some (BM [(0,1),(1,1),(2,1),(3,1),(4,1)]):=kf
@[go_sem] theorem Zga : Xi Tryz.prog 118=some [.bool false,.int .i64 0,.list true [],.int .i64 0,.int .i64 0]:=kf
@[go_sem] theorem Zo1 : Tryz.prog.underlying 134=some (.int .u64):=kf
@[go_sem] theorem Zff : ZR Tryz.prog 138 0=some 0:=kf
@[go_sem] theorem Zfg : ZR Tryz.prog 138 1=some 1:=kf
@[go_sem] theorem Zon : BN Tryz.prog 138=some (BM [(0,1),(1,1)]):=kf
@[go_sem] theorem Zgb : Xi Tryz.prog 138=some [.int .i64 0,.str []]:=kf
@[go_sem] theorem Zo2 : Tryz.prog.underlying 141=some (.slice 44):=kf
@[go_sem] theorem Zmt : Wi Tryz.prog 141=some (none,1):=kf
@[go_sem] theorem ZlL : UU Tryz.prog 141=some 1:=kf
@[go_sem] theorem oQ : QP Tryz.prog 141=some (1,8):=kf
@[go_sem] theorem Zdz (H:List AM.Obj) (u:TypeId) (o n:Nat) (y:V):W5 Tryz.prog H 141 u (.sl o 0 n n) y=Uv H (some (1,8)) (oat H o) o n (YK (Tryz.prog.underlying u) H y):=Ym oQ
@[go_sem] theorem Zfh : ZR Tryz.prog 151 0=some 0:=kf
@[go_sem] theorem Zfi : ZR Tryz.prog 151 1=some 6:=kf
@[go_sem] theorem Zfj : ZR Tryz.prog 151 2=some 7:=kf
@[go_sem] theorem Zoo : BN Tryz.prog 151=some (BM [(0,6),(6,1),(7,3)]):=kf
@[go_sem] theorem Zgc : Xi Tryz.prog 151=some [.list true [],.list true [],.list true [],.list true [],.list true [],.list true [],.list true [],.bool false,.list true [],.int .i64 0]:=kf
@[go_sem] theorem ZoH : Y2 Tryz.prog 153=some 1:=kf
@[go_sem] theorem Zl9 : XL Tryz.prog 153=some false:=kf
@[go_sem] theorem ZoI : Y2 Tryz.prog 158=some 2:=kf
@[go_sem] theorem Zma : XL Tryz.prog 158=some true:=kf
@[go_sem] theorem Zfk : ZR Tryz.prog 158 0=some 0:=kf
@[go_sem] theorem Zfl : ZR Tryz.prog 158 1=some 1:=kf
@[go_sem] theorem mZ : Tryz.prog.stoodInHeld 158=false:=kf
@[go_sem] theorem Zop : BN Tryz.prog 158=some (BM [(0,1),(1,1)]):=kf
@[go_sem] theorem ZmT (d:Nat) (a b:List PV):GR Tryz.prog d 158 (Tryz.prog.underlying 158) (.agg a) (.agg b)=Em (cW (Vx Tryz.prog d 3) (apart Tryz.prog 3 a 0) (apart Tryz.prog 3 b 0)) (Em (cW (Vx Tryz.prog d 4) (apart Tryz.prog 4 a 1) (apart Tryz.prog 4 b 1)) (some true)):=by rw [Tryz.underlying158,Qs mZ];simp [K9,BQ]
@[go_sem] theorem Zm3 : Tryz.prog.eqGuardType Tryz.prog.depth 158=false:=kf
@[go_sem] theorem Zgd : Xi Tryz.prog 158=some [.int .i64 0,.bool false]:=kf
@[go_sem] theorem Zo3 : Tryz.prog.underlying 182=some (.slice 187):=kf
@[go_sem] theorem ZoJ : Y2 Tryz.prog 182=some 1:=kf
@[go_sem] theorem Zmb : XL Tryz.prog 182=some false:=kf
@[go_sem] theorem Zmu : Wi Tryz.prog 182=some (none,2):=kf
@[go_sem] theorem ZoK : Y2 Tryz.prog 184=some 6:=kf
@[go_sem] theorem Zmc : XL Tryz.prog 184=some true:=kf
@[go_sem] theorem Zfm : ZR Tryz.prog 184 0=some 0:=kf
@[go_sem] theorem Zfn : ZR Tryz.prog 184 1=some 1:=kf
@[go_sem] theorem Zfo : ZR Tryz.prog 184 2=some 2:=kf
@[go_sem] theorem Zfp : ZR Tryz.prog 184 3=some 3:=kf
@[go_sem] theorem Zfq : ZR Tryz.prog 184 4=some 4:=kf
@[go_sem] theorem Zfr : ZR Tryz.prog 184 5=some 5:=kf
@[go_sem] theorem Zoq : BN Tryz.prog 184=some (BM [(0,1),(1,1),(2,1),(3,1),(4,1),(5,1)]):=kf
@[go_sem] theorem Zge : Xi Tryz.prog 184=some [.int .i64 0,.int .i64 0,.int .i64 0,.int .i64 0,.list true [],.list true []]:=kf
@[go_sem] theorem ZoL : Y2 Tryz.prog 187=some 2:=kf
@[go_sem] theorem Zmd : XL Tryz.prog 187=some true:=kf
@[go_sem] theorem Zfs : ZR Tryz.prog 187 0=some 0:=kf
@[go_sem] theorem Zft : ZR Tryz.prog 187 1=some 1:=kf
@[go_sem] theorem Zgf : Xi Tryz.prog 187=some [.int .i64 0,.int .i64 0]:=kf
@[go_sem] theorem Zo4 : Tryz.prog.underlying 190=some (.slice 5):=kf
@[go_sem] theorem ZlM : UU Tryz.prog 190=some 1:=kf
@[go_sem] theorem Zmv : Wi Tryz.prog 195=some ((some 6),1):=kf
@[go_sem] theorem ZoM : Y2 Tryz.prog 197=some 8:=kf
@[go_sem] theorem Zme : XL Tryz.prog 197=some true:=kf
@[go_sem] theorem Zfu : ZR Tryz.prog 197 0=some 0:=kf
@[go_sem] theorem Zfv : ZR Tryz.prog 197 1=some 1:=kf
@[go_sem] theorem Zfw : ZR Tryz.prog 197 2=some 2:=kf
@[go_sem] theorem Zor : BN Tryz.prog 197=some (BM [(0,1),(1,1),(2,6)]):=kf
@[go_sem] theorem Zgg : Xi Tryz.prog 197=some [.int .i64 0,.int .i64 0,.int .i64 0,.int .i64 0,.int .i64 0,.int .i64 0,.int .i64 0,.int .i64 0]:=kf
@[go_sem] theorem Zo5 : Tryz.prog.underlying 216=some (.slice 34):=kf
@[go_sem] theorem Zmw : Wi Tryz.prog 216=some (none,1):=kf
@[go_sem] theorem ZlN : UU Tryz.prog 216=some 1:=kf
@[go_sem] theorem oS : QP Tryz.prog 216=some (1,24):=kf
@[go_sem] theorem ZdA (H:List AM.Obj) (u:TypeId) (o n:Nat) (y:V):W5 Tryz.prog H 216 u (.sl o 0 n n) y=Uv H (some (1,24)) (oat H o) o n (YK (Tryz.prog.underlying u) H y):=Ym oS
@[go_sem] theorem Zfx : ZR Tryz.prog 240 0=some 0:=kf
@[go_sem] theorem Zfy : ZR Tryz.prog 240 1=some 6:=kf
@[go_sem] theorem Zfz : ZR Tryz.prog 240 2=some 7:=kf
@[go_sem] theorem ZfA : ZR Tryz.prog 240 3=some 8:=kf
@[go_sem] theorem ZfB : ZR Tryz.prog 240 4=some 9:=kf
@[go_sem] theorem ZfC : ZR Tryz.prog 240 5=some 16:=kf
@[go_sem] theorem Zos : BN Tryz.prog 240=some (BM [(0,6),(6,1),(7,1),(8,1),(9,7),(16,1)]):=kf
@[go_sem] theorem Zgh : Xi Tryz.prog 240=some [.list true [],.list true [],.list true [],.list true [],.list true [],.list true [],.int .i64 0,.int .i64 0,.int .i64 0,.int .i64 0,.int .i64 0,.int .i64 0,.int .i64 0,.int .i64 0,.list true [],.list true [],.bool false]:=kf
@[go_sem] theorem Zo6 : Tryz.prog.underlying 244=some (.slice 278):=kf
@[go_sem] theorem Zmx : Wi Tryz.prog 244=some (none,2):=kf
@[go_sem] theorem ZlO : UU Tryz.prog 244=some 2:=kf
@[go_sem] theorem Rn : QP Tryz.prog 244=some (2,16):=kf
@[go_sem] theorem Zdx (H:List AM.Obj) (u:TypeId) (y:V):W5 Tryz.prog H 244 u (.p (.list true [])) y=Mm H (some (2,16)) (YK (Tryz.prog.underlying u) H y):=BO Rn
@[go_sem] theorem ZdB (H:List AM.Obj) (u:TypeId) (o n:Nat) (y:V):W5 Tryz.prog H 244 u (.sl o 0 n n) y=Uv H (some (2,16)) (oat H o) o n (YK (Tryz.prog.underlying u) H y):=Ym Rn
@[go_sem] theorem ZoN : Y2 Tryz.prog 246=some 1:=kf
@[go_sem] theorem Zmf : XL Tryz.prog 246=some false:=kf
@[go_sem] theorem ZoO : Y2 Tryz.prog 248=some 1:=kf
@[go_sem] theorem Zmg : XL Tryz.prog 248=some false:=kf
@[go_sem] theorem Zmy : Wi Tryz.prog 248=some (none,1):=kf
@[go_sem] theorem ZfD : ZR Tryz.prog 250 0=some 0:=kf
@[go_sem] theorem ZfE : ZR Tryz.prog 250 1=some 6:=kf
@[go_sem] theorem ZfF : ZR Tryz.prog 250 2=some 7:=kf
@[go_sem] theorem ZfG : ZR Tryz.prog 250 3=some 8:=kf
@[go_sem] theorem ZfH : ZR Tryz.prog 250 4=some 9:=kf
@[go_sem] theorem Zot : BN Tryz.prog 250=some (BM [(0,6),(6,1),(7,1),(8,1),(9,1)]):=kf
@[go_sem] theorem Zgi : Xi Tryz.prog 250=some [.list true [],.list true [],.list true [],.list true [],.list true [],.list true [],.list true [],.list true [],.nilm,.int .i64 0]:=kf
@[go_sem] theorem ZoP : Y2 Tryz.prog 278=some 2:=kf
@[go_sem] theorem Zmh : XL Tryz.prog 278=some true:=kf
@[go_sem] theorem ZfI : ZR Tryz.prog 278 0=some 0:=kf
@[go_sem] theorem ZfJ : ZR Tryz.prog 278 1=some 1:=kf
@[go_sem] theorem nA : Tryz.prog.stoodInHeld 278=false:=kf
@[go_sem] theorem Zou : BN Tryz.prog 278=some (BM [(0,1),(1,1)]):=kf
@[go_sem] theorem ZmU (d:Nat) (a b:List PV):GR Tryz.prog d 278 (Tryz.prog.underlying 278) (.agg a) (.agg b)=Em (cW (Vx Tryz.prog d 3) (apart Tryz.prog 3 a 0) (apart Tryz.prog 3 b 0)) (Em (cW (Vx Tryz.prog d 3) (apart Tryz.prog 3 a 1) (apart Tryz.prog 3 b 1)) (some true)):=by rw [Tryz.underlying278,Qs nA];simp [K9,BQ]
@[go_sem] theorem Zm4 : Tryz.prog.eqGuardType Tryz.prog.depth 278=false:=kf
@[go_sem] theorem Zgj : Xi Tryz.prog 278=some [.int .i64 0,.int .i64 0]:=kf
@[go_sem] theorem ZoQ : Y2 Tryz.prog 283=some 2:=kf
@[go_sem] theorem Zmi : XL Tryz.prog 283=some true:=kf
@[go_sem] theorem Zov : BN Tryz.prog 283=some (BM [(0,1),(1,1)]):=kf
@[go_sem] theorem Zgk : Xi Tryz.prog 283=some [.int .i64 0,.int .i64 0]:=kf
@[go_sem] theorem Zo7 : Tryz.prog.underlying 284=some (.array 4 3):=kf
@[go_sem] theorem ZoR : Y2 Tryz.prog 284=some 4:=kf
@[go_sem] theorem Zmj : XL Tryz.prog 284=some true:=kf
@[go_sem] theorem Zow : BN Tryz.prog 284=some (plA 1):=kf
@[go_sem] theorem Zgl : Xi Tryz.prog 284=some [.int .i64 0,.int .i64 0,.int .i64 0,.int .i64 0]:=kf
@[go_sem] theorem ZoS : Y2 Tryz.prog 294=some 4:=kf
@[go_sem] theorem Zmk : XL Tryz.prog 294=some true:=kf
@[go_sem] theorem ZfK : ZR Tryz.prog 294 0=some 0:=kf
@[go_sem] theorem ZfL : ZR Tryz.prog 294 1=some 1:=kf
@[go_sem] theorem ZfM : ZR Tryz.prog 294 2=some 2:=kf
@[go_sem] theorem ZfN : ZR Tryz.prog 294 3=some 3:=kf
@[go_sem] theorem Zox : BN Tryz.prog 294=some (BM [(0,1),(1,1),(2,1),(3,1)]):=kf
@[go_sem] theorem Zgm : Xi Tryz.prog 294=some [.int .i64 0,.int .i64 0,.int .i64 0,.int .i64 0]:=kf
@[go_sem] theorem ZoT : Y2 Tryz.prog 299=some 4:=kf
@[go_sem] theorem Zml : XL Tryz.prog 299=some true:=kf
@[go_sem] theorem ZfO : ZR Tryz.prog 299 1=some 1:=kf
@[go_sem] theorem ZfP : ZR Tryz.prog 299 2=some 2:=kf
@[go_sem] theorem ZfQ : ZR Tryz.prog 299 3=some 3:=kf
@[go_sem] theorem Zoy : BN Tryz.prog 299=some (BM [(0,1),(1,1),(2,1),(3,1)]):=kf
@[go_sem] theorem Zgn : Xi Tryz.prog 299=some [.int .i64 0,.int .i64 0,.int .i64 0,.bool false]:=kf
@[go_sem] theorem Zmz : Wi Tryz.prog 309=some ((some 64),1):=kf
@[go_sem] theorem Zo8 : Tryz.prog.underlying 313=some (.slice 153):=kf
@[go_sem] theorem ZmA : Wi Tryz.prog 313=some (none,1):=kf
@[go_sem] theorem ZlP : UU Tryz.prog 313=some 1:=kf
@[go_sem] theorem Zo9 : Tryz.prog.underlying 328=some (.slice 73):=kf
@[go_sem] theorem ZoU : Y2 Tryz.prog 328=some 1:=kf
@[go_sem] theorem Zmm : XL Tryz.prog 328=some false:=kf
@[go_sem] theorem ZmB : Wi Tryz.prog 328=some (none,4):=kf
@[go_sem] theorem ZlQ : UU Tryz.prog 328=some 4:=kf
@[go_sem] theorem oT : QP Tryz.prog 328=some (4,32):=kf
@[go_sem] theorem ZdC (H:List AM.Obj) (u:TypeId) (o n:Nat) (y:V):W5 Tryz.prog H 328 u (.sl o 0 n n) y=Uv H (some (4,32)) (oat H o) o n (YK (Tryz.prog.underlying u) H y):=Ym oT
@[go_sem] theorem ZoV : Y2 Tryz.prog 330=some 25:=kf
@[go_sem] theorem Zmn : XL Tryz.prog 330=some true:=kf
@[go_sem] theorem ZfR : ZR Tryz.prog 330 0=some 0:=kf
@[go_sem] theorem ZfS : ZR Tryz.prog 330 1=some 6:=kf
@[go_sem] theorem ZfT : ZR Tryz.prog 330 2=some 20:=kf
@[go_sem] theorem ZfU : ZR Tryz.prog 330 3=some 24:=kf
@[go_sem] theorem Zoz : BN Tryz.prog 330=some (BM [(0,6),(6,14),(20,4),(24,1)]):=kf
@[go_sem] theorem Zgo : Xi Tryz.prog 330=some [.list true [],.list true [],.list true [],.list true [],.list true [],.list true [],.str [],.int .i64 0,.int .i64 0,.int .i64 0,.list true [],.int .i64 0,.int .i64 0,.int .i64 0,.int .i64 0,.int .i64 0,.int .i64 0,.int .i64 0,.int .i64 0,.int .i64 0,.int .i64 0,.int .i64 0,.list true [],.list true [],.list true []]:=kf
@[go_sem] theorem ZoW : Y2 Tryz.prog 334=some 7:=kf
@[go_sem] theorem Zmo : XL Tryz.prog 334=some true:=kf
@[go_sem] theorem ZfV : ZR Tryz.prog 334 0=some 0:=kf
@[go_sem] theorem ZfW : ZR Tryz.prog 334 1=some 1:=kf
@[go_sem] theorem ZfX : ZR Tryz.prog 334 2=some 2:=kf
@[go_sem] theorem ZoA : BN Tryz.prog 334=some (BM [(0,1),(1,1),(2,5)]):=kf
@[go_sem] theorem Zgp : Xi Tryz.prog 334=some [.int .i64 0,.int .i64 0,.bool false,.int .i64 0,.list true [],.int .i64 0,.int .i64 0]:=kf
@[go_sem] theorem Zpa : Tryz.prog.underlying 336=some (.slice 334):=kf
@[go_sem] theorem ZmC : Wi Tryz.prog 336=some (none,7):=kf
@[go_sem] theorem ZlR : UU Tryz.prog 336=some 7:=kf
@[go_sem] theorem oU : QP Tryz.prog 336=some (7,72):=kf
@[go_sem] theorem ZdD (H:List AM.Obj) (u:TypeId) (o n:Nat) (y:V):W5 Tryz.prog H 336 u (.sl o 0 n n) y=Uv H (some (7,72)) (oat H o) o n (YK (Tryz.prog.underlying u) H y):=Ym oU
@[go_sem] theorem ZoX : Y2 Tryz.prog 342=some 3:=kf
@[go_sem] theorem Zmp : XL Tryz.prog 342=some true:=kf
@[go_sem] theorem nB : Tryz.prog.stoodInHeld 342=false:=kf
@[go_sem] theorem ZoB : BN Tryz.prog 342=some (BM [(0,1),(1,1),(2,1)]):=kf
@[go_sem] theorem ZmV (d:Nat) (a b:List PV):GR Tryz.prog d 342 (Tryz.prog.underlying 342) (.agg a) (.agg b)=Em (cW (Vx Tryz.prog d 3) (apart Tryz.prog 3 a 0) (apart Tryz.prog 3 b 0)) (Em (cW (Vx Tryz.prog d 3) (apart Tryz.prog 3 a 1) (apart Tryz.prog 3 b 1)) (Em (cW (Vx Tryz.prog d 3) (apart Tryz.prog 3 a 2) (apart Tryz.prog 3 b 2)) (some true))):=by rw [Tryz.underlying342,Qs nB];simp [K9,BQ]
@[go_sem] theorem Zm5 : Tryz.prog.eqGuardType Tryz.prog.depth 342=false:=kf
@[go_sem] theorem Zgq : Xi Tryz.prog 342=some [.int .i64 0,.int .i64 0,.int .i64 0]:=kf
theorem Zno : Zi Tryz.prog 4:=fun args w=>Tryz.call4 args w
theorem Znp : Zi Tryz.prog 5:=fun args w=>Tryz.call5 args w
theorem Znq : Zi Tryz.prog 7:=fun args w=>Tryz.call7 args w
theorem Znr : Zi Tryz.prog 9:=fun args w=>Tryz.call9 args w
theorem ZhT : Zi Tryz.prog 10:=fun args w=>Tryz.call10 args w
theorem ZhU : Zi Tryz.prog 11:=fun args w=>Tryz.call11 args w
theorem ZhV : Zi Tryz.prog 12:=fun args w=>Tryz.call12 args w
theorem ZhW : Zi Tryz.prog 14:=fun args w=>Tryz.call14 args w
theorem ZhX : Zi Tryz.prog 15:=fun args w=>Tryz.call15 args w
theorem ZhY : Zi Tryz.prog 16:=fun args w=>Tryz.call16 args w
theorem ZhZ : Zi Tryz.prog 19:=fun args w=>Tryz.call19 args w
theorem Zh0 : Zi Tryz.prog 21:=fun args w=>Tryz.call21 args w
theorem Zh1 : Zi Tryz.prog 22:=fun args w=>Tryz.call22 args w
theorem Zh2 : Zi Tryz.prog 23:=fun args w=>Tryz.call23 args w
theorem Zh3 : Zi Tryz.prog 24:=fun args w=>Tryz.call24 args w
theorem Zh4 : Zi Tryz.prog 25:=fun args w=>Tryz.call25 args w
theorem Zh5 : Zi Tryz.prog 26:=fun args w=>Tryz.call26 args w
theorem Zh6 : Zi Tryz.prog 27:=fun args w=>Tryz.call27 args w
theorem Zh7 : Zi Tryz.prog 28:=fun args w=>Tryz.call28 args w
theorem Zh8 : Zi Tryz.prog 29:=fun args w=>Tryz.call29 args w
theorem Zh9 : Zi Tryz.prog 30:=fun args w=>Tryz.call30 args w
theorem Zia : Zi Tryz.prog 31:=fun args w=>Tryz.call31 args w
theorem Zib : Zi Tryz.prog 33:=fun args w=>Tryz.call33 args w
theorem Zic : Zi Tryz.prog 34:=fun args w=>Tryz.call34 args w
theorem Zid : Zi Tryz.prog 35:=fun args w=>Tryz.call35 args w
theorem Zie : Zi Tryz.prog 40:=fun args w=>Tryz.call40 args w
theorem Zif : Zi Tryz.prog 41:=fun args w=>Tryz.call41 args w
theorem Zig : Zi Tryz.prog 42:=fun args w=>Tryz.call42 args w
theorem Zih : Zi Tryz.prog 43:=fun args w=>Tryz.call43 args w
theorem Zii : Zi Tryz.prog 44:=fun args w=>Tryz.call44 args w
theorem Zij : Zi Tryz.prog 45:=fun args w=>Tryz.call45 args w
theorem Zik : Zi Tryz.prog 46:=fun args w=>Tryz.call46 args w
theorem Zil : Zi Tryz.prog 47:=fun args w=>Tryz.call47 args w
theorem Zim : Zi Tryz.prog 48:=fun args w=>Tryz.call48 args w
theorem Zin : Zi Tryz.prog 49:=fun args w=>Tryz.call49 args w
theorem Zio : Zi Tryz.prog 50:=fun args w=>Tryz.call50 args w
theorem Ziq : Zi Tryz.prog 51:=fun args w=>Tryz.call51 args w
theorem Zir : Zi Tryz.prog 52:=fun args w=>Tryz.call52 args w
theorem Zis : Zi Tryz.prog 54:=fun args w=>Tryz.call54 args w
theorem Zit : Zi Tryz.prog 56:=fun args w=>Tryz.call56 args w
theorem Ziu : Zi Tryz.prog 57:=fun args w=>Tryz.call57 args w
theorem Ziv : Zi Tryz.prog 58:=fun args w=>Tryz.call58 args w
theorem Ziw : Zi Tryz.prog 59:=fun args w=>Tryz.call59 args w
theorem Zix : Zi Tryz.prog 60:=fun args w=>Tryz.call60 args w
theorem vZ : Zi Tryz.prog 61:=fun args w=>Tryz.call61 args w
theorem Ziy : Zi Tryz.prog 62:=fun args w=>Tryz.call62 args w
theorem Ziz : Zi Tryz.prog 63:=fun args w=>Tryz.call63 args w
theorem ZiA : Zi Tryz.prog 64:=fun args w=>Tryz.call64 args w
theorem ZiB : Zi Tryz.prog 65:=fun args w=>Tryz.call65 args w
theorem ZiC : Zi Tryz.prog 66:=fun args w=>Tryz.call66 args w
theorem ZiD : Zi Tryz.prog 69:=fun args w=>Tryz.call69 args w
theorem ZiE : Zi Tryz.prog 71:=fun args w=>Tryz.call71 args w
theorem ZiF : Zi Tryz.prog 72:=fun args w=>Tryz.call72 args w
theorem ZiG : Zi Tryz.prog 73:=fun args w=>Tryz.call73 args w
theorem ZiH : Zi Tryz.prog 74:=fun args w=>Tryz.call74 args w
theorem ZiI : Zi Tryz.prog 75:=fun args w=>Tryz.call75 args w
theorem ZiJ : Zi Tryz.prog 76:=fun args w=>Tryz.call76 args w
theorem ZiK : Zi Tryz.prog 77:=fun args w=>Tryz.call77 args w
theorem ZiL : Zi Tryz.prog 78:=fun args w=>Tryz.call78 args w
theorem ZiM : Zi Tryz.prog 79:=fun args w=>Tryz.call79 args w
theorem ZiN : Zi Tryz.prog 80:=fun args w=>Tryz.call80 args w
theorem ZiO : Zi Tryz.prog 81:=fun args w=>Tryz.call81 args w
theorem ZiP : Zi Tryz.prog 82:=fun args w=>Tryz.call82 args w
theorem wA : Zi Tryz.prog 83:=fun args w=>Tryz.call83 args w
theorem ZiQ : Zi Tryz.prog 84:=fun args w=>Tryz.call84 args w
theorem wB : Zi Tryz.prog 85:=fun args w=>Tryz.call85 args w
theorem ZiR : Zi Tryz.prog 86:=fun args w=>Tryz.call86 args w
theorem ZiS : Zi Tryz.prog 88:=fun args w=>Tryz.call88 args w
theorem ZiT : Zi Tryz.prog 89:=fun args w=>Tryz.call89 args w
theorem ZiU : Zi Tryz.prog 90:=fun args w=>Tryz.call90 args w
theorem wC : Zi Tryz.prog 91:=fun args w=>Tryz.call91 args w
theorem ZiV : Zi Tryz.prog 92:=fun args w=>Tryz.call92 args w
theorem wD : Zi Tryz.prog 93:=fun args w=>Tryz.call93 args w
theorem ZiW : Zi Tryz.prog 94:=fun args w=>Tryz.call94 args w
theorem ZiX : Zi Tryz.prog 95:=fun args w=>Tryz.call95 args w
theorem ZiY : Zi Tryz.prog 97:=fun args w=>Tryz.call97 args w
theorem zY : Zi Tryz.prog 108:=fun args w=>Tryz.call108 args w
theorem zZ : Zi Tryz.prog 109:=fun args w=>Tryz.call109 args w
theorem Zaa : Zi Tryz.prog 110:=fun args w=>Tryz.call110 args w
theorem Zab : Zi Tryz.prog 111:=fun args w=>Tryz.call111 args w
theorem Zac : Zi Tryz.prog 112:=fun args w=>Tryz.call112 args w
theorem Zad : Zi Tryz.prog 113:=fun args w=>Tryz.call113 args w
theorem Zae : Zi Tryz.prog 114:=fun args w=>Tryz.call114 args w
theorem Zaf : Zi Tryz.prog 115:=fun args w=>Tryz.call115 args w
theorem Zag : Zi Tryz.prog 116:=fun args w=>Tryz.call116 args w
theorem Zah : Zi Tryz.prog 117:=fun args w=>Tryz.call117 args w
theorem Zai : Zi Tryz.prog 118:=fun args w=>Tryz.call118 args w
theorem Zaj : Zi Tryz.prog 119:=fun args w=>Tryz.call119 args w
theorem Zak : Zi Tryz.prog 120:=fun args w=>Tryz.call120 args w
theorem Zal : Zi Tryz.prog 121:=fun args w=>Tryz.call121 args w
theorem Zam : Zi Tryz.prog 122:=fun args w=>Tryz.call122 args w
theorem jF : Zi Tryz.prog 123:=fun args w=>Tryz.call123 args w
theorem Zan : Zi Tryz.prog 124:=fun args w=>Tryz.call124 args w
theorem Zao : Zi Tryz.prog 125:=fun args w=>Tryz.call125 args w
theorem Zap : Zi Tryz.prog 126:=fun args w=>Tryz.call126 args w
theorem Zaq : Zi Tryz.prog 127:=fun args w=>Tryz.call127 args w
theorem Zar : Zi Tryz.prog 128:=fun args w=>Tryz.call128 args w
theorem Zas : Zi Tryz.prog 129:=fun args w=>Tryz.call129 args w
theorem Zat : Zi Tryz.prog 130:=fun args w=>Tryz.call130 args w
theorem Zau : Zi Tryz.prog 131:=fun args w=>Tryz.call131 args w
theorem Zav : Zi Tryz.prog 132:=fun args w=>Tryz.call132 args w
theorem Zaw : Zi Tryz.prog 133:=fun args w=>Tryz.call133 args w
theorem Zax : Zi Tryz.prog 134:=fun args w=>Tryz.call134 args w
theorem Zay : Zi Tryz.prog 135:=fun args w=>Tryz.call135 args w
theorem Zaz : Zi Tryz.prog 136:=fun args w=>Tryz.call136 args w
theorem ZaA : Zi Tryz.prog 137:=fun args w=>Tryz.call137 args w
theorem ZaB : Zi Tryz.prog 138:=fun args w=>Tryz.call138 args w
theorem ZaC : Zi Tryz.prog 139:=fun args w=>Tryz.call139 args w
theorem ZaD : Zi Tryz.prog 140:=fun args w=>Tryz.call140 args w
theorem ZaE : Zi Tryz.prog 141:=fun args w=>Tryz.call141 args w
theorem ZaF : Zi Tryz.prog 142:=fun args w=>Tryz.call142 args w
theorem ZaG : Zi Tryz.prog 143:=fun args w=>Tryz.call143 args w
theorem ZaH : Zi Tryz.prog 157:=fun args w=>Tryz.call157 args w
theorem ZaI : Zi Tryz.prog 158:=fun args w=>Tryz.call158 args w
theorem ZaJ : Zi Tryz.prog 159:=fun args w=>Tryz.call159 args w
theorem ZaK : Zi Tryz.prog 160:=fun args w=>Tryz.call160 args w
theorem ZaL : Zi Tryz.prog 161:=fun args w=>Tryz.call161 args w
theorem jG : Zi Tryz.prog 162:=fun args w=>Tryz.call162 args w
theorem jH : Zi Tryz.prog 163:=fun args w=>Tryz.call163 args w
theorem ZaM : Zi Tryz.prog 164:=fun args w=>Tryz.call164 args w
theorem ZaN : Zi Tryz.prog 165:=fun args w=>Tryz.call165 args w
theorem ZaO : Zi Tryz.prog 166:=fun args w=>Tryz.call166 args w
theorem ZaP : Zi Tryz.prog 167:=fun args w=>Tryz.call167 args w
theorem ZaQ : Zi Tryz.prog 168:=fun args w=>Tryz.call168 args w
theorem ZaR : Zi Tryz.prog 169:=fun args w=>Tryz.call169 args w
theorem ZaS : Zi Tryz.prog 170:=fun args w=>Tryz.call170 args w
theorem ZaT : Zi Tryz.prog 171:=fun args w=>Tryz.call171 args w
theorem ZaU : Zi Tryz.prog 172:=fun args w=>Tryz.call172 args w
theorem ZaV : Zi Tryz.prog 174:=fun args w=>Tryz.call174 args w
theorem ZaW : Zi Tryz.prog 175:=fun args w=>Tryz.call175 args w
theorem ZaX : Zi Tryz.prog 176:=fun args w=>Tryz.call176 args w
theorem ZaY : Zi Tryz.prog 177:=fun args w=>Tryz.call177 args w
theorem ZaZ : Zi Tryz.prog 178:=fun args w=>Tryz.call178 args w
theorem Za0 : Zi Tryz.prog 179:=fun args w=>Tryz.call179 args w
theorem Za1 : Zi Tryz.prog 180:=fun args w=>Tryz.call180 args w
theorem Za2 : Zi Tryz.prog 181:=fun args w=>Tryz.call181 args w
theorem Za3 : Zi Tryz.prog 182:=fun args w=>Tryz.call182 args w
theorem Za4 : Zi Tryz.prog 187:=fun args w=>Tryz.call187 args w
theorem jI : Zi Tryz.prog 188:=fun args w=>Tryz.call188 args w
theorem Za5 : Zi Tryz.prog 189:=fun args w=>Tryz.call189 args w
theorem Za6 : Zi Tryz.prog 190:=fun args w=>Tryz.call190 args w
theorem Za7 : Zi Tryz.prog 191:=fun args w=>Tryz.call191 args w
theorem Za8 : Zi Tryz.prog 192:=fun args w=>Tryz.call192 args w
theorem Za9 : Zi Tryz.prog 193:=fun args w=>Tryz.call193 args w
theorem Zba : Zi Tryz.prog 194:=fun args w=>Tryz.call194 args w
theorem Zbb : Zi Tryz.prog 195:=fun args w=>Tryz.call195 args w
theorem jJ : Zi Tryz.prog 196:=fun args w=>Tryz.call196 args w
theorem Zbc : Zi Tryz.prog 197:=fun args w=>Tryz.call197 args w
theorem Zbd : Zi Tryz.prog 198:=fun args w=>Tryz.call198 args w
theorem Zbe : Zi Tryz.prog 199:=fun args w=>Tryz.call199 args w
theorem Zbf : Zi Tryz.prog 200:=fun args w=>Tryz.call200 args w
theorem Zbg : Zi Tryz.prog 201:=fun args w=>Tryz.call201 args w
theorem Vf : Zi Tryz.prog 211:=fun args w=>Tryz.call211 args w
theorem Zbh : Zi Tryz.prog 212:=fun args w=>Tryz.call212 args w
theorem Zbi : Zi Tryz.prog 213:=fun args w=>Tryz.call213 args w
theorem Zbj : Zi Tryz.prog 214:=fun args w=>Tryz.call214 args w
theorem Zbk : Zi Tryz.prog 215:=fun args w=>Tryz.call215 args w
theorem Zbl : Zi Tryz.prog 216:=fun args w=>Tryz.call216 args w
theorem Zbm : Zi Tryz.prog 218:=fun args w=>Tryz.call218 args w
theorem Zbn : Zi Tryz.prog 219:=fun args w=>Tryz.call219 args w
theorem Zbo : Zi Tryz.prog 220:=fun args w=>Tryz.call220 args w
theorem Zbp : Zi Tryz.prog 221:=fun args w=>Tryz.call221 args w
theorem Zbq : Zi Tryz.prog 222:=fun args w=>Tryz.call222 args w
theorem Zbr : Zi Tryz.prog 223:=fun args w=>Tryz.call223 args w
theorem Zbs : Zi Tryz.prog 227:=fun args w=>Tryz.call227 args w
theorem Zbt : Zi Tryz.prog 228:=fun args w=>Tryz.call228 args w
theorem Zbu : Zi Tryz.prog 229:=fun args w=>Tryz.call229 args w
theorem Zbv : Zi Tryz.prog 230:=fun args w=>Tryz.call230 args w
theorem Zbw : Zi Tryz.prog 231:=fun args w=>Tryz.call231 args w
theorem Zbx : Zi Tryz.prog 232:=fun args w=>Tryz.call232 args w
theorem Zby : Zi Tryz.prog 233:=fun args w=>Tryz.call233 args w
theorem Zbz : Zi Tryz.prog 234:=fun args w=>Tryz.call234 args w
theorem ZbA : Zi Tryz.prog 235:=fun args w=>Tryz.call235 args w
theorem ZbB : Zi Tryz.prog 236:=fun args w=>Tryz.call236 args w
theorem ZbC : Zi Tryz.prog 237:=fun args w=>Tryz.call237 args w
theorem ZbD : Zi Tryz.prog 238:=fun args w=>Tryz.call238 args w
theorem ZbE : Zi Tryz.prog 239:=fun args w=>Tryz.call239 args w
theorem ZbF : Zi Tryz.prog 240:=fun args w=>Tryz.call240 args w
theorem ZbG : Zi Tryz.prog 241:=fun args w=>Tryz.call241 args w
theorem ZbH : Zi Tryz.prog 243:=fun args w=>Tryz.call243 args w
theorem ZbI : Zi Tryz.prog 244:=fun args w=>Tryz.call244 args w
theorem ZbJ : Zi Tryz.prog 245:=fun args w=>Tryz.call245 args w
theorem ZbK : Zi Tryz.prog 246:=fun args w=>Tryz.call246 args w
theorem ZbL : Zi Tryz.prog 247:=fun args w=>Tryz.call247 args w
theorem ZbM : Zi Tryz.prog 248:=fun args w=>Tryz.call248 args w
theorem ZbN : Zi Tryz.prog 249:=fun args w=>Tryz.call249 args w
theorem ZbO : Zi Tryz.prog 250:=fun args w=>Tryz.call250 args w
theorem ZbP : Zi Tryz.prog 251:=fun args w=>Tryz.call251 args w
theorem ZbQ : Zi Tryz.prog 252:=fun args w=>Tryz.call252 args w
theorem ZbR : Zi Tryz.prog 253:=fun args w=>Tryz.call253 args w
theorem ZbS : Zi Tryz.prog 254:=fun args w=>Tryz.call254 args w
theorem ZbT : Zi Tryz.prog 255:=fun args w=>Tryz.call255 args w
theorem jK : Zi Tryz.prog 256:=fun args w=>Tryz.call256 args w
theorem ZbU : Zi Tryz.prog 257:=fun args w=>Tryz.call257 args w
theorem ZbV : Zi Tryz.prog 258:=fun args w=>Tryz.call258 args w
theorem ZbW : Zi Tryz.prog 259:=fun args w=>Tryz.call259 args w
theorem ZbX : Zi Tryz.prog 260:=fun args w=>Tryz.call260 args w
theorem ZbY : Zi Tryz.prog 261:=fun args w=>Tryz.call261 args w
theorem ZbZ : Zi Tryz.prog 262:=fun args w=>Tryz.call262 args w
theorem Zb0 : Zi Tryz.prog 263:=fun args w=>Tryz.call263 args w
theorem Zb1 : Zi Tryz.prog 264:=fun args w=>Tryz.call264 args w
theorem Zb2 : Zi Tryz.prog 265:=fun args w=>Tryz.call265 args w
theorem Zb3 : Zi Tryz.prog 266:=fun args w=>Tryz.call266 args w
theorem Zb4 : Zi Tryz.prog 267:=fun args w=>Tryz.call267 args w
theorem Zb5 : Zi Tryz.prog 268:=fun args w=>Tryz.call268 args w
theorem Zb6 : Zi Tryz.prog 269:=fun args w=>Tryz.call269 args w
theorem Zb7 : Zi Tryz.prog 270:=fun args w=>Tryz.call270 args w
theorem Zb8 : Zi Tryz.prog 271:=fun args w=>Tryz.call271 args w
theorem Zb9 : Zi Tryz.prog 272:=fun args w=>Tryz.call272 args w
theorem Zca : Zi Tryz.prog 273:=fun args w=>Tryz.call273 args w
theorem Zcb : Zi Tryz.prog 274:=fun args w=>Tryz.call274 args w
theorem Zcc : Zi Tryz.prog 275:=fun args w=>Tryz.call275 args w
theorem Zcd : Zi Tryz.prog 276:=fun args w=>Tryz.call276 args w
theorem Zce : Zi Tryz.prog 277:=fun args w=>Tryz.call277 args w
theorem Zcf : Zi Tryz.prog 278:=fun args w=>Tryz.call278 args w
theorem Zcg : Zi Tryz.prog 279:=fun args w=>Tryz.call279 args w
theorem Zch : Zi Tryz.prog 280:=fun args w=>Tryz.call280 args w
theorem Zci : Zi Tryz.prog 281:=fun args w=>Tryz.call281 args w
theorem Zcj : Zi Tryz.prog 282:=fun args w=>Tryz.call282 args w
theorem Zck : Zi Tryz.prog 283:=fun args w=>Tryz.call283 args w
theorem Zcl : Zi Tryz.prog 284:=fun args w=>Tryz.call284 args w
theorem Zcm : Zi Tryz.prog 285:=fun args w=>Tryz.call285 args w
theorem Zcn : Zi Tryz.prog 286:=fun args w=>Tryz.call286 args w
theorem Zco : Zi Tryz.prog 287:=fun args w=>Tryz.call287 args w
theorem Zcp : Zi Tryz.prog 288:=fun args w=>Tryz.call288 args w
theorem Zcq : Zi Tryz.prog 289:=fun args w=>Tryz.call289 args w
theorem Zcr : Zi Tryz.prog 290:=fun args w=>Tryz.call290 args w
theorem Zcs : Zi Tryz.prog 291:=fun args w=>Tryz.call291 args w
theorem Zct : Zi Tryz.prog 292:=fun args w=>Tryz.call292 args w
theorem Zcu : Zi Tryz.prog 293:=fun args w=>Tryz.call293 args w
theorem Zcv : Zi Tryz.prog 294:=fun args w=>Tryz.call294 args w
theorem Zcw : Zi Tryz.prog 295:=fun args w=>Tryz.call295 args w
theorem Zcx : Zi Tryz.prog 296:=fun args w=>Tryz.call296 args w
theorem Zcy : Zi Tryz.prog 297:=fun args w=>Tryz.call297 args w
theorem Zcz : Zi Tryz.prog 298:=fun args w=>Tryz.call298 args w
theorem mixed : Tryz.prog.follows .mixedOrders=true:=Ze
end Go.Proofs.YtenjikkmmibffaaGreatDoor.K
