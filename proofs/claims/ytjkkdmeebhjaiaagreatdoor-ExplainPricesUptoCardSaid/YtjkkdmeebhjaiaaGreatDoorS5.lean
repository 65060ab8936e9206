/- Declarations that the closing texts need, part 5: joined by tools/slim.py. -/
import Derived.Test.YtjkkdmeebhjaiaaGreatDoorS4
import Derived.KernelRfl
import Derived.Test.YtjkkdmeebhjaiaaGreatDoorProg
namespace Go.Proofs.YtjkkdmeebhjaiaaGreatDoor.K
open Go Go.AM Go.Proofs
abbrev PC (f:FuncId) (a:List V) (y:PV):=ACalls Tryz.prog f a [] fun x H'=>x= .p y/\H'= []
abbrev PT (f:FuncId) (a:List V) (b:List V):=ACalls Tryz.prog f a [] fun x H'=>x= .tup b/\H'= []
theorem kf {α:Type} {a b:α} (h:a=b:=by kernel_rfl):a=b:=Zm h rfl
theorem Zg {p:Prop} (h:p:=by kernel_rfl):p:=h
@[go_sem] theorem Zqz : Tryz.prog.underlying 3=some (.int .i64):=kf
@[go_sem] theorem Zqv : YP Tryz.prog 3=some 1:=kf
@[go_sem] theorem ZpF : XH Tryz.prog 3=some false:=kf
@[go_sem] theorem ZmS : Xc Tryz.prog 3=some [.int .i64 0]:=kf
@[go_sem] theorem ZqA : Tryz.prog.underlying 4=some .bool:=kf
@[go_sem] theorem Zqw : YP Tryz.prog 4=some 1:=kf
@[go_sem] theorem ZpG : XH Tryz.prog 4=some false:=kf
@[go_sem] theorem ZqB : Tryz.prog.underlying 5=some (.int .u8):=kf
@[go_sem] theorem Zqx : YP Tryz.prog 5=some 1:=kf
@[go_sem] theorem ZpH : XH Tryz.prog 5=some false:=kf
@[go_sem] theorem ZqC : Tryz.prog.underlying 9=some .string:=kf
@[go_sem] theorem Zqy : YP Tryz.prog 9=some 1:=kf
@[go_sem] theorem ZpI : XH Tryz.prog 9=some false:=kf
@[go_sem] theorem Zqb : Tryz.prog.underlying 22=some (.slice 9):=kf
@[go_sem] theorem ZpQ : YP Tryz.prog 22=some 1:=kf
@[go_sem] theorem ZnL : XH Tryz.prog 22=some false:=kf
@[go_sem] theorem Zn5 : Y6 Tryz.prog 22=some (none,1):=kf
@[go_sem] theorem Znt : UT Tryz.prog 22=some 1:=kf
@[go_sem] theorem wY : Qs Tryz.prog 22=some (1,16):=kf
@[go_sem] theorem ZgF (H:List AM.Obj) (u:TypeId) (o n:Nat) (y:V):WO Tryz.prog H 22 u (.sl o 0 n n) y=V5 H (some (1,16)) (oat H o) o n (YB (Tryz.prog.underlying u) H y):=Yb wY
@[go_sem] theorem Zqc : Tryz.prog.underlying 23=some (.slice 101):=kf
@[go_sem] theorem ZpR : YP Tryz.prog 23=some 1:=kf
@[go_sem] theorem ZnM : XH Tryz.prog 23=some false:=kf
@[go_sem] theorem Zn6 : Y6 Tryz.prog 23=some (none,6):=kf
@[go_sem] theorem ZpS : YP Tryz.prog 25=some 2:=kf
@[go_sem] theorem ZnN : XH Tryz.prog 25=some true:=kf
@[go_sem] theorem Zj3 : ZQ Tryz.prog 25 0=some 0:=kf
@[go_sem] theorem Zj4 : ZQ Tryz.prog 25 1=some 1:=kf
@[go_sem] theorem ZpJ : BI Tryz.prog 25=some (BH [(0,1),(1,1)]):=kf
@[go_sem] theorem ZkO : Xc Tryz.prog 25=some [.list true [],.list true []]:=kf
@[go_sem] theorem Zqd : Tryz.prog.underlying 26=some (.slice 63):=kf
@[go_sem] theorem ZpT : YP Tryz.prog 26=some 1:=kf
@[go_sem] theorem ZnO : XH Tryz.prog 26=some false:=kf
@[go_sem] theorem Zn7 : Y6 Tryz.prog 26=some (none,14):=kf
@[go_sem] theorem Znu : UT Tryz.prog 26=some 14:=kf
@[go_sem] theorem wZ : Qs Tryz.prog 26=some (14,136):=kf
@[go_sem] theorem ZgG (H:List AM.Obj) (u:TypeId) (o n:Nat) (y:V):WO Tryz.prog H 26 u (.sl o 0 n n) y=V5 H (some (14,136)) (oat H o) o n (YB (Tryz.prog.underlying u) H y):=Yb wZ
@[go_sem] theorem Zqe : Tryz.prog.underlying 27=some (.slice 67):=kf
@[go_sem] theorem ZpU : YP Tryz.prog 27=some 1:=kf
@[go_sem] theorem ZnP : XH Tryz.prog 27=some false:=kf
@[go_sem] theorem Zn8 : Y6 Tryz.prog 27=some (none,16):=kf
@[go_sem] theorem Znv : UT Tryz.prog 27=some 16:=kf
@[go_sem] theorem xA : Qs Tryz.prog 27=some (16,152):=kf
@[go_sem] theorem ZgH (H:List AM.Obj) (u:TypeId) (o n:Nat) (y:V):WO Tryz.prog H 27 u (.sl o 0 n n) y=V5 H (some (16,152)) (oat H o) o n (YB (Tryz.prog.underlying u) H y):=Yb xA
@[go_sem] theorem Zqf : Tryz.prog.underlying 28=some (.slice 89):=kf
@[go_sem] theorem ZpV : YP Tryz.prog 28=some 1:=kf
@[go_sem] theorem ZnQ : XH Tryz.prog 28=some false:=kf
@[go_sem] theorem Zn9 : Y6 Tryz.prog 28=some (none,2):=kf
@[go_sem] theorem Znw : UT Tryz.prog 28=some 2:=kf
@[go_sem] theorem xB : Qs Tryz.prog 28=some (2,16):=kf
@[go_sem] theorem ZgI (H:List AM.Obj) (u:TypeId) (o n:Nat) (y:V):WO Tryz.prog H 28 u (.sl o 0 n n) y=V5 H (some (2,16)) (oat H o) o n (YB (Tryz.prog.underlying u) H y):=Yb xB
@[go_sem] theorem ZpW : YP Tryz.prog 30=some 6:=kf
@[go_sem] theorem ZnR : XH Tryz.prog 30=some true:=kf
@[go_sem] theorem Zj5 : ZQ Tryz.prog 30 0=some 0:=kf
@[go_sem] theorem Zj6 : ZQ Tryz.prog 30 1=some 2:=kf
@[go_sem] theorem Zj7 : ZQ Tryz.prog 30 2=some 3:=kf
@[go_sem] theorem Zj8 : ZQ Tryz.prog 30 3=some 4:=kf
@[go_sem] theorem Zj9 : ZQ Tryz.prog 30 4=some 5:=kf
@[go_sem] theorem ZpK : BI Tryz.prog 30=some (BH [(0,2),(2,1),(3,1),(4,1),(5,1)]):=kf
@[go_sem] theorem ZkP : Xc Tryz.prog 30=some [.list true [],.list true [],.list true [],.list true [],.list true [],.list true []]:=kf
@[go_sem] theorem Zqg : Tryz.prog.underlying 31=some (.slice 4):=kf
@[go_sem] theorem ZpX : YP Tryz.prog 31=some 1:=kf
@[go_sem] theorem ZnS : XH Tryz.prog 31=some false:=kf
@[go_sem] theorem Zoa : Y6 Tryz.prog 31=some (none,1):=kf
@[go_sem] theorem Znx : UT Tryz.prog 31=some 1:=kf
@[go_sem] theorem xC : Qs Tryz.prog 31=some (1,1):=kf
@[go_sem] theorem ZgC (H:List AM.Obj) (u:TypeId) (y:V):WO Tryz.prog H 31 u (.p (.list true [])) y=Mi H (some (1,1)) (YB (Tryz.prog.underlying u) H y):=BJ xC
@[go_sem] theorem qY : Sm Tryz.prog 31=some (1,1,.bool false):=kf
@[go_sem] theorem Zpm (H:List AM.Obj) (fr:List V) (x y:Operand):WU Tryz.prog (.makeSlice 31 x y) fr H=QP (some (1,1,.bool false)) H (ev fr x) (ev fr y):=Fa qY
@[go_sem] theorem Zqh : Tryz.prog.underlying 34=some (.slice 41):=kf
@[go_sem] theorem ZpY : YP Tryz.prog 34=some 1:=kf
@[go_sem] theorem ZnT : XH Tryz.prog 34=some false:=kf
@[go_sem] theorem Zob : Y6 Tryz.prog 34=some (none,2):=kf
@[go_sem] theorem Zny : UT Tryz.prog 34=some 2:=kf
@[go_sem] theorem xD : Qs Tryz.prog 34=some (2,16):=kf
@[go_sem] theorem ZgJ (H:List AM.Obj) (u:TypeId) (o n:Nat) (y:V):WO Tryz.prog H 34 u (.sl o 0 n n) y=V5 H (some (2,16)) (oat H o) o n (YB (Tryz.prog.underlying u) H y):=Yb xD
@[go_sem] theorem ZkQ : Xc Tryz.prog 34=some [.list true []]:=kf
@[go_sem] theorem ZpZ : YP Tryz.prog 36=some 1:=kf
@[go_sem] theorem ZnU : XH Tryz.prog 36=some false:=kf
@[go_sem] theorem Zp0 : YP Tryz.prog 41=some 2:=kf
@[go_sem] theorem ZnV : XH Tryz.prog 41=some true:=kf
@[go_sem] theorem Zka : ZQ Tryz.prog 41 0=some 0:=kf
@[go_sem] theorem Zkb : ZQ Tryz.prog 41 1=some 1:=kf
@[go_sem] theorem tI : Tryz.prog.stoodInHeld 41=false:=kf
@[go_sem] theorem ZpL : BI Tryz.prog 41=some (BH [(0,1),(1,1)]):=kf
@[go_sem] theorem Zpl (d:Nat) (a b:List PV):GQ Tryz.prog d 41 (Tryz.prog.underlying 41) (.agg a) (.agg b)=Ek (cW (Vi Tryz.prog d 3) (apart Tryz.prog 3 a 0) (apart Tryz.prog 3 b 0)) (Ek (cW (Vi Tryz.prog d 3) (apart Tryz.prog 3 a 1) (apart Tryz.prog 3 b 1)) (some true)):=by rw [Tryz.underlying41,Qv tI];simp [Ac,BL]
@[go_sem] theorem Zpz : Tryz.prog.eqGuardType Tryz.prog.depth 41=false:=kf
@[go_sem] theorem ZkR : Xc Tryz.prog 41=some [.int .i64 0,.int .i64 0]:=kf
@[go_sem] theorem Zqi : Tryz.prog.underlying 42=some (.slice 105):=kf
@[go_sem] theorem Zoc : Y6 Tryz.prog 42=some (none,2):=kf
@[go_sem] theorem Znz : UT Tryz.prog 42=some 2:=kf
@[go_sem] theorem eC : Qs Tryz.prog 42=some (2,24):=kf
@[go_sem] theorem ZgD (H:List AM.Obj) (u:TypeId) (y:V):WO Tryz.prog H 42 u (.p (.list true [])) y=Mi H (some (2,24)) (YB (Tryz.prog.underlying u) H y):=BJ eC
@[go_sem] theorem ZgK (H:List AM.Obj) (u:TypeId) (o n:Nat) (y:V):WO Tryz.prog H 42 u (.sl o 0 n n) y=V5 H (some (2,24)) (oat H o) o n (YB (Tryz.prog.underlying u) H y):=Yb eC
@[go_sem] theorem Zqj : Tryz.prog.underlying 54=some (.slice 119):=kf
@[go_sem] theorem Zp1 : YP Tryz.prog 54=some 1:=kf
@[go_sem] theorem ZnW : XH Tryz.prog 54=some false:=kf
@[go_sem] theorem ZnA : UT Tryz.prog 54=some 4:=kf
@[go_sem] theorem xE : Qs Tryz.prog 54=some (4,64):=kf
@[go_sem] theorem ZgL (H:List AM.Obj) (u:TypeId) (o n:Nat) (y:V):WO Tryz.prog H 54 u (.sl o 0 n n) y=V5 H (some (4,64)) (oat H o) o n (YB (Tryz.prog.underlying u) H y):=Yb xE
@[go_sem] theorem Zqk : Tryz.prog.underlying 55=some (.slice 3):=kf
@[go_sem] theorem Zp2 : YP Tryz.prog 55=some 1:=kf
@[go_sem] theorem ZnX : XH Tryz.prog 55=some false:=kf
@[go_sem] theorem Zod : Y6 Tryz.prog 55=some (none,1):=kf
@[go_sem] theorem ZnB : UT Tryz.prog 55=some 1:=kf
@[go_sem] theorem eD : Qs Tryz.prog 55=some (1,8):=kf
@[go_sem] theorem ZgE (H:List AM.Obj) (u:TypeId) (y:V):WO Tryz.prog H 55 u (.p (.list true [])) y=Mi H (some (1,8)) (YB (Tryz.prog.underlying u) H y):=BJ eD
@[go_sem] theorem ZgM (H:List AM.Obj) (u:TypeId) (o n:Nat) (y:V):WO Tryz.prog H 55 u (.sl o 0 n n) y=V5 H (some (1,8)) (oat H o) o n (YB (Tryz.prog.underlying u) H y):=Yb eD
@[go_sem] theorem qZ : Sm Tryz.prog 55=some (1,8,.int .i64 0):=kf
@[go_sem] theorem Zpn (H:List AM.Obj) (fr:List V) (x y:Operand):WU Tryz.prog (.makeSlice 55 x y) fr H=QP (some (1,8,.int .i64 0)) H (ev fr x) (ev fr y):=Fa qZ
@[go_sem] theorem Zp3 : YP Tryz.prog 57=some 2:=kf
@[go_sem] theorem ZnY : XH Tryz.prog 57=some true:=kf
@[go_sem] theorem Zkc : ZQ Tryz.prog 57 0=some 0:=kf
@[go_sem] theorem Zkd : ZQ Tryz.prog 57 1=some 1:=kf
@[go_sem] theorem ZpM : BI Tryz.prog 57=some (BH [(0,1),(1,1)]):=kf
@[go_sem] theorem ZkS : Xc Tryz.prog 57=some [.list true [],.list true []]:=kf
@[go_sem] theorem Zp4 : YP Tryz.prog 63=some 14:=kf
@[go_sem] theorem ZnZ : XH Tryz.prog 63=some true:=kf
@[go_sem] theorem Zke : ZQ Tryz.prog 63 0=some 0:=kf
@[go_sem] theorem Zkf : ZQ Tryz.prog 63 1=some 1:=kf
@[go_sem] theorem Zkg : ZQ Tryz.prog 63 2=some 2:=kf
@[go_sem] theorem Zkh : ZQ Tryz.prog 63 3=some 3:=kf
@[go_sem] theorem Zki : ZQ Tryz.prog 63 4=some 4:=kf
@[go_sem] theorem Zkj : ZQ Tryz.prog 63 5=some 5:=kf
@[go_sem] theorem Zkk : ZQ Tryz.prog 63 6=some 6:=kf
@[go_sem] theorem Zkl : ZQ Tryz.prog 63 7=some 7:=kf
@[go_sem] theorem Zkm : ZQ Tryz.prog 63 8=some 8:=kf
@[go_sem] theorem Zkn : ZQ Tryz.prog 63 9=some 9:=kf
@[go_sem] theorem Zf3 : ZQ Tryz.prog 63 10=some 10:=kf
@[go_sem] theorem Zf4 : ZQ Tryz.prog 63 11=some 11:=kf
@[go_sem] theorem Zf5 : ZQ Tryz.prog 63 12=some 12:=kf
@[go_sem] theorem Zf6 : ZQ Tryz.prog 63 13=some 13:=kf
@[go_sem] theorem ZpN : BI Tryz.prog 63=some (BH [(0,1),(1,1),(2,1),(3,1),(4,1),(5,1),(6,1),(7,1),(8,1),(9,1),(10,1),(11,1),(12,1),(13,1)]):=kf
@[go_sem] theorem ZkT : Xc Tryz.prog 63=some [.str [],.int .i64 0,.int .i64 0,.int .i64 0,.list true [],.int .i64 0,.int .i64 0,.int .i64 0,.int .i64 0,.int .i64 0,.int .i64 0,.int .i64 0,.int .i64 0,.int .i64 0]:=kf
@[go_sem] theorem Zp5 : YP Tryz.prog 65=some 4:=kf
@[go_sem] theorem Zn0 : XH Tryz.prog 65=some true:=kf
@[go_sem] theorem Zko : ZQ Tryz.prog 65 0=some 0:=kf
@[go_sem] theorem Zkp : ZQ Tryz.prog 65 1=some 1:=kf
@[go_sem] theorem Zkq : ZQ Tryz.prog 65 2=some 2:=kf
@[go_sem] theorem Zkr : ZQ Tryz.prog 65 3=some 3:=kf
@[go_sem] theorem ZpO : BI Tryz.prog 65=some (BH [(0,1),(1,1),(2,1),(3,1)]):=kf
@[go_sem] theorem ZkU : Xc Tryz.prog 65=some [.int .i64 0,.int .i64 0,.int .i64 0,.int .i64 0]:=kf
@[go_sem] theorem Zp6 : YP Tryz.prog 67=some 16:=kf
@[go_sem] theorem Zn1 : XH Tryz.prog 67=some true:=kf
@[go_sem] theorem Zks : ZQ Tryz.prog 67 0=some 0:=kf
@[go_sem] theorem Zkt : ZQ Tryz.prog 67 1=some 1:=kf
@[go_sem] theorem Zku : ZQ Tryz.prog 67 2=some 2:=kf
@[go_sem] theorem Zkv : ZQ Tryz.prog 67 3=some 6:=kf
@[go_sem] theorem Zkw : ZQ Tryz.prog 67 4=some 10:=kf
@[go_sem] theorem Zkx : ZQ Tryz.prog 67 5=some 11:=kf
@[go_sem] theorem Zky : ZQ Tryz.prog 67 6=some 12:=kf
@[go_sem] theorem Zkz : ZQ Tryz.prog 67 7=some 13:=kf
@[go_sem] theorem ZkA : ZQ Tryz.prog 67 8=some 14:=kf
@[go_sem] theorem ZkB : ZQ Tryz.prog 67 9=some 15:=kf
@[go_sem] theorem ZpP : BI Tryz.prog 67=some (BH [(0,1),(1,1),(2,4),(6,4),(10,1),(11,1),(12,1),(13,1),(14,1),(15,1)]):=kf
@[go_sem] theorem ZkV : Xc Tryz.prog 67=some [.str [],.list true [],.int .i64 0,.int .i64 0,.int .i64 0,.int .i64 0,.int .i64 0,.int .i64 0,.int .i64 0,.int .i64 0,.int .i64 0,.int .i64 0,.int .i64 0,.int .i64 0,.int .i64 0,.bool false]:=kf
@[go_sem] theorem Zql : Tryz.prog.underlying 84=some (.slice 121):=kf
@[go_sem] theorem Zp7 : YP Tryz.prog 84=some 1:=kf
@[go_sem] theorem Zn2 : XH Tryz.prog 84=some false:=kf
@[go_sem] theorem Zoe : Y6 Tryz.prog 84=some (none,7):=kf
@[go_sem] theorem ZnC : UT Tryz.prog 84=some 7:=kf
@[go_sem] theorem xF : Qs Tryz.prog 84=some (7,88):=kf
@[go_sem] theorem ZgN (H:List AM.Obj) (u:TypeId) (o n:Nat) (y:V):WO Tryz.prog H 84 u (.sl o 0 n n) y=V5 H (some (7,88)) (oat H o) o n (YB (Tryz.prog.underlying u) H y):=Yb xF
@[go_sem] theorem Zp8 : YP Tryz.prog 89=some 2:=kf
@[go_sem] theorem Zn3 : XH Tryz.prog 89=some true:=kf
@[go_sem] theorem Zof : Y6 Tryz.prog 89=some ((some 2),1):=kf
@[go_sem] theorem ZkW : Xc Tryz.prog 89=some [.int .i64 0,.int .i64 0]:=kf
@[go_sem] theorem Zqm : Tryz.prog.underlying 99=some (.slice 139):=kf
@[go_sem] theorem Zp9 : YP Tryz.prog 99=some 1:=kf
@[go_sem] theorem Zn4 : XH Tryz.prog 99=some false:=kf
@[go_sem] theorem Zog : Y6 Tryz.prog 99=some (none,2):=kf
@[go_sem] theorem ZoC : YP Tryz.prog 101=some 6:=kf
@[go_sem] theorem Zl6 : XH Tryz.prog 101=some true:=kf
@[go_sem] theorem Ze0 : ZQ Tryz.prog 101 0=some 0:=kf
@[go_sem] theorem Ze1 : ZQ Tryz.prog 101 1=some 1:=kf
@[go_sem] theorem Ze2 : ZQ Tryz.prog 101 2=some 2:=kf
@[go_sem] theorem Ze3 : ZQ Tryz.prog 101 3=some 3:=kf
@[go_sem] theorem Ze4 : ZQ Tryz.prog 101 4=some 4:=kf
@[go_sem] theorem Ze5 : ZQ Tryz.prog 101 5=some 5:=kf
@[go_sem] theorem Zoi : BI Tryz.prog 101=some (BH [(0,1),(1,1),(2,1),(3,1),(4,1),(5,1)]):=kf
@[go_sem] theorem Zgc : Xc Tryz.prog 101=some [.int .i64 0,.int .i64 0,.int .i64 0,.int .i64 0,.list true [],.list true []]:=kf
@[go_sem] theorem Ze6 : ZQ Tryz.prog 105 0=some 0:=kf
@[go_sem] theorem Ze7 : ZQ Tryz.prog 105 1=some 1:=kf
@[go_sem] theorem Zoj : BI Tryz.prog 105=some (BH [(0,1),(1,1)]):=kf
@[go_sem] theorem Zgd : Xc Tryz.prog 105=some [.int .i64 0,.str []]:=kf
@[go_sem] theorem Zo1 : Tryz.prog.underlying 108=some (.slice 36):=kf
@[go_sem] theorem Zmu : Y6 Tryz.prog 108=some (none,1):=kf
@[go_sem] theorem ZlL : UT Tryz.prog 108=some 1:=kf
@[go_sem] theorem nZ : Qs Tryz.prog 108=some (1,8):=kf
@[go_sem] theorem Zdt (H:List AM.Obj) (u:TypeId) (o n:Nat) (y:V):WO Tryz.prog H 108 u (.sl o 0 n n) y=V5 H (some (1,8)) (oat H o) o n (YB (Tryz.prog.underlying u) H y):=Yb nZ
@[go_sem] theorem Zo2 : Tryz.prog.underlying 117=some (.slice 211):=kf
@[go_sem] theorem ZoD : YP Tryz.prog 117=some 1:=kf
@[go_sem] theorem Zl7 : XH Tryz.prog 117=some false:=kf
@[go_sem] theorem Zmv : Y6 Tryz.prog 117=some (none,2):=kf
@[go_sem] theorem ZlM : UT Tryz.prog 117=some 2:=kf
@[go_sem] theorem Ru : Qs Tryz.prog 117=some (2,16):=kf
@[go_sem] theorem Zdu (H:List AM.Obj) (u:TypeId) (o n:Nat) (y:V):WO Tryz.prog H 117 u (.sl o 0 n n) y=V5 H (some (2,16)) (oat H o) o n (YB (Tryz.prog.underlying u) H y):=Yb Ru
@[go_sem] theorem ZoE : YP Tryz.prog 119=some 4:=kf
@[go_sem] theorem Zl8 : XH Tryz.prog 119=some true:=kf
@[go_sem] theorem Ze8 : ZQ Tryz.prog 119 0=some 0:=kf
@[go_sem] theorem Ze9 : ZQ Tryz.prog 119 1=some 1:=kf
@[go_sem] theorem Zfa : ZQ Tryz.prog 119 2=some 2:=kf
@[go_sem] theorem Zfb : ZQ Tryz.prog 119 3=some 3:=kf
@[go_sem] theorem Zok : BI Tryz.prog 119=some (BH [(0,1),(1,1),(2,1),(3,1)]):=kf
@[go_sem] theorem Zge : Xc Tryz.prog 119=some [.int .i64 0,.int .i64 0,.list true [],.list true []]:=kf
@[go_sem] theorem ZoF : YP Tryz.prog 121=some 7:=kf
@[go_sem] theorem Zl9 : XH Tryz.prog 121=some true:=kf
@[go_sem] theorem Zfc : ZQ Tryz.prog 121 0=some 0:=kf
@[go_sem] theorem Zfd : ZQ Tryz.prog 121 1=some 1:=kf
@[go_sem] theorem Zfe : ZQ Tryz.prog 121 2=some 2:=kf
@[go_sem] theorem Zff : ZQ Tryz.prog 121 3=some 3:=kf
@[go_sem] theorem Zol : BI Tryz.prog 121=some (BH [(0,1),(1,1),(2,1),(3,4)]):=kf
@[go_sem] theorem Zgf : Xc Tryz.prog 121=some [.int .i64 0,.int .i64 0,.int .i64 0,.int .i64 0,.int .i64 0,.list true [],.list true []]:=kf
@[go_sem] theorem ZoG : YP Tryz.prog 125=some 3:=kf
@[go_sem] theorem Zma : XH Tryz.prog 125=some true:=kf
@[go_sem] theorem Zfg : ZQ Tryz.prog 125 0=some 0:=kf
@[go_sem] theorem Zfh : ZQ Tryz.prog 125 1=some 1:=kf
@[go_sem] theorem Zfi : ZQ Tryz.prog 125 2=some 2:=kf
@[go_sem] theorem Zom : BI Tryz.prog 125=some (BH [(0,1),(1,1),(2,1)]):=kf
@[go_sem] theorem Zgg : Xc Tryz.prog 125=some [.bool false,.list true [],.int .i64 0]:=kf
@[go_sem] theorem Zo3 : Tryz.prog.underlying 132=some (.int .u64):=kf
@[go_sem] theorem ZoH : YP Tryz.prog 139=some 2:=kf
@[go_sem] theorem Zmb : XH Tryz.prog 139=some true:=kf
@[go_sem] theorem Zfj : ZQ Tryz.prog 139 0=some 0:=kf
@[go_sem] theorem Zfk : ZQ Tryz.prog 139 1=some 1:=kf
@[go_sem] theorem Zgh : Xc Tryz.prog 139=some [.int .i64 0,.int .i64 0]:=kf
@[go_sem] theorem Zo4 : Tryz.prog.underlying 145=some (.slice 5):=kf
@[go_sem] theorem ZlN : UT Tryz.prog 145=some 1:=kf
@[go_sem] theorem Zmw : Y6 Tryz.prog 150=some ((some 6),1):=kf
@[go_sem] theorem ZoI : YP Tryz.prog 152=some 8:=kf
@[go_sem] theorem Zmc : XH Tryz.prog 152=some true:=kf
@[go_sem] theorem Zfl : ZQ Tryz.prog 152 0=some 0:=kf
@[go_sem] theorem Zfm : ZQ Tryz.prog 152 1=some 1:=kf
@[go_sem] theorem Zfn : ZQ Tryz.prog 152 2=some 2:=kf
@[go_sem] theorem Zon : BI Tryz.prog 152=some (BH [(0,1),(1,1),(2,6)]):=kf
@[go_sem] theorem Zgi : Xc Tryz.prog 152=some [.int .i64 0,.int .i64 0,.int .i64 0,.int .i64 0,.int .i64 0,.int .i64 0,.int .i64 0,.int .i64 0]:=kf
@[go_sem] theorem Zfo : ZQ Tryz.prog 164 0=some 0:=kf
@[go_sem] theorem Zfp : ZQ Tryz.prog 164 1=some 6:=kf
@[go_sem] theorem Zfq : ZQ Tryz.prog 164 2=some 7:=kf
@[go_sem] theorem Zoo : BI Tryz.prog 164=some (BH [(0,6),(6,1),(7,3)]):=kf
@[go_sem] theorem Zgj : Xc Tryz.prog 164=some [.list true [],.list true [],.list true [],.list true [],.list true [],.list true [],.list true [],.bool false,.list true [],.int .i64 0]:=kf
@[go_sem] theorem Zfr : ZQ Tryz.prog 182 0=some 0:=kf
@[go_sem] theorem Zfs : ZQ Tryz.prog 182 1=some 6:=kf
@[go_sem] theorem Zft : ZQ Tryz.prog 182 2=some 7:=kf
@[go_sem] theorem Zfu : ZQ Tryz.prog 182 3=some 8:=kf
@[go_sem] theorem Zfv : ZQ Tryz.prog 182 4=some 9:=kf
@[go_sem] theorem Zfw : ZQ Tryz.prog 182 5=some 16:=kf
@[go_sem] theorem Zop : BI Tryz.prog 182=some (BH [(0,6),(6,1),(7,1),(8,1),(9,7),(16,1)]):=kf
@[go_sem] theorem Zgk : Xc Tryz.prog 182=some [.list true [],.list true [],.list true [],.list true [],.list true [],.list true [],.int .i64 0,.int .i64 0,.int .i64 0,.int .i64 0,.int .i64 0,.int .i64 0,.int .i64 0,.int .i64 0,.list true [],.list true [],.bool false]:=kf
@[go_sem] theorem Zo5 : Tryz.prog.underlying 186=some (.slice 231):=kf
@[go_sem] theorem Zmx : Y6 Tryz.prog 186=some (none,2):=kf
@[go_sem] theorem ZlO : UT Tryz.prog 186=some 2:=kf
@[go_sem] theorem Rv : Qs Tryz.prog 186=some (2,16):=kf
@[go_sem] theorem Zds (H:List AM.Obj) (u:TypeId) (y:V):WO Tryz.prog H 186 u (.p (.list true [])) y=Mi H (some (2,16)) (YB (Tryz.prog.underlying u) H y):=BJ Rv
@[go_sem] theorem Zdv (H:List AM.Obj) (u:TypeId) (o n:Nat) (y:V):WO Tryz.prog H 186 u (.sl o 0 n n) y=V5 H (some (2,16)) (oat H o) o n (YB (Tryz.prog.underlying u) H y):=Yb Rv
@[go_sem] theorem ZoJ : YP Tryz.prog 188=some 1:=kf
@[go_sem] theorem Zmd : XH Tryz.prog 188=some false:=kf
@[go_sem] theorem ZoK : YP Tryz.prog 190=some 1:=kf
@[go_sem] theorem Zme : XH Tryz.prog 190=some false:=kf
@[go_sem] theorem Zmy : Y6 Tryz.prog 190=some (none,1):=kf
@[go_sem] theorem Zfx : ZQ Tryz.prog 192 0=some 0:=kf
@[go_sem] theorem Zfy : ZQ Tryz.prog 192 1=some 6:=kf
@[go_sem] theorem Zfz : ZQ Tryz.prog 192 2=some 7:=kf
@[go_sem] theorem ZfA : ZQ Tryz.prog 192 3=some 8:=kf
@[go_sem] theorem ZfB : ZQ Tryz.prog 192 4=some 9:=kf
@[go_sem] theorem Zoq : BI Tryz.prog 192=some (BH [(0,6),(6,1),(7,1),(8,1),(9,1)]):=kf
@[go_sem] theorem Zgl : Xc Tryz.prog 192=some [.list true [],.list true [],.list true [],.list true [],.list true [],.list true [],.list true [],.list true [],.nilm,.int .i64 0]:=kf
@[go_sem] theorem ZoL : YP Tryz.prog 196=some 4:=kf
@[go_sem] theorem Zmf : XH Tryz.prog 196=some true:=kf
@[go_sem] theorem ZfC : ZQ Tryz.prog 196 0=some 0:=kf
@[go_sem] theorem ZfD : ZQ Tryz.prog 196 1=some 1:=kf
@[go_sem] theorem ZfE : ZQ Tryz.prog 196 2=some 2:=kf
@[go_sem] theorem ZfF : ZQ Tryz.prog 196 3=some 3:=kf
@[go_sem] theorem Zor : BI Tryz.prog 196=some (BH [(0,1),(1,1),(2,1),(3,1)]):=kf
@[go_sem] theorem Zgm : Xc Tryz.prog 196=some [.int .i64 0,.int .i64 0,.int .i64 0,.int .i64 0]:=kf
@[go_sem] theorem ZoM : YP Tryz.prog 207=some 1:=kf
@[go_sem] theorem Zmg : XH Tryz.prog 207=some false:=kf
@[go_sem] theorem ZoN : YP Tryz.prog 211=some 2:=kf
@[go_sem] theorem Zmh : XH Tryz.prog 211=some true:=kf
@[go_sem] theorem ZfG : ZQ Tryz.prog 211 0=some 0:=kf
@[go_sem] theorem ZfH : ZQ Tryz.prog 211 1=some 1:=kf
@[go_sem] theorem mP : Tryz.prog.stoodInHeld 211=false:=kf
@[go_sem] theorem Zos : BI Tryz.prog 211=some (BH [(0,1),(1,1)]):=kf
@[go_sem] theorem ZmV (d:Nat) (a b:List PV):GQ Tryz.prog d 211 (Tryz.prog.underlying 211) (.agg a) (.agg b)=Ek (cW (Vi Tryz.prog d 3) (apart Tryz.prog 3 a 0) (apart Tryz.prog 3 b 0)) (Ek (cW (Vi Tryz.prog d 4) (apart Tryz.prog 4 a 1) (apart Tryz.prog 4 b 1)) (some true)):=by rw [Tryz.underlying211,Qv mP];simp [Ac,BL]
@[go_sem] theorem Zm4 : Tryz.prog.eqGuardType Tryz.prog.depth 211=false:=kf
@[go_sem] theorem Zgn : Xc Tryz.prog 211=some [.int .i64 0,.bool false]:=kf
@[go_sem] theorem ZoO : YP Tryz.prog 231=some 2:=kf
@[go_sem] theorem Zmi : XH Tryz.prog 231=some true:=kf
@[go_sem] theorem ZfI : ZQ Tryz.prog 231 0=some 0:=kf
@[go_sem] theorem ZfJ : ZQ Tryz.prog 231 1=some 1:=kf
@[go_sem] theorem mQ : Tryz.prog.stoodInHeld 231=false:=kf
@[go_sem] theorem Zot : BI Tryz.prog 231=some (BH [(0,1),(1,1)]):=kf
@[go_sem] theorem ZmW (d:Nat) (a b:List PV):GQ Tryz.prog d 231 (Tryz.prog.underlying 231) (.agg a) (.agg b)=Ek (cW (Vi Tryz.prog d 3) (apart Tryz.prog 3 a 0) (apart Tryz.prog 3 b 0)) (Ek (cW (Vi Tryz.prog d 3) (apart Tryz.prog 3 a 1) (apart Tryz.prog 3 b 1)) (some true)):=by rw [Tryz.underlying231,Qv mQ];simp [Ac,BL]
@[go_sem] theorem Zm5 : Tryz.prog.eqGuardType Tryz.prog.depth 231=false:=kf
@[go_sem] theorem Zgo : Xc Tryz.prog 231=some [.int .i64 0,.int .i64 0]:=kf
@[go_sem] theorem ZoP : YP Tryz.prog 236=some 2:=kf
@[go_sem] theorem Zmj : XH Tryz.prog 236=some true:=kf
@[go_sem] theorem Zou : BI Tryz.prog 236=some (BH [(0,1),(1,1)]):=kf
@[go_sem] theorem Zgp : Xc Tryz.prog 236=some [.int .i64 0,.int .i64 0]:=kf
@[go_sem] theorem Zo6 : Tryz.prog.underlying 237=some (.array 4 3):=kf
@[go_sem] theorem ZoQ : YP Tryz.prog 237=some 4:=kf
@[go_sem] theorem Zmk : XH Tryz.prog 237=some true:=kf
@[go_sem] theorem Zov : BI Tryz.prog 237=some (plA 1):=kf
@[go_sem] theorem Zgq : Xc Tryz.prog 237=some [.int .i64 0,.int .i64 0,.int .i64 0,.int .i64 0]:=kf
@[go_sem] theorem Zo7 : Tryz.prog.underlying 247=some (.slice 335):=kf
@[go_sem] theorem ZoR : YP Tryz.prog 247=some 1:=kf
@[go_sem] theorem Zml : XH Tryz.prog 247=some false:=kf
@[go_sem] theorem Zmz : Y6 Tryz.prog 247=some (none,4):=kf
@[go_sem] theorem ZlP : UT Tryz.prog 247=some 4:=kf
@[go_sem] theorem oA : Qs Tryz.prog 247=some (4,32):=kf
@[go_sem] theorem Zdw (H:List AM.Obj) (u:TypeId) (o n:Nat) (y:V):WO Tryz.prog H 247 u (.sl o 0 n n) y=V5 H (some (4,32)) (oat H o) o n (YB (Tryz.prog.underlying u) H y):=Yb oA
@[go_sem] theorem ZoS : YP Tryz.prog 249=some 5:=kf
@[go_sem] theorem Zmm : XH Tryz.prog 249=some true:=kf
@[go_sem] theorem ZfK : ZQ Tryz.prog 249 0=some 0:=kf
@[go_sem] theorem ZfL : ZQ Tryz.prog 249 1=some 1:=kf
@[go_sem] theorem ZfM : ZQ Tryz.prog 249 2=some 2:=kf
@[go_sem] theorem ZfN : ZQ Tryz.prog 249 3=some 3:=kf
@[go_sem] theorem ZfO : ZQ Tryz.prog 249 4=some 4:=kf
@[go_sem] theorem Zow : BI Tryz.prog 249=some (BH [(0,1),(1,1),(2,1),(3,1),(4,1)]):=kf
@[go_sem] theorem Zgr : Xc Tryz.prog 249=some [.bool false,.int .i64 0,.list true [],.int .i64 0,.int .i64 0]:=kf
@[go_sem] theorem ZmA : Y6 Tryz.prog 265=some ((some 64),1):=kf
@[go_sem] theorem Zo8 : Tryz.prog.underlying 271=some (.slice 207):=kf
@[go_sem] theorem ZmB : Y6 Tryz.prog 271=some (none,1):=kf
@[go_sem] theorem ZlQ : UT Tryz.prog 271=some 1:=kf
@[go_sem] theorem Zo9 : Tryz.prog.underlying 281=some (.slice 55):=kf
@[go_sem] theorem ZmC : Y6 Tryz.prog 281=some (none,1):=kf
@[go_sem] theorem ZlR : UT Tryz.prog 281=some 1:=kf
@[go_sem] theorem oB : Qs Tryz.prog 281=some (1,24):=kf
@[go_sem] theorem Zdx (H:List AM.Obj) (u:TypeId) (o n:Nat) (y:V):WO Tryz.prog H 281 u (.sl o 0 n n) y=V5 H (some (1,24)) (oat H o) o n (YB (Tryz.prog.underlying u) H y):=Yb oB
@[go_sem] theorem Zpa : Tryz.prog.underlying 295=some (.slice 65):=kf
@[go_sem] theorem ZoT : YP Tryz.prog 295=some 1:=kf
@[go_sem] theorem Zmn : XH Tryz.prog 295=some false:=kf
@[go_sem] theorem ZmD : Y6 Tryz.prog 295=some (none,4):=kf
@[go_sem] theorem ZlS : UT Tryz.prog 295=some 4:=kf
@[go_sem] theorem oC : Qs Tryz.prog 295=some (4,32):=kf
@[go_sem] theorem Zdy (H:List AM.Obj) (u:TypeId) (o n:Nat) (y:V):WO Tryz.prog H 295 u (.sl o 0 n n) y=V5 H (some (4,32)) (oat H o) o n (YB (Tryz.prog.underlying u) H y):=Yb oC
@[go_sem] theorem ZoU : YP Tryz.prog 297=some 25:=kf
@[go_sem] theorem Zmo : XH Tryz.prog 297=some true:=kf
@[go_sem] theorem ZfP : ZQ Tryz.prog 297 0=some 0:=kf
@[go_sem] theorem ZfQ : ZQ Tryz.prog 297 1=some 6:=kf
@[go_sem] theorem ZfR : ZQ Tryz.prog 297 2=some 20:=kf
@[go_sem] theorem ZfS : ZQ Tryz.prog 297 3=some 24:=kf
@[go_sem] theorem Zox : BI Tryz.prog 297=some (BH [(0,6),(6,14),(20,4),(24,1)]):=kf
@[go_sem] theorem Zgs : Xc Tryz.prog 297=some [.list true [],.list true [],.list true [],.list true [],.list true [],.list true [],.str [],.int .i64 0,.int .i64 0,.int .i64 0,.list true [],.int .i64 0,.int .i64 0,.int .i64 0,.int .i64 0,.int .i64 0,.int .i64 0,.int .i64 0,.int .i64 0,.int .i64 0,.int .i64 0,.int .i64 0,.list true [],.list true [],.list true []]:=kf
@[go_sem] theorem ZoV : YP Tryz.prog 301=some 7:=kf
@[go_sem] theorem Zmp : XH Tryz.prog 301=some true:=kf
@[go_sem] theorem ZfT : ZQ Tryz.prog 301 0=some 0:=kf
@[go_sem] theorem ZfU : ZQ Tryz.prog 301 1=some 1:=kf
@[go_sem] theorem ZfV : ZQ Tryz.prog 301 2=some 2:=kf
@[go_sem] theorem Zoy : BI Tryz.prog 301=some (BH [(0,1),(1,1),(2,5)]):=kf
@[go_sem] theorem Zgt : Xc Tryz.prog 301=some [.int .i64 0,.int .i64 0,.bool false,.int .i64 0,.list true [],.int .i64 0,.int .i64 0]:=kf
@[go_sem] theorem Zpb : Tryz.prog.underlying 303=some (.slice 301):=kf
@[go_sem] theorem ZmE : Y6 Tryz.prog 303=some (none,7):=kf
@[go_sem] theorem ZlT : UT Tryz.prog 303=some 7:=kf
@[go_sem] theorem oD : Qs Tryz.prog 303=some (7,72):=kf
@[go_sem] theorem Zdz (H:List AM.Obj) (u:TypeId) (o n:Nat) (y:V):WO Tryz.prog H 303 u (.sl o 0 n n) y=V5 H (some (7,72)) (oat H o) o n (YB (Tryz.prog.underlying u) H y):=Yb oD
@[go_sem] theorem ZoW : YP Tryz.prog 309=some 3:=kf
@[go_sem] theorem Zmq : XH Tryz.prog 309=some true:=kf
@[go_sem] theorem mR : Tryz.prog.stoodInHeld 309=false:=kf
@[go_sem] theorem Zoz : BI Tryz.prog 309=some (BH [(0,1),(1,1),(2,1)]):=kf
@[go_sem] theorem ZmX (d:Nat) (a b:List PV):GQ Tryz.prog d 309 (Tryz.prog.underlying 309) (.agg a) (.agg b)=Ek (cW (Vi Tryz.prog d 3) (apart Tryz.prog 3 a 0) (apart Tryz.prog 3 b 0)) (Ek (cW (Vi Tryz.prog d 3) (apart Tryz.prog 3 a 1) (apart Tryz.prog 3 b 1)) (Ek (cW (Vi Tryz.prog d 3) (apart Tryz.prog 3 a 2) (apart Tryz.prog 3 b 2)) (some true))):=by rw [Tryz.underlying309,Qv mR];simp [Ac,BL]
@[go_sem] theorem Zm6 : Tryz.prog.eqGuardType Tryz.prog.depth 309=false:=kf
@[go_sem] theorem Zgu : Xc Tryz.prog 309=some [.int .i64 0,.int .i64 0,.int .i64 0]:=kf
@[go_sem] theorem ZoX : YP Tryz.prog 330=some 4:=kf
@[go_sem] theorem Zmr : XH Tryz.prog 330=some true:=kf
@[go_sem] theorem ZfW : ZQ Tryz.prog 330 0=some 0:=kf
@[go_sem] theorem ZfX : ZQ Tryz.prog 330 1=some 1:=kf
@[go_sem] theorem ZfY : ZQ Tryz.prog 330 2=some 2:=kf
@[go_sem] theorem ZfZ : ZQ Tryz.prog 330 3=some 3:=kf
@[go_sem] theorem ZoA : BI Tryz.prog 330=some (BH [(0,1),(1,1),(2,1),(3,1)]):=kf
@[go_sem] theorem Zgv : Xc Tryz.prog 330=some [.int .i64 0,.int .i64 0,.int .i64 0,.int .i64 0]:=kf
@[go_sem] theorem ZoY : YP Tryz.prog 335=some 4:=kf
@[go_sem] theorem Zms : XH Tryz.prog 335=some true:=kf
@[go_sem] theorem Zf0 : ZQ Tryz.prog 335 1=some 1:=kf
@[go_sem] theorem Zf1 : ZQ Tryz.prog 335 2=some 2:=kf
@[go_sem] theorem Zf2 : ZQ Tryz.prog 335 3=some 3:=kf
@[go_sem] theorem ZoB : BI Tryz.prog 335=some (BH [(0,1),(1,1),(2,1),(3,1)]):=kf
@[go_sem] theorem Zgw : Xc Tryz.prog 335=some [.int .i64 0,.int .i64 0,.int .i64 0,.bool false]:=kf
theorem Znp : Zi Tryz.prog 5:=fun args w=>Tryz.call5 args w
theorem Znq : Zi Tryz.prog 7:=fun args w=>Tryz.call7 args w
theorem ZhY : Zi Tryz.prog 10:=fun args w=>Tryz.call10 args w
theorem ZhZ : Zi Tryz.prog 11:=fun args w=>Tryz.call11 args w
theorem Zh0 : Zi Tryz.prog 13:=fun args w=>Tryz.call13 args w
theorem Zh1 : Zi Tryz.prog 14:=fun args w=>Tryz.call14 args w
theorem Zh2 : Zi Tryz.prog 15:=fun args w=>Tryz.call15 args w
theorem Zh3 : Zi Tryz.prog 18:=fun args w=>Tryz.call18 args w
theorem Zh4 : Zi Tryz.prog 19:=fun args w=>Tryz.call19 args w
theorem vI : Zi Tryz.prog 20:=fun args w=>Tryz.call20 args w
theorem Zh5 : Zi Tryz.prog 21:=fun args w=>Tryz.call21 args w
theorem Zh6 : Zi Tryz.prog 22:=fun args w=>Tryz.call22 args w
theorem Zh7 : Zi Tryz.prog 23:=fun args w=>Tryz.call23 args w
theorem Zh8 : Zi Tryz.prog 24:=fun args w=>Tryz.call24 args w
theorem Zh9 : Zi Tryz.prog 25:=fun args w=>Tryz.call25 args w
theorem Zia : Zi Tryz.prog 26:=fun args w=>Tryz.call26 args w
theorem Zib : Zi Tryz.prog 27:=fun args w=>Tryz.call27 args w
theorem Zic : Zi Tryz.prog 28:=fun args w=>Tryz.call28 args w
theorem Zid : Zi Tryz.prog 29:=fun args w=>Tryz.call29 args w
theorem Zie : Zi Tryz.prog 30:=fun args w=>Tryz.call30 args w
theorem Zif : Zi Tryz.prog 31:=fun args w=>Tryz.call31 args w
theorem Zig : Zi Tryz.prog 32:=fun args w=>Tryz.call32 args w
theorem Zih : Zi Tryz.prog 37:=fun args w=>Tryz.call37 args w
theorem Zii : Zi Tryz.prog 38:=fun args w=>Tryz.call38 args w
theorem Zij : Zi Tryz.prog 39:=fun args w=>Tryz.call39 args w
theorem Zik : Zi Tryz.prog 40:=fun args w=>Tryz.call40 args w
theorem Zil : Zi Tryz.prog 41:=fun args w=>Tryz.call41 args w
theorem Zim : Zi Tryz.prog 42:=fun args w=>Tryz.call42 args w
theorem Zin : Zi Tryz.prog 43:=fun args w=>Tryz.call43 args w
theorem Zio : Zi Tryz.prog 44:=fun args w=>Tryz.call44 args w
theorem Ziq : Zi Tryz.prog 45:=fun args w=>Tryz.call45 args w
theorem Zir : Zi Tryz.prog 46:=fun args w=>Tryz.call46 args w
theorem Zis : Zi Tryz.prog 47:=fun args w=>Tryz.call47 args w
theorem Zit : Zi Tryz.prog 48:=fun args w=>Tryz.call48 args w
theorem Ziu : Zi Tryz.prog 49:=fun args w=>Tryz.call49 args w
theorem Ziv : Zi Tryz.prog 50:=fun args w=>Tryz.call50 args w
theorem Ziw : Zi Tryz.prog 51:=fun args w=>Tryz.call51 args w
theorem Zix : Zi Tryz.prog 52:=fun args w=>Tryz.call52 args w
theorem Ziy : Zi Tryz.prog 53:=fun args w=>Tryz.call53 args w
theorem Ziz : Zi Tryz.prog 54:=fun args w=>Tryz.call54 args w
theorem ZiA : Zi Tryz.prog 55:=fun args w=>Tryz.call55 args w
theorem ZiB : Zi Tryz.prog 56:=fun args w=>Tryz.call56 args w
theorem ZiC : Zi Tryz.prog 57:=fun args w=>Tryz.call57 args w
theorem ZiD : Zi Tryz.prog 58:=fun args w=>Tryz.call58 args w
theorem ZiE : Zi Tryz.prog 59:=fun args w=>Tryz.call59 args w
theorem ZiF : Zi Tryz.prog 60:=fun args w=>Tryz.call60 args w
theorem ZiG : Zi Tryz.prog 61:=fun args w=>Tryz.call61 args w
theorem ZiH : Zi Tryz.prog 62:=fun args w=>Tryz.call62 args w
theorem ZiI : Zi Tryz.prog 63:=fun args w=>Tryz.call63 args w
theorem ZiJ : Zi Tryz.prog 64:=fun args w=>Tryz.call64 args w
theorem ZiK : Zi Tryz.prog 65:=fun args w=>Tryz.call65 args w
theorem vJ : Zi Tryz.prog 66:=fun args w=>Tryz.call66 args w
theorem ZiL : Zi Tryz.prog 67:=fun args w=>Tryz.call67 args w
theorem ZiM : Zi Tryz.prog 70:=fun args w=>Tryz.call70 args w
theorem ZiN : Zi Tryz.prog 71:=fun args w=>Tryz.call71 args w
theorem ZiO : Zi Tryz.prog 72:=fun args w=>Tryz.call72 args w
theorem ZiP : Zi Tryz.prog 73:=fun args w=>Tryz.call73 args w
theorem ZiQ : Zi Tryz.prog 74:=fun args w=>Tryz.call74 args w
theorem ZiR : Zi Tryz.prog 75:=fun args w=>Tryz.call75 args w
theorem ZiS : Zi Tryz.prog 76:=fun args w=>Tryz.call76 args w
theorem ZiT : Zi Tryz.prog 77:=fun args w=>Tryz.call77 args w
theorem ZiU : Zi Tryz.prog 78:=fun args w=>Tryz.call78 args w
theorem ZiV : Zi Tryz.prog 79:=fun args w=>Tryz.call79 args w
theorem ZiW : Zi Tryz.prog 80:=fun args w=>Tryz.call80 args w
theorem ZiX : Zi Tryz.prog 81:=fun args w=>Tryz.call81 args w
theorem ZiY : Zi Tryz.prog 82:=fun args w=>Tryz.call82 args w
theorem ZiZ : Zi Tryz.prog 83:=fun args w=>Tryz.call83 args w
theorem Zi0 : Zi Tryz.prog 84:=fun args w=>Tryz.call84 args w
theorem Zi1 : Zi Tryz.prog 85:=fun args w=>Tryz.call85 args w
theorem Zi2 : Zi Tryz.prog 86:=fun args w=>Tryz.call86 args w
theorem Zi3 : Zi Tryz.prog 87:=fun args w=>Tryz.call87 args w
theorem Zi4 : Zi Tryz.prog 88:=fun args w=>Tryz.call88 args w
theorem Zi5 : Zi Tryz.prog 91:=fun args w=>Tryz.call91 args w
theorem Zi6 : Zi Tryz.prog 92:=fun args w=>Tryz.call92 args w
theorem vK : Zi Tryz.prog 93:=fun args w=>Tryz.call93 args w
theorem Zi7 : Zi Tryz.prog 94:=fun args w=>Tryz.call94 args w
theorem Zi8 : Zi Tryz.prog 95:=fun args w=>Tryz.call95 args w
theorem Zi9 : Zi Tryz.prog 96:=fun args w=>Tryz.call96 args w
theorem Zja : Zi Tryz.prog 97:=fun args w=>Tryz.call97 args w
theorem Zjb : Zi Tryz.prog 98:=fun args w=>Tryz.call98 args w
theorem Zjc : Zi Tryz.prog 99:=fun args w=>Tryz.call99 args w
theorem zG : Zi Tryz.prog 100:=fun args w=>Tryz.call100 args w
theorem zH : Zi Tryz.prog 101:=fun args w=>Tryz.call101 args w
theorem zJ : Zi Tryz.prog 102:=fun args w=>Tryz.call102 args w
theorem zK : Zi Tryz.prog 103:=fun args w=>Tryz.call103 args w
theorem zL : Zi Tryz.prog 104:=fun args w=>Tryz.call104 args w
theorem zM : Zi Tryz.prog 105:=fun args w=>Tryz.call105 args w
theorem zN : Zi Tryz.prog 106:=fun args w=>Tryz.call106 args w
theorem zO : Zi Tryz.prog 107:=fun args w=>Tryz.call107 args w
theorem zP : Zi Tryz.prog 108:=fun args w=>Tryz.call108 args w
theorem iS : Zi Tryz.prog 109:=fun args w=>Tryz.call109 args w
theorem zQ : Zi Tryz.prog 110:=fun args w=>Tryz.call110 args w
theorem zR : Zi Tryz.prog 111:=fun args w=>Tryz.call111 args w
theorem zS : Zi Tryz.prog 113:=fun args w=>Tryz.call113 args w
theorem iT : Zi Tryz.prog 114:=fun args w=>Tryz.call114 args w
theorem zT : Zi Tryz.prog 115:=fun args w=>Tryz.call115 args w
theorem iU : Zi Tryz.prog 116:=fun args w=>Tryz.call116 args w
theorem zU : Zi Tryz.prog 127:=fun args w=>Tryz.call127 args w
theorem zV : Zi Tryz.prog 128:=fun args w=>Tryz.call128 args w
theorem zW : Zi Tryz.prog 129:=fun args w=>Tryz.call129 args w
theorem zX : Zi Tryz.prog 130:=fun args w=>Tryz.call130 args w
theorem zY : Zi Tryz.prog 131:=fun args w=>Tryz.call131 args w
theorem zZ : Zi Tryz.prog 132:=fun args w=>Tryz.call132 args w
theorem iV : Zi Tryz.prog 133:=fun args w=>Tryz.call133 args w
theorem iW : Zi Tryz.prog 134:=fun args w=>Tryz.call134 args w
theorem Zaa : Zi Tryz.prog 135:=fun args w=>Tryz.call135 args w
theorem Zab : Zi Tryz.prog 136:=fun args w=>Tryz.call136 args w
theorem Zac : Zi Tryz.prog 137:=fun args w=>Tryz.call137 args w
theorem Zad : Zi Tryz.prog 138:=fun args w=>Tryz.call138 args w
theorem Zae : Zi Tryz.prog 139:=fun args w=>Tryz.call139 args w
theorem Zaf : Zi Tryz.prog 140:=fun args w=>Tryz.call140 args w
theorem Zag : Zi Tryz.prog 141:=fun args w=>Tryz.call141 args w
theorem Zah : Zi Tryz.prog 142:=fun args w=>Tryz.call142 args w
theorem Zai : Zi Tryz.prog 143:=fun args w=>Tryz.call143 args w
theorem Zaj : Zi Tryz.prog 145:=fun args w=>Tryz.call145 args w
theorem Zak : Zi Tryz.prog 146:=fun args w=>Tryz.call146 args w
theorem Zal : Zi Tryz.prog 147:=fun args w=>Tryz.call147 args w
theorem Zam : Zi Tryz.prog 148:=fun args w=>Tryz.call148 args w
theorem Zan : Zi Tryz.prog 149:=fun args w=>Tryz.call149 args w
theorem Zao : Zi Tryz.prog 150:=fun args w=>Tryz.call150 args w
theorem Zap : Zi Tryz.prog 151:=fun args w=>Tryz.call151 args w
theorem Zaq : Zi Tryz.prog 152:=fun args w=>Tryz.call152 args w
theorem Zar : Zi Tryz.prog 153:=fun args w=>Tryz.call153 args w
theorem Zas : Zi Tryz.prog 154:=fun args w=>Tryz.call154 args w
theorem Zat : Zi Tryz.prog 155:=fun args w=>Tryz.call155 args w
theorem Zau : Zi Tryz.prog 156:=fun args w=>Tryz.call156 args w
theorem Zav : Zi Tryz.prog 162:=fun args w=>Tryz.call162 args w
theorem iX : Zi Tryz.prog 163:=fun args w=>Tryz.call163 args w
theorem Zaw : Zi Tryz.prog 164:=fun args w=>Tryz.call164 args w
theorem Zax : Zi Tryz.prog 165:=fun args w=>Tryz.call165 args w
theorem Zay : Zi Tryz.prog 166:=fun args w=>Tryz.call166 args w
theorem Zaz : Zi Tryz.prog 167:=fun args w=>Tryz.call167 args w
theorem ZaA : Zi Tryz.prog 168:=fun args w=>Tryz.call168 args w
theorem ZaB : Zi Tryz.prog 169:=fun args w=>Tryz.call169 args w
theorem ZaC : Zi Tryz.prog 170:=fun args w=>Tryz.call170 args w
theorem iY : Zi Tryz.prog 171:=fun args w=>Tryz.call171 args w
theorem ZaD : Zi Tryz.prog 172:=fun args w=>Tryz.call172 args w
theorem ZaE : Zi Tryz.prog 173:=fun args w=>Tryz.call173 args w
theorem ZaF : Zi Tryz.prog 174:=fun args w=>Tryz.call174 args w
theorem ZaG : Zi Tryz.prog 175:=fun args w=>Tryz.call175 args w
theorem ZaH : Zi Tryz.prog 176:=fun args w=>Tryz.call176 args w
theorem W7 : Zi Tryz.prog 186:=fun args w=>Tryz.call186 args w
theorem ZaI : Zi Tryz.prog 187:=fun args w=>Tryz.call187 args w
theorem ZaJ : Zi Tryz.prog 188:=fun args w=>Tryz.call188 args w
theorem ZaK : Zi Tryz.prog 189:=fun args w=>Tryz.call189 args w
theorem ZaL : Zi Tryz.prog 190:=fun args w=>Tryz.call190 args w
theorem ZaM : Zi Tryz.prog 191:=fun args w=>Tryz.call191 args w
theorem ZaN : Zi Tryz.prog 192:=fun args w=>Tryz.call192 args w
theorem ZaO : Zi Tryz.prog 193:=fun args w=>Tryz.call193 args w
theorem ZaP : Zi Tryz.prog 195:=fun args w=>Tryz.call195 args w
theorem ZaQ : Zi Tryz.prog 196:=fun args w=>Tryz.call196 args w
theorem ZaR : Zi Tryz.prog 197:=fun args w=>Tryz.call197 args w
theorem ZaS : Zi Tryz.prog 198:=fun args w=>Tryz.call198 args w
theorem ZaT : Zi Tryz.prog 199:=fun args w=>Tryz.call199 args w
theorem ZaU : Zi Tryz.prog 200:=fun args w=>Tryz.call200 args w
theorem ZaV : Zi Tryz.prog 204:=fun args w=>Tryz.call204 args w
theorem ZaW : Zi Tryz.prog 205:=fun args w=>Tryz.call205 args w
theorem ZaX : Zi Tryz.prog 206:=fun args w=>Tryz.call206 args w
theorem ZaY : Zi Tryz.prog 207:=fun args w=>Tryz.call207 args w
theorem iZ : Zi Tryz.prog 208:=fun args w=>Tryz.call208 args w
theorem ZaZ : Zi Tryz.prog 209:=fun args w=>Tryz.call209 args w
theorem Za0 : Zi Tryz.prog 210:=fun args w=>Tryz.call210 args w
theorem Za1 : Zi Tryz.prog 211:=fun args w=>Tryz.call211 args w
theorem Za2 : Zi Tryz.prog 212:=fun args w=>Tryz.call212 args w
theorem Za3 : Zi Tryz.prog 213:=fun args w=>Tryz.call213 args w
theorem Za4 : Zi Tryz.prog 214:=fun args w=>Tryz.call214 args w
theorem Za5 : Zi Tryz.prog 215:=fun args w=>Tryz.call215 args w
theorem Za6 : Zi Tryz.prog 216:=fun args w=>Tryz.call216 args w
theorem Za7 : Zi Tryz.prog 217:=fun args w=>Tryz.call217 args w
theorem Za8 : Zi Tryz.prog 218:=fun args w=>Tryz.call218 args w
theorem Za9 : Zi Tryz.prog 219:=fun args w=>Tryz.call219 args w
theorem Zba : Zi Tryz.prog 220:=fun args w=>Tryz.call220 args w
theorem Zbb : Zi Tryz.prog 221:=fun args w=>Tryz.call221 args w
theorem Zbc : Zi Tryz.prog 222:=fun args w=>Tryz.call222 args w
theorem Zbd : Zi Tryz.prog 223:=fun args w=>Tryz.call223 args w
theorem Zbe : Zi Tryz.prog 225:=fun args w=>Tryz.call225 args w
theorem Zbf : Zi Tryz.prog 226:=fun args w=>Tryz.call226 args w
theorem Zbg : Zi Tryz.prog 227:=fun args w=>Tryz.call227 args w
theorem Zbh : Zi Tryz.prog 228:=fun args w=>Tryz.call228 args w
theorem Zbi : Zi Tryz.prog 229:=fun args w=>Tryz.call229 args w
theorem Zbj : Zi Tryz.prog 230:=fun args w=>Tryz.call230 args w
theorem Zbk : Zi Tryz.prog 231:=fun args w=>Tryz.call231 args w
theorem Zbl : Zi Tryz.prog 232:=fun args w=>Tryz.call232 args w
theorem Zbm : Zi Tryz.prog 233:=fun args w=>Tryz.call233 args w
theorem Zbn : Zi Tryz.prog 234:=fun args w=>Tryz.call234 args w
theorem Zbo : Zi Tryz.prog 235:=fun args w=>Tryz.call235 args w
theorem Zbp : Zi Tryz.prog 236:=fun args w=>Tryz.call236 args w
theorem Zbq : Zi Tryz.prog 237:=fun args w=>Tryz.call237 args w
theorem Zbr : Zi Tryz.prog 238:=fun args w=>Tryz.call238 args w
theorem Zbs : Zi Tryz.prog 239:=fun args w=>Tryz.call239 args w
theorem Zbt : Zi Tryz.prog 240:=fun args w=>Tryz.call240 args w
theorem Zbu : Zi Tryz.prog 241:=fun args w=>Tryz.call241 args w
theorem Zbv : Zi Tryz.prog 242:=fun args w=>Tryz.call242 args w
theorem Zbw : Zi Tryz.prog 243:=fun args w=>Tryz.call243 args w
theorem Zbx : Zi Tryz.prog 244:=fun args w=>Tryz.call244 args w
theorem Zby : Zi Tryz.prog 245:=fun args w=>Tryz.call245 args w
theorem jA : Zi Tryz.prog 246:=fun args w=>Tryz.call246 args w
theorem Zbz : Zi Tryz.prog 247:=fun args w=>Tryz.call247 args w
theorem ZbA : Zi Tryz.prog 248:=fun args w=>Tryz.call248 args w
theorem ZbB : Zi Tryz.prog 249:=fun args w=>Tryz.call249 args w
theorem ZbC : Zi Tryz.prog 250:=fun args w=>Tryz.call250 args w
theorem ZbD : Zi Tryz.prog 251:=fun args w=>Tryz.call251 args w
theorem ZbE : Zi Tryz.prog 252:=fun args w=>Tryz.call252 args w
theorem ZbF : Zi Tryz.prog 253:=fun args w=>Tryz.call253 args w
theorem ZbG : Zi Tryz.prog 254:=fun args w=>Tryz.call254 args w
theorem ZbH : Zi Tryz.prog 255:=fun args w=>Tryz.call255 args w
theorem ZbI : Zi Tryz.prog 256:=fun args w=>Tryz.call256 args w
theorem ZbJ : Zi Tryz.prog 257:=fun args w=>Tryz.call257 args w
theorem ZbK : Zi Tryz.prog 258:=fun args w=>Tryz.call258 args w
theorem ZbL : Zi Tryz.prog 259:=fun args w=>Tryz.call259 args w
theorem ZbM : Zi Tryz.prog 260:=fun args w=>Tryz.call260 args w
theorem ZbN : Zi Tryz.prog 261:=fun args w=>Tryz.call261 args w
theorem ZbO : Zi Tryz.prog 262:=fun args w=>Tryz.call262 args w
theorem ZbP : Zi Tryz.prog 263:=fun args w=>Tryz.call263 args w
theorem ZbQ : Zi Tryz.prog 264:=fun args w=>Tryz.call264 args w
theorem ZbR : Zi Tryz.prog 265:=fun args w=>Tryz.call265 args w
theorem ZbS : Zi Tryz.prog 266:=fun args w=>Tryz.call266 args w
theorem ZbT : Zi Tryz.prog 267:=fun args w=>Tryz.call267 args w
theorem ZbU : Zi Tryz.prog 268:=fun args w=>Tryz.call268 args w
theorem ZbV : Zi Tryz.prog 269:=fun args w=>Tryz.call269 args w
theorem ZbW : Zi Tryz.prog 270:=fun args w=>Tryz.call270 args w
theorem ZbX : Zi Tryz.prog 271:=fun args w=>Tryz.call271 args w
theorem ZbY : Zi Tryz.prog 272:=fun args w=>Tryz.call272 args w
theorem ZbZ : Zi Tryz.prog 273:=fun args w=>Tryz.call273 args w
theorem Zb0 : Zi Tryz.prog 274:=fun args w=>Tryz.call274 args w
theorem Zb1 : Zi Tryz.prog 275:=fun args w=>Tryz.call275 args w
theorem Zb2 : Zi Tryz.prog 276:=fun args w=>Tryz.call276 args w
theorem Zb3 : Zi Tryz.prog 277:=fun args w=>Tryz.call277 args w
theorem Zb4 : Zi Tryz.prog 278:=fun args w=>Tryz.call278 args w
theorem Zb5 : Zi Tryz.prog 279:=fun args w=>Tryz.call279 args w
theorem Zb6 : Zi Tryz.prog 280:=fun args w=>Tryz.call280 args w
theorem Zb7 : Zi Tryz.prog 281:=fun args w=>Tryz.call281 args w
theorem Zb8 : Zi Tryz.prog 282:=fun args w=>Tryz.call282 args w
theorem Zb9 : Zi Tryz.prog 283:=fun args w=>Tryz.call283 args w
theorem Zca : Zi Tryz.prog 284:=fun args w=>Tryz.call284 args w
theorem Zcb : Zi Tryz.prog 285:=fun args w=>Tryz.call285 args w
theorem Zcc : Zi Tryz.prog 286:=fun args w=>Tryz.call286 args w
theorem Zcd : Zi Tryz.prog 287:=fun args w=>Tryz.call287 args w
theorem Zce : Zi Tryz.prog 288:=fun args w=>Tryz.call288 args w
theorem Zcf : Zi Tryz.prog 289:=fun args w=>Tryz.call289 args w
theorem Zcg : Zi Tryz.prog 290:=fun args w=>Tryz.call290 args w
theorem Zch : Zi Tryz.prog 291:=fun args w=>Tryz.call291 args w
theorem Zci : Zi Tryz.prog 292:=fun args w=>Tryz.call292 args w
theorem Zcj : Zi Tryz.prog 293:=fun args w=>Tryz.call293 args w
theorem Zck : Zi Tryz.prog 294:=fun args w=>Tryz.call294 args w
theorem Zcl : Zi Tryz.prog 295:=fun args w=>Tryz.call295 args w
theorem Zcm : Zi Tryz.prog 296:=fun args w=>Tryz.call296 args w
theorem Zcn : Zi Tryz.prog 297:=fun args w=>Tryz.call297 args w
theorem Zco : Zi Tryz.prog 298:=fun args w=>Tryz.call298 args w
theorem mixed : Tryz.prog.follows .mixedOrders=true:=Zg
end Go.Proofs.YtjkkdmeebhjaiaaGreatDoor.K
