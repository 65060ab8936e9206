/- Declarations that the closing texts need, part 5: joined by tools/slim.py. -/
import Derived.Test.YtjkkdmeebhjaiaaGreatDoorI4
import Derived.KernelRfl
import Derived.Test.YtjkkdmeebhjaiaaGreatDoorProg
namespace Go.Proofs.YtjkkdmeebhjaiaaGreatDoor.K
open Go Go.AM Go.Proofs
abbrev PC (f:FuncId) (a:List V) (y:PV):=ACalls Tryz.prog f a [] fun x H'=>x= .p y/\H'= []
abbrev PT (f:FuncId) (a:List V) (b:List V):=ACalls Tryz.prog f a [] fun x H'=>x= .tup b/\H'= []
theorem kf {α:Type} {a b:α} (h:a=b:=by kernel_rfl):a=b:=Zi h rfl
theorem Ze {p:Prop} (h:p:=by kernel_rfl):p:=h
@[go_sem] theorem Zmu : Tryz.prog.underlying 3=some (.int .i64):=kf
@[go_sem] theorem ZkO : YO Tryz.prog 3=some 1:=kf
@[go_sem] theorem ZlA : Xu Tryz.prog 3=some false:=kf
@[go_sem] theorem ZiM : Xd Tryz.prog 3=some [.int .i64 0]:=kf
@[go_sem] theorem Zmv : Tryz.prog.underlying 4=some .bool:=kf
@[go_sem] theorem Zmr : YO Tryz.prog 4=some 1:=kf
@[go_sem] theorem ZlB : Xu Tryz.prog 4=some false:=kf
@[go_sem] theorem Zmw : Tryz.prog.underlying 5=some (.int .u8):=kf
@[go_sem] theorem Zms : YO Tryz.prog 5=some 1:=kf
@[go_sem] theorem ZlC : Xu Tryz.prog 5=some false:=kf
@[go_sem] theorem Zmx : Tryz.prog.underlying 9=some .string:=kf
@[go_sem] theorem Zmt : YO Tryz.prog 9=some 1:=kf
@[go_sem] theorem ZlD : Xu Tryz.prog 9=some false:=kf
@[go_sem] theorem Zl6 : Tryz.prog.underlying 22=some (.slice 9):=kf
@[go_sem] theorem ZlL : YO Tryz.prog 22=some 1:=kf
@[go_sem] theorem ZjI : Xu Tryz.prog 22=some false:=kf
@[go_sem] theorem Zj2 : YX Tryz.prog 22=some (none,1):=kf
@[go_sem] theorem Zjq : V5 Tryz.prog 22=some 1:=kf
@[go_sem] theorem Zl7 : Tryz.prog.underlying 23=some (.slice 101):=kf
@[go_sem] theorem ZlM : YO Tryz.prog 23=some 1:=kf
@[go_sem] theorem ZjJ : Xu Tryz.prog 23=some false:=kf
@[go_sem] theorem Zj3 : YX Tryz.prog 23=some (none,6):=kf
@[go_sem] theorem ZlN : YO Tryz.prog 25=some 2:=kf
@[go_sem] theorem ZjK : Xu Tryz.prog 25=some true:=kf
@[go_sem] theorem Zf2 : ZQ Tryz.prog 25 0=some 0:=kf
@[go_sem] theorem Zf3 : ZQ Tryz.prog 25 1=some 1:=kf
@[go_sem] theorem ZlE : CC Tryz.prog 25=some (Cq [(0,1),(1,1)]):=kf
@[go_sem] theorem ZgL : Xd Tryz.prog 25=some [.list true [],.list true []]:=kf
@[go_sem] theorem Zl8 : Tryz.prog.underlying 26=some (.slice 63):=kf
@[go_sem] theorem ZlO : YO Tryz.prog 26=some 1:=kf
@[go_sem] theorem ZjL : Xu Tryz.prog 26=some false:=kf
@[go_sem] theorem Zj4 : YX Tryz.prog 26=some (none,14):=kf
@[go_sem] theorem Zjr : V5 Tryz.prog 26=some 14:=kf
@[go_sem] theorem qV : Qm Tryz.prog 26=some (14,136):=kf
@[go_sem] theorem ZcU (H:List AM.Obj) (u:TypeId) (o n:Nat) (y:V):WQ Tryz.prog H 26 u (.sl o 0 n n) y=VH H (some (14,136)) (oat H o) o n (YL (Tryz.prog.underlying u) H y):=X0 qV
@[go_sem] theorem Zl9 : Tryz.prog.underlying 27=some (.slice 67):=kf
@[go_sem] theorem ZlP : YO Tryz.prog 27=some 1:=kf
@[go_sem] theorem ZjM : Xu Tryz.prog 27=some false:=kf
@[go_sem] theorem Zj5 : YX Tryz.prog 27=some (none,16):=kf
@[go_sem] theorem Zjs : V5 Tryz.prog 27=some 16:=kf
@[go_sem] theorem qW : Qm Tryz.prog 27=some (16,152):=kf
@[go_sem] theorem ZcV (H:List AM.Obj) (u:TypeId) (o n:Nat) (y:V):WQ Tryz.prog H 27 u (.sl o 0 n n) y=VH H (some (16,152)) (oat H o) o n (YL (Tryz.prog.underlying u) H y):=X0 qW
@[go_sem] theorem Zma : Tryz.prog.underlying 28=some (.slice 89):=kf
@[go_sem] theorem ZlQ : YO Tryz.prog 28=some 1:=kf
@[go_sem] theorem ZjN : Xu Tryz.prog 28=some false:=kf
@[go_sem] theorem Zj6 : YX Tryz.prog 28=some (none,2):=kf
@[go_sem] theorem Zjt : V5 Tryz.prog 28=some 2:=kf
@[go_sem] theorem qX : Qm Tryz.prog 28=some (2,16):=kf
@[go_sem] theorem ZcW (H:List AM.Obj) (u:TypeId) (o n:Nat) (y:V):WQ Tryz.prog H 28 u (.sl o 0 n n) y=VH H (some (2,16)) (oat H o) o n (YL (Tryz.prog.underlying u) H y):=X0 qX
@[go_sem] theorem ZlR : YO Tryz.prog 30=some 6:=kf
@[go_sem] theorem ZjO : Xu Tryz.prog 30=some true:=kf
@[go_sem] theorem Zf4 : ZQ Tryz.prog 30 0=some 0:=kf
@[go_sem] theorem Zf5 : ZQ Tryz.prog 30 1=some 2:=kf
@[go_sem] theorem Zf6 : ZQ Tryz.prog 30 2=some 3:=kf
@[go_sem] theorem Zf7 : ZQ Tryz.prog 30 3=some 4:=kf
@[go_sem] theorem Zf8 : ZQ Tryz.prog 30 4=some 5:=kf
@[go_sem] theorem ZlF : CC Tryz.prog 30=some (Cq [(0,2),(2,1),(3,1),(4,1),(5,1)]):=kf
@[go_sem] theorem ZgM : Xd Tryz.prog 30=some [.list true [],.list true [],.list true [],.list true [],.list true [],.list true []]:=kf
@[go_sem] theorem Zmb : Tryz.prog.underlying 31=some (.slice 4):=kf
@[go_sem] theorem ZlS : YO Tryz.prog 31=some 1:=kf
@[go_sem] theorem ZjP : Xu Tryz.prog 31=some false:=kf
@[go_sem] theorem Zj7 : YX Tryz.prog 31=some (none,1):=kf
@[go_sem] theorem Zju : V5 Tryz.prog 31=some 1:=kf
@[go_sem] theorem lH : OV Tryz.prog 31=some (1,1,.bool false):=kf
@[go_sem] theorem Zlg (H:List AM.Obj) (fr:List V) (x y:Operand):Wt Tryz.prog (.makeSlice 31 x y) fr H=UY (some (1,1,.bool false)) H (ev fr x) (ev fr y):=DJ lH
@[go_sem] theorem Zmc : Tryz.prog.underlying 34=some (.slice 41):=kf
@[go_sem] theorem ZlT : YO Tryz.prog 34=some 1:=kf
@[go_sem] theorem ZjQ : Xu Tryz.prog 34=some false:=kf
@[go_sem] theorem Zj8 : YX Tryz.prog 34=some (none,2):=kf
@[go_sem] theorem Zjv : V5 Tryz.prog 34=some 2:=kf
@[go_sem] theorem qY : Qm Tryz.prog 34=some (2,16):=kf
@[go_sem] theorem ZcX (H:List AM.Obj) (u:TypeId) (o n:Nat) (y:V):WQ Tryz.prog H 34 u (.sl o 0 n n) y=VH H (some (2,16)) (oat H o) o n (YL (Tryz.prog.underlying u) H y):=X0 qY
@[go_sem] theorem ZgN : Xd Tryz.prog 34=some [.list true []]:=kf
@[go_sem] theorem ZlU : YO Tryz.prog 36=some 1:=kf
@[go_sem] theorem ZjR : Xu Tryz.prog 36=some false:=kf
@[go_sem] theorem ZlV : YO Tryz.prog 41=some 2:=kf
@[go_sem] theorem ZjS : Xu Tryz.prog 41=some true:=kf
@[go_sem] theorem Zf9 : ZQ Tryz.prog 41 0=some 0:=kf
@[go_sem] theorem Zga : ZQ Tryz.prog 41 1=some 1:=kf
@[go_sem] theorem nL : Tryz.prog.stoodInHeld 41=false:=kf
@[go_sem] theorem ZlG : CC Tryz.prog 41=some (Cq [(0,1),(1,1)]):=kf
@[go_sem] theorem Zld (d:Nat) (a b:List PV):K4 Tryz.prog d 41 (Tryz.prog.underlying 41) (.agg a) (.agg b)=QA (FL (Y1 Tryz.prog d 3) (apart Tryz.prog 3 a 0) (apart Tryz.prog 3 b 0)) (QA (FL (Y1 Tryz.prog d 3) (apart Tryz.prog 3 a 1) (apart Tryz.prog 3 b 1)) (some true)):=by rw [Tryz.underlying41,WI nL];simp [Ua,Qj]
@[go_sem] theorem Zls : Tryz.prog.eqGuardType Tryz.prog.depth 41=false:=kf
@[go_sem] theorem ZgO : Xd Tryz.prog 41=some [.int .i64 0,.int .i64 0]:=kf
@[go_sem] theorem Zmd : Tryz.prog.underlying 42=some (.slice 105):=kf
@[go_sem] theorem Zj9 : YX Tryz.prog 42=some (none,2):=kf
@[go_sem] theorem Zjw : V5 Tryz.prog 42=some 2:=kf
@[go_sem] theorem Tl : Qm Tryz.prog 42=some (2,24):=kf
@[go_sem] theorem ZcT (H:List AM.Obj) (u:TypeId) (y:V):WQ Tryz.prog H 42 u (.p (.list true [])) y=PP H (some (2,24)) (YL (Tryz.prog.underlying u) H y):=Ij Tl
@[go_sem] theorem ZcY (H:List AM.Obj) (u:TypeId) (o n:Nat) (y:V):WQ Tryz.prog H 42 u (.sl o 0 n n) y=VH H (some (2,24)) (oat H o) o n (YL (Tryz.prog.underlying u) H y):=X0 Tl
@[go_sem] theorem Zme : Tryz.prog.underlying 54=some (.slice 119):=kf
@[go_sem] theorem ZlW : YO Tryz.prog 54=some 1:=kf
@[go_sem] theorem ZjT : Xu Tryz.prog 54=some false:=kf
@[go_sem] theorem Zjx : V5 Tryz.prog 54=some 4:=kf
@[go_sem] theorem qZ : Qm Tryz.prog 54=some (4,64):=kf
@[go_sem] theorem ZcZ (H:List AM.Obj) (u:TypeId) (o n:Nat) (y:V):WQ Tryz.prog H 54 u (.sl o 0 n n) y=VH H (some (4,64)) (oat H o) o n (YL (Tryz.prog.underlying u) H y):=X0 qZ
@[go_sem] theorem Zmf : Tryz.prog.underlying 55=some (.slice 3):=kf
@[go_sem] theorem ZlX : YO Tryz.prog 55=some 1:=kf
@[go_sem] theorem ZjU : Xu Tryz.prog 55=some false:=kf
@[go_sem] theorem Zka : YX Tryz.prog 55=some (none,1):=kf
@[go_sem] theorem Zjy : V5 Tryz.prog 55=some 1:=kf
@[go_sem] theorem rA : Qm Tryz.prog 55=some (1,8):=kf
@[go_sem] theorem Zc0 (H:List AM.Obj) (u:TypeId) (o n:Nat) (y:V):WQ Tryz.prog H 55 u (.sl o 0 n n) y=VH H (some (1,8)) (oat H o) o n (YL (Tryz.prog.underlying u) H y):=X0 rA
@[go_sem] theorem lI : OV Tryz.prog 55=some (1,8,.int .i64 0):=kf
@[go_sem] theorem Zlh (H:List AM.Obj) (fr:List V) (x y:Operand):Wt Tryz.prog (.makeSlice 55 x y) fr H=UY (some (1,8,.int .i64 0)) H (ev fr x) (ev fr y):=DJ lI
@[go_sem] theorem ZlY : YO Tryz.prog 57=some 2:=kf
@[go_sem] theorem ZjV : Xu Tryz.prog 57=some true:=kf
@[go_sem] theorem Zgb : ZQ Tryz.prog 57 0=some 0:=kf
@[go_sem] theorem ZlH : CC Tryz.prog 57=some (Cq [(0,1),(1,1)]):=kf
@[go_sem] theorem ZgP : Xd Tryz.prog 57=some [.list true [],.list true []]:=kf
@[go_sem] theorem ZlZ : YO Tryz.prog 63=some 14:=kf
@[go_sem] theorem ZjW : Xu Tryz.prog 63=some true:=kf
@[go_sem] theorem Zgc : ZQ Tryz.prog 63 0=some 0:=kf
@[go_sem] theorem Zgd : ZQ Tryz.prog 63 1=some 1:=kf
@[go_sem] theorem Zge : ZQ Tryz.prog 63 2=some 2:=kf
@[go_sem] theorem Zgf : ZQ Tryz.prog 63 3=some 3:=kf
@[go_sem] theorem Zgg : ZQ Tryz.prog 63 4=some 4:=kf
@[go_sem] theorem Zgh : ZQ Tryz.prog 63 5=some 5:=kf
@[go_sem] theorem Zgi : ZQ Tryz.prog 63 6=some 6:=kf
@[go_sem] theorem Zgj : ZQ Tryz.prog 63 7=some 7:=kf
@[go_sem] theorem Zgk : ZQ Tryz.prog 63 8=some 8:=kf
@[go_sem] theorem Zgl : ZQ Tryz.prog 63 9=some 9:=kf
@[go_sem] theorem Zco : ZQ Tryz.prog 63 10=some 10:=kf
@[go_sem] theorem Zcp : ZQ Tryz.prog 63 11=some 11:=kf
@[go_sem] theorem Zcq : ZQ Tryz.prog 63 12=some 12:=kf
@[go_sem] theorem Zcr : ZQ Tryz.prog 63 13=some 13:=kf
@[go_sem] theorem ZlI : CC Tryz.prog 63=some (Cq [(0,1),(1,1),(2,1),(3,1),(4,1),(5,1),(6,1),(7,1),(8,1),(9,1),(10,1),(11,1),(12,1),(13,1)]):=kf
@[go_sem] theorem ZgQ : Xd Tryz.prog 63=some [.str [],.int .i64 0,.int .i64 0,.int .i64 0,.list true [],.int .i64 0,.int .i64 0,.int .i64 0,.int .i64 0,.int .i64 0,.int .i64 0,.int .i64 0,.int .i64 0,.int .i64 0]:=kf
@[go_sem] theorem Zl0 : YO Tryz.prog 65=some 4:=kf
@[go_sem] theorem ZjX : Xu Tryz.prog 65=some true:=kf
@[go_sem] theorem Zgm : ZQ Tryz.prog 65 0=some 0:=kf
@[go_sem] theorem Zgn : ZQ Tryz.prog 65 1=some 1:=kf
@[go_sem] theorem Zgo : ZQ Tryz.prog 65 2=some 2:=kf
@[go_sem] theorem Zgp : ZQ Tryz.prog 65 3=some 3:=kf
@[go_sem] theorem nM : Tryz.prog.stoodInHeld 65=false:=kf
@[go_sem] theorem ZlJ : CC Tryz.prog 65=some (Cq [(0,1),(1,1),(2,1),(3,1)]):=kf
@[go_sem] theorem Zle (d:Nat) (a b:List PV):K4 Tryz.prog d 65 (Tryz.prog.underlying 65) (.agg a) (.agg b)=QA (FL (Y1 Tryz.prog d 3) (apart Tryz.prog 3 a 0) (apart Tryz.prog 3 b 0)) (QA (FL (Y1 Tryz.prog d 3) (apart Tryz.prog 3 a 1) (apart Tryz.prog 3 b 1)) (QA (FL (Y1 Tryz.prog d 3) (apart Tryz.prog 3 a 2) (apart Tryz.prog 3 b 2)) (QA (FL (Y1 Tryz.prog d 3) (apart Tryz.prog 3 a 3) (apart Tryz.prog 3 b 3)) (some true)))):=by rw [Tryz.underlying65,WI nM];simp [Ua,Qj]
@[go_sem] theorem Zlt : Tryz.prog.eqGuardType Tryz.prog.depth 65=false:=kf
@[go_sem] theorem ZgR : Xd Tryz.prog 65=some [.int .i64 0,.int .i64 0,.int .i64 0,.int .i64 0]:=kf
@[go_sem] theorem Zl1 : YO Tryz.prog 67=some 16:=kf
@[go_sem] theorem ZjY : Xu Tryz.prog 67=some true:=kf
@[go_sem] theorem Zgq : ZQ Tryz.prog 67 0=some 0:=kf
@[go_sem] theorem Zgr : ZQ Tryz.prog 67 1=some 1:=kf
@[go_sem] theorem Zgs : ZQ Tryz.prog 67 2=some 2:=kf
@[go_sem] theorem Zgt : ZQ Tryz.prog 67 3=some 6:=kf
@[go_sem] theorem Zgu : ZQ Tryz.prog 67 4=some 10:=kf
@[go_sem] theorem Zgv : ZQ Tryz.prog 67 5=some 11:=kf
@[go_sem] theorem Zgw : ZQ Tryz.prog 67 6=some 12:=kf
@[go_sem] theorem Zgx : ZQ Tryz.prog 67 7=some 13:=kf
@[go_sem] theorem Zgy : ZQ Tryz.prog 67 8=some 14:=kf
@[go_sem] theorem Zgz : ZQ Tryz.prog 67 9=some 15:=kf
@[go_sem] theorem ZlK : CC Tryz.prog 67=some (Cq [(0,1),(1,1),(2,4),(6,4),(10,1),(11,1),(12,1),(13,1),(14,1),(15,1)]):=kf
@[go_sem] theorem ZgS : Xd Tryz.prog 67=some [.str [],.list true [],.int .i64 0,.int .i64 0,.int .i64 0,.int .i64 0,.int .i64 0,.int .i64 0,.int .i64 0,.int .i64 0,.int .i64 0,.int .i64 0,.int .i64 0,.int .i64 0,.int .i64 0,.bool false]:=kf
@[go_sem] theorem Zmg : Tryz.prog.underlying 84=some (.slice 121):=kf
@[go_sem] theorem Zl2 : YO Tryz.prog 84=some 1:=kf
@[go_sem] theorem ZjZ : Xu Tryz.prog 84=some false:=kf
@[go_sem] theorem Zkb : YX Tryz.prog 84=some (none,7):=kf
@[go_sem] theorem Zjz : V5 Tryz.prog 84=some 7:=kf
@[go_sem] theorem rB : Qm Tryz.prog 84=some (7,88):=kf
@[go_sem] theorem Zc1 (H:List AM.Obj) (u:TypeId) (o n:Nat) (y:V):WQ Tryz.prog H 84 u (.sl o 0 n n) y=VH H (some (7,88)) (oat H o) o n (YL (Tryz.prog.underlying u) H y):=X0 rB
@[go_sem] theorem Zmh : Tryz.prog.underlying 89=some (.array 2 3):=kf
@[go_sem] theorem Zl3 : YO Tryz.prog 89=some 2:=kf
@[go_sem] theorem Zj0 : Xu Tryz.prog 89=some true:=kf
@[go_sem] theorem Zkc : YX Tryz.prog 89=some ((some 2),1):=kf
@[go_sem] theorem Zlf (d:Nat) (a b:List PV):K4 Tryz.prog d 89 (some (.array 2 3)) (.agg a) (.agg b)=BT (Y1 Tryz.prog d 3) Tryz.prog 3 1 2 0 a b:=My ZkO
@[go_sem] theorem Zlu : Tryz.prog.eqGuardType Tryz.prog.depth 89=false:=kf
@[go_sem] theorem ZgT : Xd Tryz.prog 89=some [.int .i64 0,.int .i64 0]:=kf
@[go_sem] theorem Zmi : Tryz.prog.underlying 99=some (.slice 139):=kf
@[go_sem] theorem Zl4 : YO Tryz.prog 99=some 1:=kf
@[go_sem] theorem Zj1 : Xu Tryz.prog 99=some false:=kf
@[go_sem] theorem Zkd : YX Tryz.prog 99=some (none,2):=kf
@[go_sem] theorem Zkw : YO Tryz.prog 101=some 6:=kf
@[go_sem] theorem Zh2 : Xu Tryz.prog 101=some true:=kf
@[go_sem] theorem Zbw : ZQ Tryz.prog 101 0=some 0:=kf
@[go_sem] theorem Zbx : ZQ Tryz.prog 101 1=some 1:=kf
@[go_sem] theorem Zby : ZQ Tryz.prog 101 2=some 2:=kf
@[go_sem] theorem Zbz : ZQ Tryz.prog 101 3=some 3:=kf
@[go_sem] theorem ZbA : ZQ Tryz.prog 101 4=some 4:=kf
@[go_sem] theorem ZbB : ZQ Tryz.prog 101 5=some 5:=kf
@[go_sem] theorem Zkf : CC Tryz.prog 101=some (Cq [(0,1),(1,1),(2,1),(3,1),(4,1),(5,1)]):=kf
@[go_sem] theorem Zcy : Xd Tryz.prog 101=some [.int .i64 0,.int .i64 0,.int .i64 0,.int .i64 0,.list true [],.list true []]:=kf
@[go_sem] theorem ZbC : ZQ Tryz.prog 105 0=some 0:=kf
@[go_sem] theorem ZbD : ZQ Tryz.prog 105 1=some 1:=kf
@[go_sem] theorem Zkg : CC Tryz.prog 105=some (Cq [(0,1),(1,1)]):=kf
@[go_sem] theorem Zcz : Xd Tryz.prog 105=some [.int .i64 0,.str []]:=kf
@[go_sem] theorem ZkT : Tryz.prog.underlying 108=some (.slice 36):=kf
@[go_sem] theorem Zin : YX Tryz.prog 108=some (none,1):=kf
@[go_sem] theorem ZhH : V5 Tryz.prog 108=some 1:=kf
@[go_sem] theorem iF : Qm Tryz.prog 108=some (1,8):=kf
@[go_sem] theorem zO (H:List AM.Obj) (u:TypeId) (o n:Nat) (y:V):WQ Tryz.prog H 108 u (.sl o 0 n n) y=VH H (some (1,8)) (oat H o) o n (YL (Tryz.prog.underlying u) H y):=X0 iF
@[go_sem] theorem ZkU : Tryz.prog.underlying 117=some (.slice 211):=kf
@[go_sem] theorem Zkx : YO Tryz.prog 117=some 1:=kf
@[go_sem] theorem Zh3 : Xu Tryz.prog 117=some false:=kf
@[go_sem] theorem Zio : YX Tryz.prog 117=some (none,2):=kf
@[go_sem] theorem ZhI : V5 Tryz.prog 117=some 2:=kf
@[go_sem] theorem N4 : Qm Tryz.prog 117=some (2,16):=kf
@[go_sem] theorem zP (H:List AM.Obj) (u:TypeId) (o n:Nat) (y:V):WQ Tryz.prog H 117 u (.sl o 0 n n) y=VH H (some (2,16)) (oat H o) o n (YL (Tryz.prog.underlying u) H y):=X0 N4
@[go_sem] theorem Zky : YO Tryz.prog 119=some 4:=kf
@[go_sem] theorem Zh4 : Xu Tryz.prog 119=some true:=kf
@[go_sem] theorem ZbE : ZQ Tryz.prog 119 0=some 0:=kf
@[go_sem] theorem ZbF : ZQ Tryz.prog 119 1=some 1:=kf
@[go_sem] theorem ZbG : ZQ Tryz.prog 119 2=some 2:=kf
@[go_sem] theorem ZbH : ZQ Tryz.prog 119 3=some 3:=kf
@[go_sem] theorem Zkh : CC Tryz.prog 119=some (Cq [(0,1),(1,1),(2,1),(3,1)]):=kf
@[go_sem] theorem ZcA : Xd Tryz.prog 119=some [.int .i64 0,.int .i64 0,.list true [],.list true []]:=kf
@[go_sem] theorem Zkz : YO Tryz.prog 121=some 7:=kf
@[go_sem] theorem Zh5 : Xu Tryz.prog 121=some true:=kf
@[go_sem] theorem ZbI : ZQ Tryz.prog 121 0=some 0:=kf
@[go_sem] theorem ZbJ : ZQ Tryz.prog 121 1=some 1:=kf
@[go_sem] theorem ZbK : ZQ Tryz.prog 121 2=some 2:=kf
@[go_sem] theorem ZbL : ZQ Tryz.prog 121 3=some 3:=kf
@[go_sem] theorem Zki : CC Tryz.prog 121=some (Cq [(0,1),(1,1),(2,1),(3,4)]):=kf
@[go_sem] theorem ZcB : Xd Tryz.prog 121=some [.int .i64 0,.int .i64 0,.int .i64 0,.int .i64 0,.int .i64 0,.list true [],.list true []]:=kf
@[go_sem] theorem ZkV : Tryz.prog.underlying 132=some (.int .u64):=kf
@[go_sem] theorem ZkA : YO Tryz.prog 139=some 2:=kf
@[go_sem] theorem Zh6 : Xu Tryz.prog 139=some true:=kf
@[go_sem] theorem ZbM : ZQ Tryz.prog 139 0=some 0:=kf
@[go_sem] theorem ZbN : ZQ Tryz.prog 139 1=some 1:=kf
@[go_sem] theorem fP : Tryz.prog.stoodInHeld 139=false:=kf
@[go_sem] theorem ZiP (d:Nat) (a b:List PV):K4 Tryz.prog d 139 (Tryz.prog.underlying 139) (.agg a) (.agg b)=QA (FL (Y1 Tryz.prog d 3) (apart Tryz.prog 3 a 0) (apart Tryz.prog 3 b 0)) (QA (FL (Y1 Tryz.prog d 3) (apart Tryz.prog 3 a 1) (apart Tryz.prog 3 b 1)) (some true)):=by rw [Tryz.underlying139,WI fP];simp [Ua,Qj]
@[go_sem] theorem ZiZ : Tryz.prog.eqGuardType Tryz.prog.depth 139=false:=kf
@[go_sem] theorem ZcC : Xd Tryz.prog 139=some [.int .i64 0,.int .i64 0]:=kf
@[go_sem] theorem ZkW : Tryz.prog.underlying 145=some (.slice 5):=kf
@[go_sem] theorem ZhJ : V5 Tryz.prog 145=some 1:=kf
@[go_sem] theorem Ziq : YX Tryz.prog 150=some ((some 6),1):=kf
@[go_sem] theorem ZkB : YO Tryz.prog 152=some 8:=kf
@[go_sem] theorem Zh7 : Xu Tryz.prog 152=some true:=kf
@[go_sem] theorem ZbO : ZQ Tryz.prog 152 0=some 0:=kf
@[go_sem] theorem ZbP : ZQ Tryz.prog 152 1=some 1:=kf
@[go_sem] theorem ZbQ : ZQ Tryz.prog 152 2=some 2:=kf
@[go_sem] theorem Zkj : CC Tryz.prog 152=some (Cq [(0,1),(1,1),(2,6)]):=kf
@[go_sem] theorem ZcD : Xd Tryz.prog 152=some [.int .i64 0,.int .i64 0,.int .i64 0,.int .i64 0,.int .i64 0,.int .i64 0,.int .i64 0,.int .i64 0]:=kf
@[go_sem] theorem ZbR : ZQ Tryz.prog 182 0=some 0:=kf
@[go_sem] theorem ZbS : ZQ Tryz.prog 182 1=some 6:=kf
@[go_sem] theorem ZbT : ZQ Tryz.prog 182 2=some 7:=kf
@[go_sem] theorem ZbU : ZQ Tryz.prog 182 3=some 8:=kf
@[go_sem] theorem ZbV : ZQ Tryz.prog 182 4=some 9:=kf
@[go_sem] theorem ZbW : ZQ Tryz.prog 182 5=some 16:=kf
@[go_sem] theorem Zkk : CC Tryz.prog 182=some (Cq [(0,6),(6,1),(7,1),(8,1),(9,7),(16,1)]):=kf
@[go_sem] theorem ZcE : Xd Tryz.prog 182=some [.list true [],.list true [],.list true [],.list true [],.list true [],.list true [],.int .i64 0,.int .i64 0,.int .i64 0,.int .i64 0,.int .i64 0,.int .i64 0,.int .i64 0,.int .i64 0,.list true [],.list true [],.bool false]:=kf
@[go_sem] theorem ZkX : Tryz.prog.underlying 186=some (.slice 231):=kf
@[go_sem] theorem Zir : YX Tryz.prog 186=some (none,2):=kf
@[go_sem] theorem ZhK : V5 Tryz.prog 186=some 2:=kf
@[go_sem] theorem N5 : Qm Tryz.prog 186=some (2,16):=kf
@[go_sem] theorem zN (H:List AM.Obj) (u:TypeId) (y:V):WQ Tryz.prog H 186 u (.p (.list true [])) y=PP H (some (2,16)) (YL (Tryz.prog.underlying u) H y):=Ij N5
@[go_sem] theorem zQ (H:List AM.Obj) (u:TypeId) (o n:Nat) (y:V):WQ Tryz.prog H 186 u (.sl o 0 n n) y=VH H (some (2,16)) (oat H o) o n (YL (Tryz.prog.underlying u) H y):=X0 N5
@[go_sem] theorem ZkC : YO Tryz.prog 188=some 1:=kf
@[go_sem] theorem Zh8 : Xu Tryz.prog 188=some false:=kf
@[go_sem] theorem ZkD : YO Tryz.prog 190=some 1:=kf
@[go_sem] theorem Zh9 : Xu Tryz.prog 190=some false:=kf
@[go_sem] theorem Zis : YX Tryz.prog 190=some (none,1):=kf
@[go_sem] theorem ZbX : ZQ Tryz.prog 192 0=some 0:=kf
@[go_sem] theorem ZbY : ZQ Tryz.prog 192 1=some 6:=kf
@[go_sem] theorem ZbZ : ZQ Tryz.prog 192 2=some 7:=kf
@[go_sem] theorem Zb0 : ZQ Tryz.prog 192 3=some 8:=kf
@[go_sem] theorem Zb1 : ZQ Tryz.prog 192 4=some 9:=kf
@[go_sem] theorem Zkl : CC Tryz.prog 192=some (Cq [(0,6),(6,1),(7,1),(8,1),(9,1)]):=kf
@[go_sem] theorem ZcF : Xd Tryz.prog 192=some [.list true [],.list true [],.list true [],.list true [],.list true [],.list true [],.list true [],.list true [],.nilm,.int .i64 0]:=kf
@[go_sem] theorem ZkE : YO Tryz.prog 196=some 4:=kf
@[go_sem] theorem Zia : Xu Tryz.prog 196=some true:=kf
@[go_sem] theorem Zb2 : ZQ Tryz.prog 196 0=some 0:=kf
@[go_sem] theorem Zb3 : ZQ Tryz.prog 196 1=some 1:=kf
@[go_sem] theorem Zb4 : ZQ Tryz.prog 196 2=some 2:=kf
@[go_sem] theorem Zb5 : ZQ Tryz.prog 196 3=some 3:=kf
@[go_sem] theorem Zkm : CC Tryz.prog 196=some (Cq [(0,1),(1,1),(2,1),(3,1)]):=kf
@[go_sem] theorem ZcG : Xd Tryz.prog 196=some [.int .i64 0,.int .i64 0,.int .i64 0,.int .i64 0]:=kf
@[go_sem] theorem ZkF : YO Tryz.prog 207=some 1:=kf
@[go_sem] theorem Zib : Xu Tryz.prog 207=some false:=kf
@[go_sem] theorem ZkG : YO Tryz.prog 211=some 2:=kf
@[go_sem] theorem Zic : Xu Tryz.prog 211=some true:=kf
@[go_sem] theorem Zb6 : ZQ Tryz.prog 211 0=some 0:=kf
@[go_sem] theorem Zb7 : ZQ Tryz.prog 211 1=some 1:=kf
@[go_sem] theorem fQ : Tryz.prog.stoodInHeld 211=false:=kf
@[go_sem] theorem Zkn : CC Tryz.prog 211=some (Cq [(0,1),(1,1)]):=kf
@[go_sem] theorem ZiQ (d:Nat) (a b:List PV):K4 Tryz.prog d 211 (Tryz.prog.underlying 211) (.agg a) (.agg b)=QA (FL (Y1 Tryz.prog d 3) (apart Tryz.prog 3 a 0) (apart Tryz.prog 3 b 0)) (QA (FL (Y1 Tryz.prog d 4) (apart Tryz.prog 4 a 1) (apart Tryz.prog 4 b 1)) (some true)):=by rw [Tryz.underlying211,WI fQ];simp [Ua,Qj]
@[go_sem] theorem Zi0 : Tryz.prog.eqGuardType Tryz.prog.depth 211=false:=kf
@[go_sem] theorem ZcH : Xd Tryz.prog 211=some [.int .i64 0,.bool false]:=kf
@[go_sem] theorem ZkH : YO Tryz.prog 231=some 2:=kf
@[go_sem] theorem Zid : Xu Tryz.prog 231=some true:=kf
@[go_sem] theorem Zb8 : ZQ Tryz.prog 231 0=some 0:=kf
@[go_sem] theorem Zb9 : ZQ Tryz.prog 231 1=some 1:=kf
@[go_sem] theorem fR : Tryz.prog.stoodInHeld 231=false:=kf
@[go_sem] theorem Zko : CC Tryz.prog 231=some (Cq [(0,1),(1,1)]):=kf
@[go_sem] theorem ZiR (d:Nat) (a b:List PV):K4 Tryz.prog d 231 (Tryz.prog.underlying 231) (.agg a) (.agg b)=QA (FL (Y1 Tryz.prog d 3) (apart Tryz.prog 3 a 0) (apart Tryz.prog 3 b 0)) (QA (FL (Y1 Tryz.prog d 3) (apart Tryz.prog 3 a 1) (apart Tryz.prog 3 b 1)) (some true)):=by rw [Tryz.underlying231,WI fR];simp [Ua,Qj]
@[go_sem] theorem Zi1 : Tryz.prog.eqGuardType Tryz.prog.depth 231=false:=kf
@[go_sem] theorem ZcI : Xd Tryz.prog 231=some [.int .i64 0,.int .i64 0]:=kf
@[go_sem] theorem ZkI : YO Tryz.prog 236=some 2:=kf
@[go_sem] theorem Zie : Xu Tryz.prog 236=some true:=kf
@[go_sem] theorem Zkp : CC Tryz.prog 236=some (Cq [(0,1),(1,1)]):=kf
@[go_sem] theorem ZcJ : Xd Tryz.prog 236=some [.int .i64 0,.int .i64 0]:=kf
@[go_sem] theorem ZkY : Tryz.prog.underlying 237=some (.array 4 3):=kf
@[go_sem] theorem ZkJ : YO Tryz.prog 237=some 4:=kf
@[go_sem] theorem Zif : Xu Tryz.prog 237=some true:=kf
@[go_sem] theorem Zkq : CC Tryz.prog 237=some (plA 1):=kf
@[go_sem] theorem ZcK : Xd Tryz.prog 237=some [.int .i64 0,.int .i64 0,.int .i64 0,.int .i64 0]:=kf
@[go_sem] theorem ZkZ : Tryz.prog.underlying 247=some (.slice 335):=kf
@[go_sem] theorem ZkK : YO Tryz.prog 247=some 1:=kf
@[go_sem] theorem Zig : Xu Tryz.prog 247=some false:=kf
@[go_sem] theorem Zit : YX Tryz.prog 247=some (none,4):=kf
@[go_sem] theorem ZhL : V5 Tryz.prog 247=some 4:=kf
@[go_sem] theorem iG : Qm Tryz.prog 247=some (4,32):=kf
@[go_sem] theorem zR (H:List AM.Obj) (u:TypeId) (o n:Nat) (y:V):WQ Tryz.prog H 247 u (.sl o 0 n n) y=VH H (some (4,32)) (oat H o) o n (YL (Tryz.prog.underlying u) H y):=X0 iG
@[go_sem] theorem ZkL : YO Tryz.prog 249=some 5:=kf
@[go_sem] theorem Zih : Xu Tryz.prog 249=some true:=kf
@[go_sem] theorem Zca : ZQ Tryz.prog 249 0=some 0:=kf
@[go_sem] theorem Zcb : ZQ Tryz.prog 249 1=some 1:=kf
@[go_sem] theorem Zcc : ZQ Tryz.prog 249 2=some 2:=kf
@[go_sem] theorem Zcd : ZQ Tryz.prog 249 3=some 3:=kf
@[go_sem] theorem Zce : ZQ Tryz.prog 249 4=some 4:=kf
@[go_sem] theorem Zkr : CC Tryz.prog 249=some (Cq [(0,1),(1,1),(2,1),(3,1),(4,1)]):=kf
@[go_sem] theorem ZcL : Xd Tryz.prog 249=some [.bool false,.int .i64 0,.list true [],.int .i64 0,.int .i64 0]:=kf
@[go_sem] theorem Ziu : YX Tryz.prog 265=some ((some 64),1):=kf
@[go_sem] theorem Zk0 : Tryz.prog.underlying 271=some (.slice 207):=kf
@[go_sem] theorem Ziv : YX Tryz.prog 271=some (none,1):=kf
@[go_sem] theorem ZhM : V5 Tryz.prog 271=some 1:=kf
@[go_sem] theorem Zk1 : Tryz.prog.underlying 281=some (.slice 55):=kf
@[go_sem] theorem Ziw : YX Tryz.prog 281=some (none,1):=kf
@[go_sem] theorem ZhN : V5 Tryz.prog 281=some 1:=kf
@[go_sem] theorem iH : Qm Tryz.prog 281=some (1,24):=kf
@[go_sem] theorem zS (H:List AM.Obj) (u:TypeId) (o n:Nat) (y:V):WQ Tryz.prog H 281 u (.sl o 0 n n) y=VH H (some (1,24)) (oat H o) o n (YL (Tryz.prog.underlying u) H y):=X0 iH
@[go_sem] theorem Zk2 : Tryz.prog.underlying 295=some (.slice 65):=kf
@[go_sem] theorem ZkM : YO Tryz.prog 295=some 1:=kf
@[go_sem] theorem Zii : Xu Tryz.prog 295=some false:=kf
@[go_sem] theorem Zix : YX Tryz.prog 295=some (none,4):=kf
@[go_sem] theorem ZhO : V5 Tryz.prog 295=some 4:=kf
@[go_sem] theorem iI : Qm Tryz.prog 295=some (4,32):=kf
@[go_sem] theorem zT (H:List AM.Obj) (u:TypeId) (o n:Nat) (y:V):WQ Tryz.prog H 295 u (.sl o 0 n n) y=VH H (some (4,32)) (oat H o) o n (YL (Tryz.prog.underlying u) H y):=X0 iI
@[go_sem] theorem ZkN : YO Tryz.prog 297=some 25:=kf
@[go_sem] theorem Zij : Xu Tryz.prog 297=some true:=kf
@[go_sem] theorem Zcf : ZQ Tryz.prog 297 0=some 0:=kf
@[go_sem] theorem Zcg : ZQ Tryz.prog 297 1=some 6:=kf
@[go_sem] theorem Zch : ZQ Tryz.prog 297 2=some 20:=kf
@[go_sem] theorem Zci : ZQ Tryz.prog 297 3=some 24:=kf
@[go_sem] theorem Zks : CC Tryz.prog 297=some (Cq [(0,6),(6,14),(20,4),(24,1)]):=kf
@[go_sem] theorem ZcM : Xd Tryz.prog 297=some [.list true [],.list true [],.list true [],.list true [],.list true [],.list true [],.str [],.int .i64 0,.int .i64 0,.int .i64 0,.list true [],.int .i64 0,.int .i64 0,.int .i64 0,.int .i64 0,.int .i64 0,.int .i64 0,.int .i64 0,.int .i64 0,.int .i64 0,.int .i64 0,.int .i64 0,.list true [],.list true [],.list true []]:=kf
@[go_sem] theorem ZkP : YO Tryz.prog 301=some 7:=kf
@[go_sem] theorem Zik : Xu Tryz.prog 301=some true:=kf
@[go_sem] theorem Zcj : ZQ Tryz.prog 301 0=some 0:=kf
@[go_sem] theorem Zck : ZQ Tryz.prog 301 1=some 1:=kf
@[go_sem] theorem Zcl : ZQ Tryz.prog 301 2=some 2:=kf
@[go_sem] theorem Zkt : CC Tryz.prog 301=some (Cq [(0,1),(1,1),(2,5)]):=kf
@[go_sem] theorem ZcN : Xd Tryz.prog 301=some [.int .i64 0,.int .i64 0,.bool false,.int .i64 0,.list true [],.int .i64 0,.int .i64 0]:=kf
@[go_sem] theorem Zk3 : Tryz.prog.underlying 303=some (.slice 301):=kf
@[go_sem] theorem Ziy : YX Tryz.prog 303=some (none,7):=kf
@[go_sem] theorem ZhP : V5 Tryz.prog 303=some 7:=kf
@[go_sem] theorem iJ : Qm Tryz.prog 303=some (7,72):=kf
@[go_sem] theorem zU (H:List AM.Obj) (u:TypeId) (o n:Nat) (y:V):WQ Tryz.prog H 303 u (.sl o 0 n n) y=VH H (some (7,72)) (oat H o) o n (YL (Tryz.prog.underlying u) H y):=X0 iJ
@[go_sem] theorem ZkQ : YO Tryz.prog 309=some 3:=kf
@[go_sem] theorem Zil : Xu Tryz.prog 309=some true:=kf
@[go_sem] theorem fS : Tryz.prog.stoodInHeld 309=false:=kf
@[go_sem] theorem Zku : CC Tryz.prog 309=some (Cq [(0,1),(1,1),(2,1)]):=kf
@[go_sem] theorem ZiS (d:Nat) (a b:List PV):K4 Tryz.prog d 309 (Tryz.prog.underlying 309) (.agg a) (.agg b)=QA (FL (Y1 Tryz.prog d 3) (apart Tryz.prog 3 a 0) (apart Tryz.prog 3 b 0)) (QA (FL (Y1 Tryz.prog d 3) (apart Tryz.prog 3 a 1) (apart Tryz.prog 3 b 1)) (QA (FL (Y1 Tryz.prog d 3) (apart Tryz.prog 3 a 2) (apart Tryz.prog 3 b 2)) (some true))):=by rw [Tryz.underlying309,WI fS];simp [Ua,Qj]
@[go_sem] theorem Zi2 : Tryz.prog.eqGuardType Tryz.prog.depth 309=false:=kf
@[go_sem] theorem ZcO : Xd Tryz.prog 309=some [.int .i64 0,.int .i64 0,.int .i64 0]:=kf
@[go_sem] theorem Zcm : ZQ Tryz.prog 335 2=some 2:=kf
@[go_sem] theorem Zcn : ZQ Tryz.prog 335 3=some 3:=kf
@[go_sem] theorem Zkv : CC Tryz.prog 335=some (Cq [(0,1),(1,1),(2,1),(3,1)]):=kf
@[go_sem] theorem ZcP : Xd Tryz.prog 335=some [.int .i64 0,.int .i64 0,.int .i64 0,.bool false]:=kf
theorem Zjl : Zk Tryz.prog 3:=fun args w=>Tryz.call3 args w
theorem Zjm : Zk Tryz.prog 8:=fun args w=>Tryz.call8 args w
theorem Zjn : Zk Tryz.prog 9:=fun args w=>Tryz.call9 args w
theorem Zeg : Zk Tryz.prog 10:=fun args w=>Tryz.call10 args w
theorem Zeh : Zk Tryz.prog 11:=fun args w=>Tryz.call11 args w
theorem Zei : Zk Tryz.prog 12:=fun args w=>Tryz.call12 args w
theorem Zej : Zk Tryz.prog 13:=fun args w=>Tryz.call13 args w
theorem Zek : Zk Tryz.prog 14:=fun args w=>Tryz.call14 args w
theorem Zel : Zk Tryz.prog 27:=fun args w=>Tryz.call27 args w
theorem Zem : Zk Tryz.prog 28:=fun args w=>Tryz.call28 args w
theorem Zen : Zk Tryz.prog 29:=fun args w=>Tryz.call29 args w
theorem Zeo : Zk Tryz.prog 30:=fun args w=>Tryz.call30 args w
theorem Zep : Zk Tryz.prog 31:=fun args w=>Tryz.call31 args w
theorem Zeq : Zk Tryz.prog 32:=fun args w=>Tryz.call32 args w
theorem Zer : Zk Tryz.prog 33:=fun args w=>Tryz.call33 args w
theorem Zes : Zk Tryz.prog 34:=fun args w=>Tryz.call34 args w
theorem Zet : Zk Tryz.prog 35:=fun args w=>Tryz.call35 args w
theorem Zeu : Zk Tryz.prog 36:=fun args w=>Tryz.call36 args w
theorem Zev : Zk Tryz.prog 37:=fun args w=>Tryz.call37 args w
theorem Zew : Zk Tryz.prog 38:=fun args w=>Tryz.call38 args w
theorem Zex : Zk Tryz.prog 39:=fun args w=>Tryz.call39 args w
theorem Zey : Zk Tryz.prog 40:=fun args w=>Tryz.call40 args w
theorem Zez : Zk Tryz.prog 41:=fun args w=>Tryz.call41 args w
theorem ZeA : Zk Tryz.prog 42:=fun args w=>Tryz.call42 args w
theorem ZeB : Zk Tryz.prog 43:=fun args w=>Tryz.call43 args w
theorem ZeC : Zk Tryz.prog 46:=fun args w=>Tryz.call46 args w
theorem ZeD : Zk Tryz.prog 47:=fun args w=>Tryz.call47 args w
theorem ZeE : Zk Tryz.prog 56:=fun args w=>Tryz.call56 args w
theorem ZeF : Zk Tryz.prog 57:=fun args w=>Tryz.call57 args w
theorem ZeG : Zk Tryz.prog 58:=fun args w=>Tryz.call58 args w
theorem ZeH : Zk Tryz.prog 59:=fun args w=>Tryz.call59 args w
theorem ZeI : Zk Tryz.prog 60:=fun args w=>Tryz.call60 args w
theorem ZeJ : Zk Tryz.prog 61:=fun args w=>Tryz.call61 args w
theorem ZeK : Zk Tryz.prog 62:=fun args w=>Tryz.call62 args w
theorem ZeL : Zk Tryz.prog 63:=fun args w=>Tryz.call63 args w
theorem ZeM : Zk Tryz.prog 64:=fun args w=>Tryz.call64 args w
theorem ZeN : Zk Tryz.prog 65:=fun args w=>Tryz.call65 args w
theorem pI : Zk Tryz.prog 66:=fun args w=>Tryz.call66 args w
theorem ZeO : Zk Tryz.prog 67:=fun args w=>Tryz.call67 args w
theorem ZeP : Zk Tryz.prog 68:=fun args w=>Tryz.call68 args w
theorem ZeQ : Zk Tryz.prog 69:=fun args w=>Tryz.call69 args w
theorem ZeR : Zk Tryz.prog 70:=fun args w=>Tryz.call70 args w
theorem ZeS : Zk Tryz.prog 71:=fun args w=>Tryz.call71 args w
theorem ZeT : Zk Tryz.prog 72:=fun args w=>Tryz.call72 args w
theorem ZeU : Zk Tryz.prog 73:=fun args w=>Tryz.call73 args w
theorem ZeV : Zk Tryz.prog 74:=fun args w=>Tryz.call74 args w
theorem ZeW : Zk Tryz.prog 75:=fun args w=>Tryz.call75 args w
theorem ZeX : Zk Tryz.prog 76:=fun args w=>Tryz.call76 args w
theorem ZeY : Zk Tryz.prog 77:=fun args w=>Tryz.call77 args w
theorem ZeZ : Zk Tryz.prog 78:=fun args w=>Tryz.call78 args w
theorem Ze0 : Zk Tryz.prog 87:=fun args w=>Tryz.call87 args w
theorem Ze1 : Zk Tryz.prog 88:=fun args w=>Tryz.call88 args w
theorem Ze2 : Zk Tryz.prog 91:=fun args w=>Tryz.call91 args w
theorem Ze3 : Zk Tryz.prog 92:=fun args w=>Tryz.call92 args w
theorem pJ : Zk Tryz.prog 93:=fun args w=>Tryz.call93 args w
theorem Ze4 : Zk Tryz.prog 94:=fun args w=>Tryz.call94 args w
theorem Ze5 : Zk Tryz.prog 95:=fun args w=>Tryz.call95 args w
theorem Ze6 : Zk Tryz.prog 96:=fun args w=>Tryz.call96 args w
theorem Ze7 : Zk Tryz.prog 97:=fun args w=>Tryz.call97 args w
theorem Ze8 : Zk Tryz.prog 98:=fun args w=>Tryz.call98 args w
theorem Ze9 : Zk Tryz.prog 99:=fun args w=>Tryz.call99 args w
theorem sZ : Zk Tryz.prog 100:=fun args w=>Tryz.call100 args w
theorem tA : Zk Tryz.prog 101:=fun args w=>Tryz.call101 args w
theorem tB : Zk Tryz.prog 102:=fun args w=>Tryz.call102 args w
theorem tC : Zk Tryz.prog 103:=fun args w=>Tryz.call103 args w
theorem tD : Zk Tryz.prog 104:=fun args w=>Tryz.call104 args w
theorem tE : Zk Tryz.prog 105:=fun args w=>Tryz.call105 args w
theorem tF : Zk Tryz.prog 106:=fun args w=>Tryz.call106 args w
theorem tG : Zk Tryz.prog 107:=fun args w=>Tryz.call107 args w
theorem tH : Zk Tryz.prog 108:=fun args w=>Tryz.call108 args w
theorem bF : Zk Tryz.prog 109:=fun args w=>Tryz.call109 args w
theorem tI : Zk Tryz.prog 110:=fun args w=>Tryz.call110 args w
theorem tJ : Zk Tryz.prog 111:=fun args w=>Tryz.call111 args w
theorem tK : Zk Tryz.prog 127:=fun args w=>Tryz.call127 args w
theorem tL : Zk Tryz.prog 128:=fun args w=>Tryz.call128 args w
theorem tM : Zk Tryz.prog 129:=fun args w=>Tryz.call129 args w
theorem tN : Zk Tryz.prog 130:=fun args w=>Tryz.call130 args w
theorem tO : Zk Tryz.prog 131:=fun args w=>Tryz.call131 args w
theorem tP : Zk Tryz.prog 132:=fun args w=>Tryz.call132 args w
theorem bG : Zk Tryz.prog 133:=fun args w=>Tryz.call133 args w
theorem bH : Zk Tryz.prog 134:=fun args w=>Tryz.call134 args w
theorem tQ : Zk Tryz.prog 135:=fun args w=>Tryz.call135 args w
theorem tR : Zk Tryz.prog 136:=fun args w=>Tryz.call136 args w
theorem tS : Zk Tryz.prog 137:=fun args w=>Tryz.call137 args w
theorem tT : Zk Tryz.prog 138:=fun args w=>Tryz.call138 args w
theorem tU : Zk Tryz.prog 139:=fun args w=>Tryz.call139 args w
theorem tV : Zk Tryz.prog 140:=fun args w=>Tryz.call140 args w
theorem tW : Zk Tryz.prog 141:=fun args w=>Tryz.call141 args w
theorem tX : Zk Tryz.prog 142:=fun args w=>Tryz.call142 args w
theorem tY : Zk Tryz.prog 143:=fun args w=>Tryz.call143 args w
theorem tZ : Zk Tryz.prog 145:=fun args w=>Tryz.call145 args w
theorem uA : Zk Tryz.prog 162:=fun args w=>Tryz.call162 args w
theorem bI : Zk Tryz.prog 163:=fun args w=>Tryz.call163 args w
theorem uB : Zk Tryz.prog 164:=fun args w=>Tryz.call164 args w
theorem uC : Zk Tryz.prog 165:=fun args w=>Tryz.call165 args w
theorem uD : Zk Tryz.prog 166:=fun args w=>Tryz.call166 args w
theorem uE : Zk Tryz.prog 167:=fun args w=>Tryz.call167 args w
theorem uF : Zk Tryz.prog 168:=fun args w=>Tryz.call168 args w
theorem uG : Zk Tryz.prog 169:=fun args w=>Tryz.call169 args w
theorem uH : Zk Tryz.prog 170:=fun args w=>Tryz.call170 args w
theorem bJ : Zk Tryz.prog 171:=fun args w=>Tryz.call171 args w
theorem uI : Zk Tryz.prog 172:=fun args w=>Tryz.call172 args w
theorem uJ : Zk Tryz.prog 173:=fun args w=>Tryz.call173 args w
theorem uK : Zk Tryz.prog 174:=fun args w=>Tryz.call174 args w
theorem uL : Zk Tryz.prog 175:=fun args w=>Tryz.call175 args w
theorem uM : Zk Tryz.prog 176:=fun args w=>Tryz.call176 args w
theorem WB : Zk Tryz.prog 186:=fun args w=>Tryz.call186 args w
theorem uN : Zk Tryz.prog 195:=fun args w=>Tryz.call195 args w
theorem uO : Zk Tryz.prog 196:=fun args w=>Tryz.call196 args w
theorem uP : Zk Tryz.prog 197:=fun args w=>Tryz.call197 args w
theorem uQ : Zk Tryz.prog 198:=fun args w=>Tryz.call198 args w
theorem uR : Zk Tryz.prog 199:=fun args w=>Tryz.call199 args w
theorem uS : Zk Tryz.prog 200:=fun args w=>Tryz.call200 args w
theorem uT : Zk Tryz.prog 211:=fun args w=>Tryz.call211 args w
theorem uU : Zk Tryz.prog 212:=fun args w=>Tryz.call212 args w
theorem uV : Zk Tryz.prog 213:=fun args w=>Tryz.call213 args w
theorem uW : Zk Tryz.prog 214:=fun args w=>Tryz.call214 args w
theorem uX : Zk Tryz.prog 215:=fun args w=>Tryz.call215 args w
theorem uY : Zk Tryz.prog 216:=fun args w=>Tryz.call216 args w
theorem uZ : Zk Tryz.prog 217:=fun args w=>Tryz.call217 args w
theorem vA : Zk Tryz.prog 218:=fun args w=>Tryz.call218 args w
theorem vB : Zk Tryz.prog 219:=fun args w=>Tryz.call219 args w
theorem vC : Zk Tryz.prog 220:=fun args w=>Tryz.call220 args w
theorem vD : Zk Tryz.prog 221:=fun args w=>Tryz.call221 args w
theorem vE : Zk Tryz.prog 222:=fun args w=>Tryz.call222 args w
theorem vF : Zk Tryz.prog 223:=fun args w=>Tryz.call223 args w
theorem vG : Zk Tryz.prog 234:=fun args w=>Tryz.call234 args w
theorem vH : Zk Tryz.prog 235:=fun args w=>Tryz.call235 args w
theorem vI : Zk Tryz.prog 236:=fun args w=>Tryz.call236 args w
theorem vJ : Zk Tryz.prog 237:=fun args w=>Tryz.call237 args w
theorem vK : Zk Tryz.prog 238:=fun args w=>Tryz.call238 args w
theorem vL : Zk Tryz.prog 239:=fun args w=>Tryz.call239 args w
theorem vM : Zk Tryz.prog 240:=fun args w=>Tryz.call240 args w
theorem vN : Zk Tryz.prog 241:=fun args w=>Tryz.call241 args w
theorem vO : Zk Tryz.prog 242:=fun args w=>Tryz.call242 args w
theorem vP : Zk Tryz.prog 243:=fun args w=>Tryz.call243 args w
theorem vQ : Zk Tryz.prog 244:=fun args w=>Tryz.call244 args w
theorem vR : Zk Tryz.prog 245:=fun args w=>Tryz.call245 args w
theorem bK : Zk Tryz.prog 246:=fun args w=>Tryz.call246 args w
theorem vS : Zk Tryz.prog 247:=fun args w=>Tryz.call247 args w
theorem vT : Zk Tryz.prog 248:=fun args w=>Tryz.call248 args w
theorem vU : Zk Tryz.prog 249:=fun args w=>Tryz.call249 args w
theorem vV : Zk Tryz.prog 250:=fun args w=>Tryz.call250 args w
theorem vW : Zk Tryz.prog 251:=fun args w=>Tryz.call251 args w
theorem vX : Zk Tryz.prog 252:=fun args w=>Tryz.call252 args w
theorem vY : Zk Tryz.prog 253:=fun args w=>Tryz.call253 args w
theorem vZ : Zk Tryz.prog 254:=fun args w=>Tryz.call254 args w
theorem wA : Zk Tryz.prog 258:=fun args w=>Tryz.call258 args w
theorem wB : Zk Tryz.prog 259:=fun args w=>Tryz.call259 args w
theorem wC : Zk Tryz.prog 260:=fun args w=>Tryz.call260 args w
theorem wD : Zk Tryz.prog 261:=fun args w=>Tryz.call261 args w
theorem wE : Zk Tryz.prog 262:=fun args w=>Tryz.call262 args w
theorem wF : Zk Tryz.prog 263:=fun args w=>Tryz.call263 args w
theorem wG : Zk Tryz.prog 264:=fun args w=>Tryz.call264 args w
theorem wH : Zk Tryz.prog 265:=fun args w=>Tryz.call265 args w
theorem wI : Zk Tryz.prog 266:=fun args w=>Tryz.call266 args w
theorem wJ : Zk Tryz.prog 267:=fun args w=>Tryz.call267 args w
theorem wK : Zk Tryz.prog 268:=fun args w=>Tryz.call268 args w
theorem wL : Zk Tryz.prog 269:=fun args w=>Tryz.call269 args w
theorem wM : Zk Tryz.prog 270:=fun args w=>Tryz.call270 args w
theorem wN : Zk Tryz.prog 271:=fun args w=>Tryz.call271 args w
theorem wO : Zk Tryz.prog 272:=fun args w=>Tryz.call272 args w
theorem wP : Zk Tryz.prog 273:=fun args w=>Tryz.call273 args w
theorem wQ : Zk Tryz.prog 274:=fun args w=>Tryz.call274 args w
theorem wR : Zk Tryz.prog 279:=fun args w=>Tryz.call279 args w
theorem wS : Zk Tryz.prog 280:=fun args w=>Tryz.call280 args w
theorem wT : Zk Tryz.prog 281:=fun args w=>Tryz.call281 args w
theorem wU : Zk Tryz.prog 282:=fun args w=>Tryz.call282 args w
theorem wV : Zk Tryz.prog 283:=fun args w=>Tryz.call283 args w
theorem wW : Zk Tryz.prog 284:=fun args w=>Tryz.call284 args w
theorem wX : Zk Tryz.prog 285:=fun args w=>Tryz.call285 args w
theorem wY : Zk Tryz.prog 286:=fun args w=>Tryz.call286 args w
theorem wZ : Zk Tryz.prog 287:=fun args w=>Tryz.call287 args w
theorem xA : Zk Tryz.prog 290:=fun args w=>Tryz.call290 args w
theorem xB : Zk Tryz.prog 292:=fun args w=>Tryz.call292 args w
theorem xC : Zk Tryz.prog 296:=fun args w=>Tryz.call296 args w
theorem xD : Zk Tryz.prog 298:=fun args w=>Tryz.call298 args w
theorem mixed : Tryz.prog.follows .mixedOrders=true:=Ze
end Go.Proofs.YtjkkdmeebhjaiaaGreatDoor.K
