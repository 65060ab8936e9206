/- Declarations that the closing texts need, part 5: joined by tools/slim.py. -/
import Derived.Test.YtjkkdmeebhjaiaaGreatDoorH4
import Derived.KernelRfl
import Derived.Test.YtjkkdmeebhjaiaaGreatDoorProg
namespace Go.Proofs.YtjkkdmeebhjaiaaGreatDoor.K
open Go Go.AM Go.Proofs
abbrev PC (f:FuncId) (a:List V) (y:PV):=ACalls Tryz.prog f a [] fun x H'=>x= .p y/\H'= []
abbrev PT (f:FuncId) (a:List V) (b:List V):=ACalls Tryz.prog f a [] fun x H'=>x= .tup b/\H'= []
theorem kf {α:Type} {a b:α} (h:a=b:=by kernel_rfl):a=b:=Zm h rfl
theorem Zg {p:Prop} (h:p:=by kernel_rfl):p:=h
@[go_sem] theorem ZrD : Tryz.prog.underlying 3=some (.int .i64):=kf
@[go_sem] theorem Zrz : Wa Tryz.prog 3=some 1:=kf
@[go_sem] theorem ZqI : XT Tryz.prog 3=some false:=kf
@[go_sem] theorem ZnV : Xl Tryz.prog 3=some [.int .i64 0]:=kf
@[go_sem] theorem ZrE : Tryz.prog.underlying 4=some .bool:=kf
@[go_sem] theorem ZrA : Wa Tryz.prog 4=some 1:=kf
@[go_sem] theorem ZqJ : XT Tryz.prog 4=some false:=kf
@[go_sem] theorem ZrF : Tryz.prog.underlying 5=some (.int .u8):=kf
@[go_sem] theorem ZrB : Wa Tryz.prog 5=some 1:=kf
@[go_sem] theorem ZqK : XT Tryz.prog 5=some false:=kf
@[go_sem] theorem ZrG : Tryz.prog.underlying 9=some .string:=kf
@[go_sem] theorem ZrC : Wa Tryz.prog 9=some 1:=kf
@[go_sem] theorem ZqL : XT Tryz.prog 9=some false:=kf
@[go_sem] theorem Zre : Tryz.prog.underlying 22=some (.slice 9):=kf
@[go_sem] theorem ZqT : Wa Tryz.prog 22=some 1:=kf
@[go_sem] theorem ZoO : XT Tryz.prog 22=some false:=kf
@[go_sem] theorem Zo8 : Wu Tryz.prog 22=some (none,1):=kf
@[go_sem] theorem Zow : U5 Tryz.prog 22=some 1:=kf
@[go_sem] theorem zP : QG Tryz.prog 22=some (1,16):=kf
@[go_sem] theorem ZhJ (H:List AM.Obj) (u:TypeId) (o n:Nat) (y:V):W9 Tryz.prog H 22 u (.sl o 0 n n) y=Uq H (some (1,16)) (oat H o) o n (YM (Tryz.prog.underlying u) H y):=Yl zP
@[go_sem] theorem Zrf : Tryz.prog.underlying 23=some (.slice 101):=kf
@[go_sem] theorem ZqU : Wa Tryz.prog 23=some 1:=kf
@[go_sem] theorem ZoP : XT Tryz.prog 23=some false:=kf
@[go_sem] theorem Zo9 : Wu Tryz.prog 23=some (none,6):=kf
@[go_sem] theorem ZqV : Wa Tryz.prog 25=some 2:=kf
@[go_sem] theorem ZoQ : XT Tryz.prog 25=some true:=kf
@[go_sem] theorem Zk6 : ZX Tryz.prog 25 0=some 0:=kf
@[go_sem] theorem Zk7 : ZX Tryz.prog 25 1=some 1:=kf
@[go_sem] theorem ZqM : B0 Tryz.prog 25=some (BZ [(0,1),(1,1)]):=kf
@[go_sem] theorem ZlR : Xl Tryz.prog 25=some [.list true [],.list true []]:=kf
@[go_sem] theorem Zrg : Tryz.prog.underlying 26=some (.slice 63):=kf
@[go_sem] theorem ZqW : Wa Tryz.prog 26=some 1:=kf
@[go_sem] theorem ZoR : XT Tryz.prog 26=some false:=kf
@[go_sem] theorem Zpa : Wu Tryz.prog 26=some (none,14):=kf
@[go_sem] theorem Zox : U5 Tryz.prog 26=some 14:=kf
@[go_sem] theorem zQ : QG Tryz.prog 26=some (14,136):=kf
@[go_sem] theorem ZhK (H:List AM.Obj) (u:TypeId) (o n:Nat) (y:V):W9 Tryz.prog H 26 u (.sl o 0 n n) y=Uq H (some (14,136)) (oat H o) o n (YM (Tryz.prog.underlying u) H y):=Yl zQ
@[go_sem] theorem Zrh : Tryz.prog.underlying 27=some (.slice 67):=kf
@[go_sem] theorem ZqX : Wa Tryz.prog 27=some 1:=kf
@[go_sem] theorem ZoS : XT Tryz.prog 27=some false:=kf
@[go_sem] theorem Zpb : Wu Tryz.prog 27=some (none,16):=kf
@[go_sem] theorem Zoy : U5 Tryz.prog 27=some 16:=kf
@[go_sem] theorem zR : QG Tryz.prog 27=some (16,152):=kf
@[go_sem] theorem ZhL (H:List AM.Obj) (u:TypeId) (o n:Nat) (y:V):W9 Tryz.prog H 27 u (.sl o 0 n n) y=Uq H (some (16,152)) (oat H o) o n (YM (Tryz.prog.underlying u) H y):=Yl zR
@[go_sem] theorem Zri : Tryz.prog.underlying 28=some (.slice 89):=kf
@[go_sem] theorem ZqY : Wa Tryz.prog 28=some 1:=kf
@[go_sem] theorem ZoT : XT Tryz.prog 28=some false:=kf
@[go_sem] theorem Zpc : Wu Tryz.prog 28=some (none,2):=kf
@[go_sem] theorem Zoz : U5 Tryz.prog 28=some 2:=kf
@[go_sem] theorem zS : QG Tryz.prog 28=some (2,16):=kf
@[go_sem] theorem ZhM (H:List AM.Obj) (u:TypeId) (o n:Nat) (y:V):W9 Tryz.prog H 28 u (.sl o 0 n n) y=Uq H (some (2,16)) (oat H o) o n (YM (Tryz.prog.underlying u) H y):=Yl zS
@[go_sem] theorem ZqZ : Wa Tryz.prog 30=some 6:=kf
@[go_sem] theorem ZoU : XT Tryz.prog 30=some true:=kf
@[go_sem] theorem Zk8 : ZX Tryz.prog 30 0=some 0:=kf
@[go_sem] theorem Zk9 : ZX Tryz.prog 30 1=some 2:=kf
@[go_sem] theorem Zla : ZX Tryz.prog 30 2=some 3:=kf
@[go_sem] theorem Zlb : ZX Tryz.prog 30 3=some 4:=kf
@[go_sem] theorem Zlc : ZX Tryz.prog 30 4=some 5:=kf
@[go_sem] theorem ZqN : B0 Tryz.prog 30=some (BZ [(0,2),(2,1),(3,1),(4,1),(5,1)]):=kf
@[go_sem] theorem ZlS : Xl Tryz.prog 30=some [.list true [],.list true [],.list true [],.list true [],.list true [],.list true []]:=kf
@[go_sem] theorem Zrj : Tryz.prog.underlying 31=some (.slice 4):=kf
@[go_sem] theorem Zq0 : Wa Tryz.prog 31=some 1:=kf
@[go_sem] theorem ZoV : XT Tryz.prog 31=some false:=kf
@[go_sem] theorem Zpd : Wu Tryz.prog 31=some (none,1):=kf
@[go_sem] theorem ZoA : U5 Tryz.prog 31=some 1:=kf
@[go_sem] theorem zT : QG Tryz.prog 31=some (1,1):=kf
@[go_sem] theorem ZhG (H:List AM.Obj) (u:TypeId) (y:V):W9 Tryz.prog H 31 u (.p (.list true [])) y=MP H (some (1,1)) (YM (Tryz.prog.underlying u) H y):=B1 zT
@[go_sem] theorem tR : S5 Tryz.prog 31=some (1,1,.bool false):=kf
@[go_sem] theorem Zqp (H:List AM.Obj) (fr:List V) (x y:Operand):Ve Tryz.prog (.makeSlice 31 x y) fr H=Q5 (some (1,1,.bool false)) H (ev fr x) (ev fr y):=FB tR
@[go_sem] theorem Zrk : Tryz.prog.underlying 34=some (.slice 41):=kf
@[go_sem] theorem Zq1 : Wa Tryz.prog 34=some 1:=kf
@[go_sem] theorem ZoW : XT Tryz.prog 34=some false:=kf
@[go_sem] theorem Zpe : Wu Tryz.prog 34=some (none,2):=kf
@[go_sem] theorem ZoB : U5 Tryz.prog 34=some 2:=kf
@[go_sem] theorem zU : QG Tryz.prog 34=some (2,16):=kf
@[go_sem] theorem ZhN (H:List AM.Obj) (u:TypeId) (o n:Nat) (y:V):W9 Tryz.prog H 34 u (.sl o 0 n n) y=Uq H (some (2,16)) (oat H o) o n (YM (Tryz.prog.underlying u) H y):=Yl zU
@[go_sem] theorem ZlT : Xl Tryz.prog 34=some [.list true []]:=kf
@[go_sem] theorem Zq2 : Wa Tryz.prog 36=some 1:=kf
@[go_sem] theorem ZoX : XT Tryz.prog 36=some false:=kf
@[go_sem] theorem Zq3 : Wa Tryz.prog 41=some 2:=kf
@[go_sem] theorem ZoY : XT Tryz.prog 41=some true:=kf
@[go_sem] theorem Zld : ZX Tryz.prog 41 0=some 0:=kf
@[go_sem] theorem Zle : ZX Tryz.prog 41 1=some 1:=kf
@[go_sem] theorem vX : Tryz.prog.stoodInHeld 41=false:=kf
@[go_sem] theorem ZqO : B0 Tryz.prog 41=some (BZ [(0,1),(1,1)]):=kf
@[go_sem] theorem Zqo (d:Nat) (a b:List PV):Hi Tryz.prog d 41 (Tryz.prog.underlying 41) (.agg a) (.agg b)=EI (fH (VF Tryz.prog d 3) (apart Tryz.prog 3 a 0) (apart Tryz.prog 3 b 0)) (EI (fH (VF Tryz.prog d 3) (apart Tryz.prog 3 a 1) (apart Tryz.prog 3 b 1)) (some true)):=by rw [Tryz.underlying41,QL vX];simp [Ar,B3]
@[go_sem] theorem ZqC : Tryz.prog.eqGuardType Tryz.prog.depth 41=false:=kf
@[go_sem] theorem ZlU : Xl Tryz.prog 41=some [.int .i64 0,.int .i64 0]:=kf
@[go_sem] theorem Zrl : Tryz.prog.underlying 42=some (.slice 105):=kf
@[go_sem] theorem Zpf : Wu Tryz.prog 42=some (none,2):=kf
@[go_sem] theorem ZoC : U5 Tryz.prog 42=some 2:=kf
@[go_sem] theorem gQ : QG Tryz.prog 42=some (2,24):=kf
@[go_sem] theorem ZhH (H:List AM.Obj) (u:TypeId) (y:V):W9 Tryz.prog H 42 u (.p (.list true [])) y=MP H (some (2,24)) (YM (Tryz.prog.underlying u) H y):=B1 gQ
@[go_sem] theorem ZhO (H:List AM.Obj) (u:TypeId) (o n:Nat) (y:V):W9 Tryz.prog H 42 u (.sl o 0 n n) y=Uq H (some (2,24)) (oat H o) o n (YM (Tryz.prog.underlying u) H y):=Yl gQ
@[go_sem] theorem Zrm : Tryz.prog.underlying 54=some (.slice 119):=kf
@[go_sem] theorem Zq4 : Wa Tryz.prog 54=some 1:=kf
@[go_sem] theorem ZoZ : XT Tryz.prog 54=some false:=kf
@[go_sem] theorem ZoD : U5 Tryz.prog 54=some 4:=kf
@[go_sem] theorem zV : QG Tryz.prog 54=some (4,64):=kf
@[go_sem] theorem ZhP (H:List AM.Obj) (u:TypeId) (o n:Nat) (y:V):W9 Tryz.prog H 54 u (.sl o 0 n n) y=Uq H (some (4,64)) (oat H o) o n (YM (Tryz.prog.underlying u) H y):=Yl zV
@[go_sem] theorem Zrn : Tryz.prog.underlying 55=some (.slice 3):=kf
@[go_sem] theorem Zq5 : Wa Tryz.prog 55=some 1:=kf
@[go_sem] theorem Zo0 : XT Tryz.prog 55=some false:=kf
@[go_sem] theorem Zpg : Wu Tryz.prog 55=some (none,1):=kf
@[go_sem] theorem ZoE : U5 Tryz.prog 55=some 1:=kf
@[go_sem] theorem gS : QG Tryz.prog 55=some (1,8):=kf
@[go_sem] theorem ZhI (H:List AM.Obj) (u:TypeId) (y:V):W9 Tryz.prog H 55 u (.p (.list true [])) y=MP H (some (1,8)) (YM (Tryz.prog.underlying u) H y):=B1 gS
@[go_sem] theorem ZhQ (H:List AM.Obj) (u:TypeId) (o n:Nat) (y:V):W9 Tryz.prog H 55 u (.sl o 0 n n) y=Uq H (some (1,8)) (oat H o) o n (YM (Tryz.prog.underlying u) H y):=Yl gS
@[go_sem] theorem tS : S5 Tryz.prog 55=some (1,8,.int .i64 0):=kf
@[go_sem] theorem Zqq (H:List AM.Obj) (fr:List V) (x y:Operand):Ve Tryz.prog (.makeSlice 55 x y) fr H=Q5 (some (1,8,.int .i64 0)) H (ev fr x) (ev fr y):=FB tS
@[go_sem] theorem Zq6 : Wa Tryz.prog 57=some 2:=kf
@[go_sem] theorem Zo1 : XT Tryz.prog 57=some true:=kf
@[go_sem] theorem Zlf : ZX Tryz.prog 57 0=some 0:=kf
@[go_sem] theorem Zlg : ZX Tryz.prog 57 1=some 1:=kf
@[go_sem] theorem ZqP : B0 Tryz.prog 57=some (BZ [(0,1),(1,1)]):=kf
@[go_sem] theorem ZlV : Xl Tryz.prog 57=some [.list true [],.list true []]:=kf
@[go_sem] theorem Zq7 : Wa Tryz.prog 63=some 14:=kf
@[go_sem] theorem Zo2 : XT Tryz.prog 63=some true:=kf
@[go_sem] theorem Zlh : ZX Tryz.prog 63 0=some 0:=kf
@[go_sem] theorem Zli : ZX Tryz.prog 63 1=some 1:=kf
@[go_sem] theorem Zlj : ZX Tryz.prog 63 2=some 2:=kf
@[go_sem] theorem Zlk : ZX Tryz.prog 63 3=some 3:=kf
@[go_sem] theorem Zll : ZX Tryz.prog 63 4=some 4:=kf
@[go_sem] theorem Zlm : ZX Tryz.prog 63 5=some 5:=kf
@[go_sem] theorem Zln : ZX Tryz.prog 63 6=some 6:=kf
@[go_sem] theorem Zlo : ZX Tryz.prog 63 7=some 7:=kf
@[go_sem] theorem Zlp : ZX Tryz.prog 63 8=some 8:=kf
@[go_sem] theorem Zlq : ZX Tryz.prog 63 9=some 9:=kf
@[go_sem] theorem Zg7 : ZX Tryz.prog 63 10=some 10:=kf
@[go_sem] theorem Zg8 : ZX Tryz.prog 63 11=some 11:=kf
@[go_sem] theorem Zg9 : ZX Tryz.prog 63 12=some 12:=kf
@[go_sem] theorem Zha : ZX Tryz.prog 63 13=some 13:=kf
@[go_sem] theorem ZqQ : B0 Tryz.prog 63=some (BZ [(0,1),(1,1),(2,1),(3,1),(4,1),(5,1),(6,1),(7,1),(8,1),(9,1),(10,1),(11,1),(12,1),(13,1)]):=kf
@[go_sem] theorem ZlW : Xl Tryz.prog 63=some [.str [],.int .i64 0,.int .i64 0,.int .i64 0,.list true [],.int .i64 0,.int .i64 0,.int .i64 0,.int .i64 0,.int .i64 0,.int .i64 0,.int .i64 0,.int .i64 0,.int .i64 0]:=kf
@[go_sem] theorem Zq8 : Wa Tryz.prog 65=some 4:=kf
@[go_sem] theorem Zo3 : XT Tryz.prog 65=some true:=kf
@[go_sem] theorem Zlr : ZX Tryz.prog 65 0=some 0:=kf
@[go_sem] theorem Zls : ZX Tryz.prog 65 1=some 1:=kf
@[go_sem] theorem Zlt : ZX Tryz.prog 65 2=some 2:=kf
@[go_sem] theorem Zlu : ZX Tryz.prog 65 3=some 3:=kf
@[go_sem] theorem ZqR : B0 Tryz.prog 65=some (BZ [(0,1),(1,1),(2,1),(3,1)]):=kf
@[go_sem] theorem ZlX : Xl Tryz.prog 65=some [.int .i64 0,.int .i64 0,.int .i64 0,.int .i64 0]:=kf
@[go_sem] theorem Zq9 : Wa Tryz.prog 67=some 16:=kf
@[go_sem] theorem Zo4 : XT Tryz.prog 67=some true:=kf
@[go_sem] theorem Zlv : ZX Tryz.prog 67 0=some 0:=kf
@[go_sem] theorem Zlw : ZX Tryz.prog 67 1=some 1:=kf
@[go_sem] theorem Zlx : ZX Tryz.prog 67 2=some 2:=kf
@[go_sem] theorem Zly : ZX Tryz.prog 67 3=some 6:=kf
@[go_sem] theorem Zlz : ZX Tryz.prog 67 4=some 10:=kf
@[go_sem] theorem ZlA : ZX Tryz.prog 67 5=some 11:=kf
@[go_sem] theorem ZlB : ZX Tryz.prog 67 6=some 12:=kf
@[go_sem] theorem ZlC : ZX Tryz.prog 67 7=some 13:=kf
@[go_sem] theorem ZlD : ZX Tryz.prog 67 8=some 14:=kf
@[go_sem] theorem ZlE : ZX Tryz.prog 67 9=some 15:=kf
@[go_sem] theorem ZqS : B0 Tryz.prog 67=some (BZ [(0,1),(1,1),(2,4),(6,4),(10,1),(11,1),(12,1),(13,1),(14,1),(15,1)]):=kf
@[go_sem] theorem ZlY : Xl Tryz.prog 67=some [.str [],.list true [],.int .i64 0,.int .i64 0,.int .i64 0,.int .i64 0,.int .i64 0,.int .i64 0,.int .i64 0,.int .i64 0,.int .i64 0,.int .i64 0,.int .i64 0,.int .i64 0,.int .i64 0,.bool false]:=kf
@[go_sem] theorem Zro : Tryz.prog.underlying 84=some (.slice 121):=kf
@[go_sem] theorem Zra : Wa Tryz.prog 84=some 1:=kf
@[go_sem] theorem Zo5 : XT Tryz.prog 84=some false:=kf
@[go_sem] theorem Zph : Wu Tryz.prog 84=some (none,7):=kf
@[go_sem] theorem ZoF : U5 Tryz.prog 84=some 7:=kf
@[go_sem] theorem zW : QG Tryz.prog 84=some (7,88):=kf
@[go_sem] theorem ZhR (H:List AM.Obj) (u:TypeId) (o n:Nat) (y:V):W9 Tryz.prog H 84 u (.sl o 0 n n) y=Uq H (some (7,88)) (oat H o) o n (YM (Tryz.prog.underlying u) H y):=Yl zW
@[go_sem] theorem Zrb : Wa Tryz.prog 89=some 2:=kf
@[go_sem] theorem Zo6 : XT Tryz.prog 89=some true:=kf
@[go_sem] theorem Zpi : Wu Tryz.prog 89=some ((some 2),1):=kf
@[go_sem] theorem ZlZ : Xl Tryz.prog 89=some [.int .i64 0,.int .i64 0]:=kf
@[go_sem] theorem Zrp : Tryz.prog.underlying 99=some (.slice 139):=kf
@[go_sem] theorem Zrc : Wa Tryz.prog 99=some 1:=kf
@[go_sem] theorem Zo7 : XT Tryz.prog 99=some false:=kf
@[go_sem] theorem Zpj : Wu Tryz.prog 99=some (none,2):=kf
@[go_sem] theorem ZpF : Wa Tryz.prog 101=some 6:=kf
@[go_sem] theorem Zm9 : XT Tryz.prog 101=some true:=kf
@[go_sem] theorem Zf4 : ZX Tryz.prog 101 0=some 0:=kf
@[go_sem] theorem Zf5 : ZX Tryz.prog 101 1=some 1:=kf
@[go_sem] theorem Zf6 : ZX Tryz.prog 101 2=some 2:=kf
@[go_sem] theorem Zf7 : ZX Tryz.prog 101 3=some 3:=kf
@[go_sem] theorem Zf8 : ZX Tryz.prog 101 4=some 4:=kf
@[go_sem] theorem Zf9 : ZX Tryz.prog 101 5=some 5:=kf
@[go_sem] theorem Zpl : B0 Tryz.prog 101=some (BZ [(0,1),(1,1),(2,1),(3,1),(4,1),(5,1)]):=kf
@[go_sem] theorem Zhg : Xl Tryz.prog 101=some [.int .i64 0,.int .i64 0,.int .i64 0,.int .i64 0,.list true [],.list true []]:=kf
@[go_sem] theorem Zga : ZX Tryz.prog 105 0=some 0:=kf
@[go_sem] theorem Zgb : ZX Tryz.prog 105 1=some 1:=kf
@[go_sem] theorem Zpm : B0 Tryz.prog 105=some (BZ [(0,1),(1,1)]):=kf
@[go_sem] theorem Zhh : Xl Tryz.prog 105=some [.int .i64 0,.str []]:=kf
@[go_sem] theorem Zp4 : Tryz.prog.underlying 108=some (.slice 36):=kf
@[go_sem] theorem Znx : Wu Tryz.prog 108=some (none,1):=kf
@[go_sem] theorem ZmO : U5 Tryz.prog 108=some 1:=kf
@[go_sem] theorem qV : QG Tryz.prog 108=some (1,8):=kf
@[go_sem] theorem Zex (H:List AM.Obj) (u:TypeId) (o n:Nat) (y:V):W9 Tryz.prog H 108 u (.sl o 0 n n) y=Uq H (some (1,8)) (oat H o) o n (YM (Tryz.prog.underlying u) H y):=Yl qV
@[go_sem] theorem Zp5 : Tryz.prog.underlying 117=some (.slice 211):=kf
@[go_sem] theorem ZpG : Wa Tryz.prog 117=some 1:=kf
@[go_sem] theorem Zna : XT Tryz.prog 117=some false:=kf
@[go_sem] theorem Zny : Wu Tryz.prog 117=some (none,2):=kf
@[go_sem] theorem ZmP : U5 Tryz.prog 117=some 2:=kf
@[go_sem] theorem R7 : QG Tryz.prog 117=some (2,16):=kf
@[go_sem] theorem Zey (H:List AM.Obj) (u:TypeId) (o n:Nat) (y:V):W9 Tryz.prog H 117 u (.sl o 0 n n) y=Uq H (some (2,16)) (oat H o) o n (YM (Tryz.prog.underlying u) H y):=Yl R7
@[go_sem] theorem ZpH : Wa Tryz.prog 119=some 4:=kf
@[go_sem] theorem Znb : XT Tryz.prog 119=some true:=kf
@[go_sem] theorem Zgc : ZX Tryz.prog 119 0=some 0:=kf
@[go_sem] theorem Zgd : ZX Tryz.prog 119 1=some 1:=kf
@[go_sem] theorem Zge : ZX Tryz.prog 119 2=some 2:=kf
@[go_sem] theorem Zgf : ZX Tryz.prog 119 3=some 3:=kf
@[go_sem] theorem Zpn : B0 Tryz.prog 119=some (BZ [(0,1),(1,1),(2,1),(3,1)]):=kf
@[go_sem] theorem Zhi : Xl Tryz.prog 119=some [.int .i64 0,.int .i64 0,.list true [],.list true []]:=kf
@[go_sem] theorem ZpI : Wa Tryz.prog 121=some 7:=kf
@[go_sem] theorem Znc : XT Tryz.prog 121=some true:=kf
@[go_sem] theorem Zgg : ZX Tryz.prog 121 0=some 0:=kf
@[go_sem] theorem Zgh : ZX Tryz.prog 121 1=some 1:=kf
@[go_sem] theorem Zgi : ZX Tryz.prog 121 2=some 2:=kf
@[go_sem] theorem Zgj : ZX Tryz.prog 121 3=some 3:=kf
@[go_sem] theorem Zpo : B0 Tryz.prog 121=some (BZ [(0,1),(1,1),(2,1),(3,4)]):=kf
@[go_sem] theorem Zhj : Xl Tryz.prog 121=some [.int .i64 0,.int .i64 0,.int .i64 0,.int .i64 0,.int .i64 0,.list true [],.list true []]:=kf
@[go_sem] theorem ZpJ : Wa Tryz.prog 125=some 3:=kf
@[go_sem] theorem Znd : XT Tryz.prog 125=some true:=kf
@[go_sem] theorem Zgk : ZX Tryz.prog 125 0=some 0:=kf
@[go_sem] theorem Zgl : ZX Tryz.prog 125 1=some 1:=kf
@[go_sem] theorem Zgm : ZX Tryz.prog 125 2=some 2:=kf
@[go_sem] theorem Zpp : B0 Tryz.prog 125=some (BZ [(0,1),(1,1),(2,1)]):=kf
@[go_sem] theorem Zhk : Xl Tryz.prog 125=some [.bool false,.list true [],.int .i64 0]:=kf
@[go_sem] theorem Zp6 : Tryz.prog.underlying 132=some (.int .u64):=kf
@[go_sem] theorem ZpK : Wa Tryz.prog 139=some 2:=kf
@[go_sem] theorem Zne : XT Tryz.prog 139=some true:=kf
@[go_sem] theorem Zgn : ZX Tryz.prog 139 0=some 0:=kf
@[go_sem] theorem Zgo : ZX Tryz.prog 139 1=some 1:=kf
@[go_sem] theorem Zhl : Xl Tryz.prog 139=some [.int .i64 0,.int .i64 0]:=kf
@[go_sem] theorem Zp7 : Tryz.prog.underlying 145=some (.slice 5):=kf
@[go_sem] theorem ZmQ : U5 Tryz.prog 145=some 1:=kf
@[go_sem] theorem Znz : Wu Tryz.prog 150=some ((some 6),1):=kf
@[go_sem] theorem ZpL : Wa Tryz.prog 152=some 8:=kf
@[go_sem] theorem Znf : XT Tryz.prog 152=some true:=kf
@[go_sem] theorem Zgp : ZX Tryz.prog 152 0=some 0:=kf
@[go_sem] theorem Zgq : ZX Tryz.prog 152 1=some 1:=kf
@[go_sem] theorem Zgr : ZX Tryz.prog 152 2=some 2:=kf
@[go_sem] theorem Zpq : B0 Tryz.prog 152=some (BZ [(0,1),(1,1),(2,6)]):=kf
@[go_sem] theorem Zhm : Xl Tryz.prog 152=some [.int .i64 0,.int .i64 0,.int .i64 0,.int .i64 0,.int .i64 0,.int .i64 0,.int .i64 0,.int .i64 0]:=kf
@[go_sem] theorem Zgs : ZX Tryz.prog 164 0=some 0:=kf
@[go_sem] theorem Zgt : ZX Tryz.prog 164 1=some 6:=kf
@[go_sem] theorem Zgu : ZX Tryz.prog 164 2=some 7:=kf
@[go_sem] theorem Zpr : B0 Tryz.prog 164=some (BZ [(0,6),(6,1),(7,3)]):=kf
@[go_sem] theorem Zhn : Xl Tryz.prog 164=some [.list true [],.list true [],.list true [],.list true [],.list true [],.list true [],.list true [],.bool false,.list true [],.int .i64 0]:=kf
@[go_sem] theorem Zgv : ZX Tryz.prog 182 0=some 0:=kf
@[go_sem] theorem Zgw : ZX Tryz.prog 182 1=some 6:=kf
@[go_sem] theorem Zgx : ZX Tryz.prog 182 2=some 7:=kf
@[go_sem] theorem Zgy : ZX Tryz.prog 182 3=some 8:=kf
@[go_sem] theorem Zgz : ZX Tryz.prog 182 4=some 9:=kf
@[go_sem] theorem ZgA : ZX Tryz.prog 182 5=some 16:=kf
@[go_sem] theorem Zps : B0 Tryz.prog 182=some (BZ [(0,6),(6,1),(7,1),(8,1),(9,7),(16,1)]):=kf
@[go_sem] theorem Zho : Xl Tryz.prog 182=some [.list true [],.list true [],.list true [],.list true [],.list true [],.list true [],.int .i64 0,.int .i64 0,.int .i64 0,.int .i64 0,.int .i64 0,.int .i64 0,.int .i64 0,.int .i64 0,.list true [],.list true [],.bool false]:=kf
@[go_sem] theorem Zp8 : Tryz.prog.underlying 186=some (.slice 231):=kf
@[go_sem] theorem ZnA : Wu Tryz.prog 186=some (none,2):=kf
@[go_sem] theorem ZmR : U5 Tryz.prog 186=some 2:=kf
@[go_sem] theorem R8 : QG Tryz.prog 186=some (2,16):=kf
@[go_sem] theorem Zew (H:List AM.Obj) (u:TypeId) (y:V):W9 Tryz.prog H 186 u (.p (.list true [])) y=MP H (some (2,16)) (YM (Tryz.prog.underlying u) H y):=B1 R8
@[go_sem] theorem Zez (H:List AM.Obj) (u:TypeId) (o n:Nat) (y:V):W9 Tryz.prog H 186 u (.sl o 0 n n) y=Uq H (some (2,16)) (oat H o) o n (YM (Tryz.prog.underlying u) H y):=Yl R8
@[go_sem] theorem ZpM : Wa Tryz.prog 188=some 1:=kf
@[go_sem] theorem Zng : XT Tryz.prog 188=some false:=kf
@[go_sem] theorem ZpN : Wa Tryz.prog 190=some 1:=kf
@[go_sem] theorem Znh : XT Tryz.prog 190=some false:=kf
@[go_sem] theorem ZnB : Wu Tryz.prog 190=some (none,1):=kf
@[go_sem] theorem ZgB : ZX Tryz.prog 192 0=some 0:=kf
@[go_sem] theorem ZgC : ZX Tryz.prog 192 1=some 6:=kf
@[go_sem] theorem ZgD : ZX Tryz.prog 192 2=some 7:=kf
@[go_sem] theorem ZgE : ZX Tryz.prog 192 3=some 8:=kf
@[go_sem] theorem ZgF : ZX Tryz.prog 192 4=some 9:=kf
@[go_sem] theorem Zpt : B0 Tryz.prog 192=some (BZ [(0,6),(6,1),(7,1),(8,1),(9,1)]):=kf
@[go_sem] theorem Zhp : Xl Tryz.prog 192=some [.list true [],.list true [],.list true [],.list true [],.list true [],.list true [],.list true [],.list true [],.nilm,.int .i64 0]:=kf
@[go_sem] theorem ZpO : Wa Tryz.prog 196=some 4:=kf
@[go_sem] theorem Zni : XT Tryz.prog 196=some true:=kf
@[go_sem] theorem ZgG : ZX Tryz.prog 196 0=some 0:=kf
@[go_sem] theorem ZgH : ZX Tryz.prog 196 1=some 1:=kf
@[go_sem] theorem ZgI : ZX Tryz.prog 196 2=some 2:=kf
@[go_sem] theorem ZgJ : ZX Tryz.prog 196 3=some 3:=kf
@[go_sem] theorem Zpu : B0 Tryz.prog 196=some (BZ [(0,1),(1,1),(2,1),(3,1)]):=kf
@[go_sem] theorem Zhq : Xl Tryz.prog 196=some [.int .i64 0,.int .i64 0,.int .i64 0,.int .i64 0]:=kf
@[go_sem] theorem ZpP : Wa Tryz.prog 207=some 1:=kf
@[go_sem] theorem Znj : XT Tryz.prog 207=some false:=kf
@[go_sem] theorem ZpQ : Wa Tryz.prog 211=some 2:=kf
@[go_sem] theorem Znk : XT Tryz.prog 211=some true:=kf
@[go_sem] theorem ZgK : ZX Tryz.prog 211 0=some 0:=kf
@[go_sem] theorem ZgL : ZX Tryz.prog 211 1=some 1:=kf
@[go_sem] theorem pI : Tryz.prog.stoodInHeld 211=false:=kf
@[go_sem] theorem Zpv : B0 Tryz.prog 211=some (BZ [(0,1),(1,1)]):=kf
@[go_sem] theorem ZnY (d:Nat) (a b:List PV):Hi Tryz.prog d 211 (Tryz.prog.underlying 211) (.agg a) (.agg b)=EI (fH (VF Tryz.prog d 3) (apart Tryz.prog 3 a 0) (apart Tryz.prog 3 b 0)) (EI (fH (VF Tryz.prog d 4) (apart Tryz.prog 4 a 1) (apart Tryz.prog 4 b 1)) (some true)):=by rw [Tryz.underlying211,QL pI];simp [Ar,B3]
@[go_sem] theorem Zn7 : Tryz.prog.eqGuardType Tryz.prog.depth 211=false:=kf
@[go_sem] theorem Zhr : Xl Tryz.prog 211=some [.int .i64 0,.bool false]:=kf
@[go_sem] theorem ZpR : Wa Tryz.prog 231=some 2:=kf
@[go_sem] theorem Znl : XT Tryz.prog 231=some true:=kf
@[go_sem] theorem ZgM : ZX Tryz.prog 231 0=some 0:=kf
@[go_sem] theorem ZgN : ZX Tryz.prog 231 1=some 1:=kf
@[go_sem] theorem pJ : Tryz.prog.stoodInHeld 231=false:=kf
@[go_sem] theorem Zpw : B0 Tryz.prog 231=some (BZ [(0,1),(1,1)]):=kf
@[go_sem] theorem ZnZ (d:Nat) (a b:List PV):Hi Tryz.prog d 231 (Tryz.prog.underlying 231) (.agg a) (.agg b)=EI (fH (VF Tryz.prog d 3) (apart Tryz.prog 3 a 0) (apart Tryz.prog 3 b 0)) (EI (fH (VF Tryz.prog d 3) (apart Tryz.prog 3 a 1) (apart Tryz.prog 3 b 1)) (some true)):=by rw [Tryz.underlying231,QL pJ];simp [Ar,B3]
@[go_sem] theorem Zn8 : Tryz.prog.eqGuardType Tryz.prog.depth 231=false:=kf
@[go_sem] theorem Zhs : Xl Tryz.prog 231=some [.int .i64 0,.int .i64 0]:=kf
@[go_sem] theorem ZpS : Wa Tryz.prog 236=some 2:=kf
@[go_sem] theorem Znm : XT Tryz.prog 236=some true:=kf
@[go_sem] theorem Zpx : B0 Tryz.prog 236=some (BZ [(0,1),(1,1)]):=kf
@[go_sem] theorem Zht : Xl Tryz.prog 236=some [.int .i64 0,.int .i64 0]:=kf
@[go_sem] theorem Zp9 : Tryz.prog.underlying 237=some (.array 4 3):=kf
@[go_sem] theorem ZpT : Wa Tryz.prog 237=some 4:=kf
@[go_sem] theorem Znn : XT Tryz.prog 237=some true:=kf
@[go_sem] theorem Zpy : B0 Tryz.prog 237=some (plA 1):=kf
@[go_sem] theorem Zhu : Xl Tryz.prog 237=some [.int .i64 0,.int .i64 0,.int .i64 0,.int .i64 0]:=kf
@[go_sem] theorem Zqa : Tryz.prog.underlying 247=some (.slice 335):=kf
@[go_sem] theorem ZpU : Wa Tryz.prog 247=some 1:=kf
@[go_sem] theorem Zno : XT Tryz.prog 247=some false:=kf
@[go_sem] theorem ZnC : Wu Tryz.prog 247=some (none,4):=kf
@[go_sem] theorem ZmS : U5 Tryz.prog 247=some 4:=kf
@[go_sem] theorem qW : QG Tryz.prog 247=some (4,32):=kf
@[go_sem] theorem ZeA (H:List AM.Obj) (u:TypeId) (o n:Nat) (y:V):W9 Tryz.prog H 247 u (.sl o 0 n n) y=Uq H (some (4,32)) (oat H o) o n (YM (Tryz.prog.underlying u) H y):=Yl qW
@[go_sem] theorem ZpV : Wa Tryz.prog 249=some 5:=kf
@[go_sem] theorem Znp : XT Tryz.prog 249=some true:=kf
@[go_sem] theorem ZgO : ZX Tryz.prog 249 0=some 0:=kf
@[go_sem] theorem ZgP : ZX Tryz.prog 249 1=some 1:=kf
@[go_sem] theorem ZgQ : ZX Tryz.prog 249 2=some 2:=kf
@[go_sem] theorem ZgR : ZX Tryz.prog 249 3=some 3:=kf
@[go_sem] theorem ZgS : ZX Tryz.prog 249 4=some 4:=kf
@[go_sem] theorem Zpz : B0 Tryz.prog 249=some (BZ [(0,1),(1,1),(2,1),(3,1),(4,1)]):=kf
@[go_sem] theorem Zhv : Xl Tryz.prog 249=some [.bool false,.int .i64 0,.list true [],.int .i64 0,.int .i64 0]:=kf
@[go_sem] theorem ZnD : Wu Tryz.prog 265=some ((some 64),1):=kf
@[go_sem] theorem Zqb : Tryz.prog.underlying 271=some (.slice 207):=kf
@[go_sem] theorem ZnE : Wu Tryz.prog 271=some (none,1):=kf
@[go_sem] theorem ZmT : U5 Tryz.prog 271=some 1:=kf
@[go_sem] theorem Zqc : Tryz.prog.underlying 281=some (.slice 55):=kf
@[go_sem] theorem ZnF : Wu Tryz.prog 281=some (none,1):=kf
@[go_sem] theorem ZmU : U5 Tryz.prog 281=some 1:=kf
@[go_sem] theorem qX : QG Tryz.prog 281=some (1,24):=kf
@[go_sem] theorem ZeB (H:List AM.Obj) (u:TypeId) (o n:Nat) (y:V):W9 Tryz.prog H 281 u (.sl o 0 n n) y=Uq H (some (1,24)) (oat H o) o n (YM (Tryz.prog.underlying u) H y):=Yl qX
@[go_sem] theorem Zqd : Tryz.prog.underlying 295=some (.slice 65):=kf
@[go_sem] theorem ZpW : Wa Tryz.prog 295=some 1:=kf
@[go_sem] theorem Znq : XT Tryz.prog 295=some false:=kf
@[go_sem] theorem ZnG : Wu Tryz.prog 295=some (none,4):=kf
@[go_sem] theorem ZmV : U5 Tryz.prog 295=some 4:=kf
@[go_sem] theorem qY : QG Tryz.prog 295=some (4,32):=kf
@[go_sem] theorem ZeC (H:List AM.Obj) (u:TypeId) (o n:Nat) (y:V):W9 Tryz.prog H 295 u (.sl o 0 n n) y=Uq H (some (4,32)) (oat H o) o n (YM (Tryz.prog.underlying u) H y):=Yl qY
@[go_sem] theorem ZpX : Wa Tryz.prog 297=some 25:=kf
@[go_sem] theorem Znr : XT Tryz.prog 297=some true:=kf
@[go_sem] theorem ZgT : ZX Tryz.prog 297 0=some 0:=kf
@[go_sem] theorem ZgU : ZX Tryz.prog 297 1=some 6:=kf
@[go_sem] theorem ZgV : ZX Tryz.prog 297 2=some 20:=kf
@[go_sem] theorem ZgW : ZX Tryz.prog 297 3=some 24:=kf
@[go_sem] theorem ZpA : B0 Tryz.prog 297=some (BZ [(0,6),(6,14),(20,4),(24,1)]):=kf
@[go_sem] theorem Zhw : Xl Tryz.prog 297=some [.list true [],.list true [],.list true [],.list true [],.list true [],.list true [],.str [],.int .i64 0,.int .i64 0,.int .i64 0,.list true [],.int .i64 0,.int .i64 0,.int .i64 0,.int .i64 0,.int .i64 0,.int .i64 0,.int .i64 0,.int .i64 0,.int .i64 0,.int .i64 0,.int .i64 0,.list true [],.list true [],.list true []]:=kf
@[go_sem] theorem ZpY : Wa Tryz.prog 301=some 7:=kf
@[go_sem] theorem Zns : XT Tryz.prog 301=some true:=kf
@[go_sem] theorem ZgX : ZX Tryz.prog 301 0=some 0:=kf
@[go_sem] theorem ZgY : ZX Tryz.prog 301 1=some 1:=kf
@[go_sem] theorem ZgZ : ZX Tryz.prog 301 2=some 2:=kf
@[go_sem] theorem ZpB : B0 Tryz.prog 301=some (BZ [(0,1),(1,1),(2,5)]):=kf
@[go_sem] theorem Zhx : Xl Tryz.prog 301=some [.int .i64 0,.int .i64 0,.bool false,.int .i64 0,.list true [],.int .i64 0,.int .i64 0]:=kf
@[go_sem] theorem Zqe : Tryz.prog.underlying 303=some (.slice 301):=kf
@[go_sem] theorem ZnH : Wu Tryz.prog 303=some (none,7):=kf
@[go_sem] theorem ZmW : U5 Tryz.prog 303=some 7:=kf
@[go_sem] theorem qZ : QG Tryz.prog 303=some (7,72):=kf
@[go_sem] theorem ZeD (H:List AM.Obj) (u:TypeId) (o n:Nat) (y:V):W9 Tryz.prog H 303 u (.sl o 0 n n) y=Uq H (some (7,72)) (oat H o) o n (YM (Tryz.prog.underlying u) H y):=Yl qZ
@[go_sem] theorem ZpZ : Wa Tryz.prog 309=some 3:=kf
@[go_sem] theorem Znt : XT Tryz.prog 309=some true:=kf
@[go_sem] theorem pK : Tryz.prog.stoodInHeld 309=false:=kf
@[go_sem] theorem ZpC : B0 Tryz.prog 309=some (BZ [(0,1),(1,1),(2,1)]):=kf
@[go_sem] theorem Zn0 (d:Nat) (a b:List PV):Hi Tryz.prog d 309 (Tryz.prog.underlying 309) (.agg a) (.agg b)=EI (fH (VF Tryz.prog d 3) (apart Tryz.prog 3 a 0) (apart Tryz.prog 3 b 0)) (EI (fH (VF Tryz.prog d 3) (apart Tryz.prog 3 a 1) (apart Tryz.prog 3 b 1)) (EI (fH (VF Tryz.prog d 3) (apart Tryz.prog 3 a 2) (apart Tryz.prog 3 b 2)) (some true))):=by rw [Tryz.underlying309,QL pK];simp [Ar,B3]
@[go_sem] theorem Zn9 : Tryz.prog.eqGuardType Tryz.prog.depth 309=false:=kf
@[go_sem] theorem Zhy : Xl Tryz.prog 309=some [.int .i64 0,.int .i64 0,.int .i64 0]:=kf
@[go_sem] theorem Zp0 : Wa Tryz.prog 330=some 4:=kf
@[go_sem] theorem Znu : XT Tryz.prog 330=some true:=kf
@[go_sem] theorem Zg0 : ZX Tryz.prog 330 0=some 0:=kf
@[go_sem] theorem Zg1 : ZX Tryz.prog 330 1=some 1:=kf
@[go_sem] theorem Zg2 : ZX Tryz.prog 330 2=some 2:=kf
@[go_sem] theorem Zg3 : ZX Tryz.prog 330 3=some 3:=kf
@[go_sem] theorem ZpD : B0 Tryz.prog 330=some (BZ [(0,1),(1,1),(2,1),(3,1)]):=kf
@[go_sem] theorem Zhz : Xl Tryz.prog 330=some [.int .i64 0,.int .i64 0,.int .i64 0,.int .i64 0]:=kf
@[go_sem] theorem Zp1 : Wa Tryz.prog 335=some 4:=kf
@[go_sem] theorem Znv : XT Tryz.prog 335=some true:=kf
@[go_sem] theorem Zg4 : ZX Tryz.prog 335 1=some 1:=kf
@[go_sem] theorem Zg5 : ZX Tryz.prog 335 2=some 2:=kf
@[go_sem] theorem Zg6 : ZX Tryz.prog 335 3=some 3:=kf
@[go_sem] theorem ZpE : B0 Tryz.prog 335=some (BZ [(0,1),(1,1),(2,1),(3,1)]):=kf
@[go_sem] theorem ZhA : Xl Tryz.prog 335=some [.int .i64 0,.int .i64 0,.int .i64 0,.bool false]:=kf
theorem Zos : Zj Tryz.prog 5:=fun args w=>Tryz.call5 args w
theorem Zot : Zj Tryz.prog 6:=fun args w=>Tryz.call6 args w
theorem Zi1 : Zj Tryz.prog 10:=fun args w=>Tryz.call10 args w
theorem Zi2 : Zj Tryz.prog 11:=fun args w=>Tryz.call11 args w
theorem Zi3 : Zj Tryz.prog 13:=fun args w=>Tryz.call13 args w
theorem Zi4 : Zj Tryz.prog 14:=fun args w=>Tryz.call14 args w
theorem Zi5 : Zj Tryz.prog 15:=fun args w=>Tryz.call15 args w
theorem Zi6 : Zj Tryz.prog 16:=fun args w=>Tryz.call16 args w
theorem Zi7 : Zj Tryz.prog 17:=fun args w=>Tryz.call17 args w
theorem Zi8 : Zj Tryz.prog 18:=fun args w=>Tryz.call18 args w
theorem Zi9 : Zj Tryz.prog 19:=fun args w=>Tryz.call19 args w
theorem xW : Zj Tryz.prog 20:=fun args w=>Tryz.call20 args w
theorem Zja : Zj Tryz.prog 21:=fun args w=>Tryz.call21 args w
theorem Zjb : Zj Tryz.prog 22:=fun args w=>Tryz.call22 args w
theorem Zjc : Zj Tryz.prog 23:=fun args w=>Tryz.call23 args w
theorem Zjd : Zj Tryz.prog 24:=fun args w=>Tryz.call24 args w
theorem Zje : Zj Tryz.prog 27:=fun args w=>Tryz.call27 args w
theorem Zjf : Zj Tryz.prog 28:=fun args w=>Tryz.call28 args w
theorem Zjg : Zj Tryz.prog 29:=fun args w=>Tryz.call29 args w
theorem Zjh : Zj Tryz.prog 30:=fun args w=>Tryz.call30 args w
theorem Zji : Zj Tryz.prog 31:=fun args w=>Tryz.call31 args w
theorem Zjj : Zj Tryz.prog 32:=fun args w=>Tryz.call32 args w
theorem Zjk : Zj Tryz.prog 37:=fun args w=>Tryz.call37 args w
theorem Zjl : Zj Tryz.prog 38:=fun args w=>Tryz.call38 args w
theorem Zjm : Zj Tryz.prog 39:=fun args w=>Tryz.call39 args w
theorem Zjn : Zj Tryz.prog 40:=fun args w=>Tryz.call40 args w
theorem Zjo : Zj Tryz.prog 41:=fun args w=>Tryz.call41 args w
theorem Zjp : Zj Tryz.prog 42:=fun args w=>Tryz.call42 args w
theorem Zjq : Zj Tryz.prog 43:=fun args w=>Tryz.call43 args w
theorem Zjr : Zj Tryz.prog 44:=fun args w=>Tryz.call44 args w
theorem Zjs : Zj Tryz.prog 45:=fun args w=>Tryz.call45 args w
theorem Zjt : Zj Tryz.prog 46:=fun args w=>Tryz.call46 args w
theorem Zju : Zj Tryz.prog 47:=fun args w=>Tryz.call47 args w
theorem Zjv : Zj Tryz.prog 48:=fun args w=>Tryz.call48 args w
theorem Zjw : Zj Tryz.prog 49:=fun args w=>Tryz.call49 args w
theorem Zjx : Zj Tryz.prog 50:=fun args w=>Tryz.call50 args w
theorem Zjy : Zj Tryz.prog 51:=fun args w=>Tryz.call51 args w
theorem Zjz : Zj Tryz.prog 52:=fun args w=>Tryz.call52 args w
theorem ZjA : Zj Tryz.prog 53:=fun args w=>Tryz.call53 args w
theorem ZjB : Zj Tryz.prog 54:=fun args w=>Tryz.call54 args w
theorem ZjC : Zj Tryz.prog 55:=fun args w=>Tryz.call55 args w
theorem ZjD : Zj Tryz.prog 56:=fun args w=>Tryz.call56 args w
theorem ZjE : Zj Tryz.prog 57:=fun args w=>Tryz.call57 args w
theorem ZjF : Zj Tryz.prog 58:=fun args w=>Tryz.call58 args w
theorem ZjG : Zj Tryz.prog 59:=fun args w=>Tryz.call59 args w
theorem ZjH : Zj Tryz.prog 60:=fun args w=>Tryz.call60 args w
theorem ZjI : Zj Tryz.prog 61:=fun args w=>Tryz.call61 args w
theorem ZjJ : Zj Tryz.prog 62:=fun args w=>Tryz.call62 args w
theorem ZjK : Zj Tryz.prog 63:=fun args w=>Tryz.call63 args w
theorem ZjL : Zj Tryz.prog 64:=fun args w=>Tryz.call64 args w
theorem ZjM : Zj Tryz.prog 65:=fun args w=>Tryz.call65 args w
theorem xX : Zj Tryz.prog 66:=fun args w=>Tryz.call66 args w
theorem ZjN : Zj Tryz.prog 67:=fun args w=>Tryz.call67 args w
theorem ZjO : Zj Tryz.prog 70:=fun args w=>Tryz.call70 args w
theorem ZjP : Zj Tryz.prog 71:=fun args w=>Tryz.call71 args w
theorem ZjQ : Zj Tryz.prog 72:=fun args w=>Tryz.call72 args w
theorem ZjR : Zj Tryz.prog 73:=fun args w=>Tryz.call73 args w
theorem ZjS : Zj Tryz.prog 74:=fun args w=>Tryz.call74 args w
theorem ZjT : Zj Tryz.prog 75:=fun args w=>Tryz.call75 args w
theorem ZjU : Zj Tryz.prog 76:=fun args w=>Tryz.call76 args w
theorem ZjV : Zj Tryz.prog 77:=fun args w=>Tryz.call77 args w
theorem ZjW : Zj Tryz.prog 78:=fun args w=>Tryz.call78 args w
theorem ZjX : Zj Tryz.prog 79:=fun args w=>Tryz.call79 args w
theorem ZjY : Zj Tryz.prog 80:=fun args w=>Tryz.call80 args w
theorem ZjZ : Zj Tryz.prog 81:=fun args w=>Tryz.call81 args w
theorem Zj0 : Zj Tryz.prog 82:=fun args w=>Tryz.call82 args w
theorem Zj1 : Zj Tryz.prog 83:=fun args w=>Tryz.call83 args w
theorem Zj2 : Zj Tryz.prog 84:=fun args w=>Tryz.call84 args w
theorem Zj3 : Zj Tryz.prog 85:=fun args w=>Tryz.call85 args w
theorem Zj4 : Zj Tryz.prog 86:=fun args w=>Tryz.call86 args w
theorem Zj5 : Zj Tryz.prog 87:=fun args w=>Tryz.call87 args w
theorem Zj6 : Zj Tryz.prog 88:=fun args w=>Tryz.call88 args w
theorem Zj7 : Zj Tryz.prog 91:=fun args w=>Tryz.call91 args w
theorem Zj8 : Zj Tryz.prog 92:=fun args w=>Tryz.call92 args w
theorem xY : Zj Tryz.prog 93:=fun args w=>Tryz.call93 args w
theorem Zj9 : Zj Tryz.prog 94:=fun args w=>Tryz.call94 args w
theorem Zka : Zj Tryz.prog 95:=fun args w=>Tryz.call95 args w
theorem Zkb : Zj Tryz.prog 96:=fun args w=>Tryz.call96 args w
theorem Zkc : Zj Tryz.prog 97:=fun args w=>Tryz.call97 args w
theorem Zkd : Zj Tryz.prog 98:=fun args w=>Tryz.call98 args w
theorem Zke : Zj Tryz.prog 99:=fun args w=>Tryz.call99 args w
theorem ZaW : Zj Tryz.prog 100:=fun args w=>Tryz.call100 args w
theorem ZaX : Zj Tryz.prog 101:=fun args w=>Tryz.call101 args w
theorem ZaY : Zj Tryz.prog 102:=fun args w=>Tryz.call102 args w
theorem ZaZ : Zj Tryz.prog 103:=fun args w=>Tryz.call103 args w
theorem Za0 : Zj Tryz.prog 104:=fun args w=>Tryz.call104 args w
theorem Za1 : Zj Tryz.prog 105:=fun args w=>Tryz.call105 args w
theorem Za2 : Zj Tryz.prog 106:=fun args w=>Tryz.call106 args w
theorem Za3 : Zj Tryz.prog 107:=fun args w=>Tryz.call107 args w
theorem Za4 : Zj Tryz.prog 108:=fun args w=>Tryz.call108 args w
theorem kY : Zj Tryz.prog 109:=fun args w=>Tryz.call109 args w
theorem Za5 : Zj Tryz.prog 110:=fun args w=>Tryz.call110 args w
theorem Za6 : Zj Tryz.prog 111:=fun args w=>Tryz.call111 args w
theorem Za7 : Zj Tryz.prog 113:=fun args w=>Tryz.call113 args w
theorem kZ : Zj Tryz.prog 114:=fun args w=>Tryz.call114 args w
theorem Za8 : Zj Tryz.prog 115:=fun args w=>Tryz.call115 args w
theorem lA : Zj Tryz.prog 116:=fun args w=>Tryz.call116 args w
theorem Za9 : Zj Tryz.prog 127:=fun args w=>Tryz.call127 args w
theorem Zba : Zj Tryz.prog 128:=fun args w=>Tryz.call128 args w
theorem Zbb : Zj Tryz.prog 129:=fun args w=>Tryz.call129 args w
theorem Zbc : Zj Tryz.prog 130:=fun args w=>Tryz.call130 args w
theorem Zbd : Zj Tryz.prog 131:=fun args w=>Tryz.call131 args w
theorem Zbe : Zj Tryz.prog 132:=fun args w=>Tryz.call132 args w
theorem lB : Zj Tryz.prog 133:=fun args w=>Tryz.call133 args w
theorem lC : Zj Tryz.prog 134:=fun args w=>Tryz.call134 args w
theorem Zbf : Zj Tryz.prog 135:=fun args w=>Tryz.call135 args w
theorem Zbg : Zj Tryz.prog 136:=fun args w=>Tryz.call136 args w
theorem Zbh : Zj Tryz.prog 137:=fun args w=>Tryz.call137 args w
theorem Zbi : Zj Tryz.prog 138:=fun args w=>Tryz.call138 args w
theorem Zbj : Zj Tryz.prog 139:=fun args w=>Tryz.call139 args w
theorem Zbk : Zj Tryz.prog 140:=fun args w=>Tryz.call140 args w
theorem Zbl : Zj Tryz.prog 141:=fun args w=>Tryz.call141 args w
theorem Zbm : Zj Tryz.prog 142:=fun args w=>Tryz.call142 args w
theorem Zbn : Zj Tryz.prog 143:=fun args w=>Tryz.call143 args w
theorem Zbo : Zj Tryz.prog 145:=fun args w=>Tryz.call145 args w
theorem Zbp : Zj Tryz.prog 146:=fun args w=>Tryz.call146 args w
theorem Zbq : Zj Tryz.prog 147:=fun args w=>Tryz.call147 args w
theorem Zbr : Zj Tryz.prog 148:=fun args w=>Tryz.call148 args w
theorem Zbs : Zj Tryz.prog 149:=fun args w=>Tryz.call149 args w
theorem Zbt : Zj Tryz.prog 150:=fun args w=>Tryz.call150 args w
theorem Zbu : Zj Tryz.prog 151:=fun args w=>Tryz.call151 args w
theorem Zbv : Zj Tryz.prog 152:=fun args w=>Tryz.call152 args w
theorem Zbw : Zj Tryz.prog 153:=fun args w=>Tryz.call153 args w
theorem Zbx : Zj Tryz.prog 154:=fun args w=>Tryz.call154 args w
theorem Zby : Zj Tryz.prog 155:=fun args w=>Tryz.call155 args w
theorem Zbz : Zj Tryz.prog 156:=fun args w=>Tryz.call156 args w
theorem ZbA : Zj Tryz.prog 162:=fun args w=>Tryz.call162 args w
theorem lD : Zj Tryz.prog 163:=fun args w=>Tryz.call163 args w
theorem ZbB : Zj Tryz.prog 164:=fun args w=>Tryz.call164 args w
theorem ZbC : Zj Tryz.prog 165:=fun args w=>Tryz.call165 args w
theorem ZbD : Zj Tryz.prog 166:=fun args w=>Tryz.call166 args w
theorem ZbE : Zj Tryz.prog 167:=fun args w=>Tryz.call167 args w
theorem ZbF : Zj Tryz.prog 168:=fun args w=>Tryz.call168 args w
theorem ZbG : Zj Tryz.prog 169:=fun args w=>Tryz.call169 args w
theorem ZbH : Zj Tryz.prog 170:=fun args w=>Tryz.call170 args w
theorem lE : Zj Tryz.prog 171:=fun args w=>Tryz.call171 args w
theorem ZbI : Zj Tryz.prog 172:=fun args w=>Tryz.call172 args w
theorem ZbJ : Zj Tryz.prog 173:=fun args w=>Tryz.call173 args w
theorem ZbK : Zj Tryz.prog 174:=fun args w=>Tryz.call174 args w
theorem ZbL : Zj Tryz.prog 175:=fun args w=>Tryz.call175 args w
theorem ZbM : Zj Tryz.prog 176:=fun args w=>Tryz.call176 args w
theorem Vp : Zj Tryz.prog 186:=fun args w=>Tryz.call186 args w
theorem ZbN : Zj Tryz.prog 187:=fun args w=>Tryz.call187 args w
theorem ZbO : Zj Tryz.prog 188:=fun args w=>Tryz.call188 args w
theorem ZbP : Zj Tryz.prog 189:=fun args w=>Tryz.call189 args w
theorem ZbQ : Zj Tryz.prog 190:=fun args w=>Tryz.call190 args w
theorem ZbR : Zj Tryz.prog 191:=fun args w=>Tryz.call191 args w
theorem ZbS : Zj Tryz.prog 192:=fun args w=>Tryz.call192 args w
theorem ZbT : Zj Tryz.prog 193:=fun args w=>Tryz.call193 args w
theorem ZbU : Zj Tryz.prog 195:=fun args w=>Tryz.call195 args w
theorem ZbV : Zj Tryz.prog 196:=fun args w=>Tryz.call196 args w
theorem ZbW : Zj Tryz.prog 197:=fun args w=>Tryz.call197 args w
theorem ZbX : Zj Tryz.prog 198:=fun args w=>Tryz.call198 args w
theorem ZbY : Zj Tryz.prog 199:=fun args w=>Tryz.call199 args w
theorem ZbZ : Zj Tryz.prog 200:=fun args w=>Tryz.call200 args w
theorem Zb0 : Zj Tryz.prog 204:=fun args w=>Tryz.call204 args w
theorem Zb1 : Zj Tryz.prog 205:=fun args w=>Tryz.call205 args w
theorem Zb2 : Zj Tryz.prog 206:=fun args w=>Tryz.call206 args w
theorem Zb3 : Zj Tryz.prog 207:=fun args w=>Tryz.call207 args w
theorem lF : Zj Tryz.prog 208:=fun args w=>Tryz.call208 args w
theorem Zb4 : Zj Tryz.prog 209:=fun args w=>Tryz.call209 args w
theorem Zb5 : Zj Tryz.prog 210:=fun args w=>Tryz.call210 args w
theorem Zb6 : Zj Tryz.prog 211:=fun args w=>Tryz.call211 args w
theorem Zb7 : Zj Tryz.prog 212:=fun args w=>Tryz.call212 args w
theorem Zb8 : Zj Tryz.prog 213:=fun args w=>Tryz.call213 args w
theorem Zb9 : Zj Tryz.prog 214:=fun args w=>Tryz.call214 args w
theorem Zca : Zj Tryz.prog 215:=fun args w=>Tryz.call215 args w
theorem Zcb : Zj Tryz.prog 216:=fun args w=>Tryz.call216 args w
theorem Zcc : Zj Tryz.prog 217:=fun args w=>Tryz.call217 args w
theorem Zcd : Zj Tryz.prog 218:=fun args w=>Tryz.call218 args w
theorem Zce : Zj Tryz.prog 219:=fun args w=>Tryz.call219 args w
theorem Zcf : Zj Tryz.prog 220:=fun args w=>Tryz.call220 args w
theorem Zcg : Zj Tryz.prog 221:=fun args w=>Tryz.call221 args w
theorem Zch : Zj Tryz.prog 222:=fun args w=>Tryz.call222 args w
theorem Zci : Zj Tryz.prog 223:=fun args w=>Tryz.call223 args w
theorem Zcj : Zj Tryz.prog 225:=fun args w=>Tryz.call225 args w
theorem Zck : Zj Tryz.prog 226:=fun args w=>Tryz.call226 args w
theorem Zcl : Zj Tryz.prog 227:=fun args w=>Tryz.call227 args w
theorem Zcm : Zj Tryz.prog 228:=fun args w=>Tryz.call228 args w
theorem Zcn : Zj Tryz.prog 229:=fun args w=>Tryz.call229 args w
theorem Zco : Zj Tryz.prog 230:=fun args w=>Tryz.call230 args w
theorem Zcp : Zj Tryz.prog 231:=fun args w=>Tryz.call231 args w
theorem Zcq : Zj Tryz.prog 232:=fun args w=>Tryz.call232 args w
theorem Zcr : Zj Tryz.prog 233:=fun args w=>Tryz.call233 args w
theorem Zcs : Zj Tryz.prog 234:=fun args w=>Tryz.call234 args w
theorem Zct : Zj Tryz.prog 235:=fun args w=>Tryz.call235 args w
theorem Zcu : Zj Tryz.prog 236:=fun args w=>Tryz.call236 args w
theorem Zcv : Zj Tryz.prog 237:=fun args w=>Tryz.call237 args w
theorem Zcw : Zj Tryz.prog 238:=fun args w=>Tryz.call238 args w
theorem Zcx : Zj Tryz.prog 239:=fun args w=>Tryz.call239 args w
theorem Zcy : Zj Tryz.prog 240:=fun args w=>Tryz.call240 args w
theorem Zcz : Zj Tryz.prog 241:=fun args w=>Tryz.call241 args w
theorem ZcA : Zj Tryz.prog 242:=fun args w=>Tryz.call242 args w
theorem ZcB : Zj Tryz.prog 243:=fun args w=>Tryz.call243 args w
theorem ZcC : Zj Tryz.prog 244:=fun args w=>Tryz.call244 args w
theorem ZcD : Zj Tryz.prog 245:=fun args w=>Tryz.call245 args w
theorem lG : Zj Tryz.prog 246:=fun args w=>Tryz.call246 args w
theorem ZcE : Zj Tryz.prog 247:=fun args w=>Tryz.call247 args w
theorem ZcF : Zj Tryz.prog 248:=fun args w=>Tryz.call248 args w
theorem ZcG : Zj Tryz.prog 249:=fun args w=>Tryz.call249 args w
theorem ZcH : Zj Tryz.prog 250:=fun args w=>Tryz.call250 args w
theorem ZcI : Zj Tryz.prog 251:=fun args w=>Tryz.call251 args w
theorem ZcJ : Zj Tryz.prog 252:=fun args w=>Tryz.call252 args w
theorem ZcK : Zj Tryz.prog 253:=fun args w=>Tryz.call253 args w
theorem ZcL : Zj Tryz.prog 254:=fun args w=>Tryz.call254 args w
theorem ZcM : Zj Tryz.prog 255:=fun args w=>Tryz.call255 args w
theorem ZcN : Zj Tryz.prog 256:=fun args w=>Tryz.call256 args w
theorem ZcO : Zj Tryz.prog 257:=fun args w=>Tryz.call257 args w
theorem ZcP : Zj Tryz.prog 258:=fun args w=>Tryz.call258 args w
theorem ZcQ : Zj Tryz.prog 259:=fun args w=>Tryz.call259 args w
theorem ZcR : Zj Tryz.prog 260:=fun args w=>Tryz.call260 args w
theorem ZcS : Zj Tryz.prog 261:=fun args w=>Tryz.call261 args w
theorem ZcT : Zj Tryz.prog 262:=fun args w=>Tryz.call262 args w
theorem ZcU : Zj Tryz.prog 263:=fun args w=>Tryz.call263 args w
theorem ZcV : Zj Tryz.prog 264:=fun args w=>Tryz.call264 args w
theorem ZcW : Zj Tryz.prog 265:=fun args w=>Tryz.call265 args w
theorem ZcX : Zj Tryz.prog 266:=fun args w=>Tryz.call266 args w
theorem ZcY : Zj Tryz.prog 267:=fun args w=>Tryz.call267 args w
theorem ZcZ : Zj Tryz.prog 268:=fun args w=>Tryz.call268 args w
theorem Zc0 : Zj Tryz.prog 269:=fun args w=>Tryz.call269 args w
theorem Zc1 : Zj Tryz.prog 270:=fun args w=>Tryz.call270 args w
theorem Zc2 : Zj Tryz.prog 271:=fun args w=>Tryz.call271 args w
theorem Zc3 : Zj Tryz.prog 272:=fun args w=>Tryz.call272 args w
theorem Zc4 : Zj Tryz.prog 273:=fun args w=>Tryz.call273 args w
theorem Zc5 : Zj Tryz.prog 274:=fun args w=>Tryz.call274 args w
theorem Zc6 : Zj Tryz.prog 275:=fun args w=>Tryz.call275 args w
theorem Zc7 : Zj Tryz.prog 276:=fun args w=>Tryz.call276 args w
theorem Zc8 : Zj Tryz.prog 277:=fun args w=>Tryz.call277 args w
theorem Zc9 : Zj Tryz.prog 278:=fun args w=>Tryz.call278 args w
theorem Zda : Zj Tryz.prog 279:=fun args w=>Tryz.call279 args w
theorem Zdb : Zj Tryz.prog 280:=fun args w=>Tryz.call280 args w
theorem Zdc : Zj Tryz.prog 281:=fun args w=>Tryz.call281 args w
theorem Zdd : Zj Tryz.prog 282:=fun args w=>Tryz.call282 args w
theorem Zde : Zj Tryz.prog 283:=fun args w=>Tryz.call283 args w
theorem Zdf : Zj Tryz.prog 284:=fun args w=>Tryz.call284 args w
theorem Zdg : Zj Tryz.prog 285:=fun args w=>Tryz.call285 args w
theorem Zdh : Zj Tryz.prog 286:=fun args w=>Tryz.call286 args w
theorem Zdi : Zj Tryz.prog 287:=fun args w=>Tryz.call287 args w
theorem Zdj : Zj Tryz.prog 288:=fun args w=>Tryz.call288 args w
theorem Zdk : Zj Tryz.prog 289:=fun args w=>Tryz.call289 args w
theorem Zdl : Zj Tryz.prog 290:=fun args w=>Tryz.call290 args w
theorem Zdm : Zj Tryz.prog 291:=fun args w=>Tryz.call291 args w
theorem Zdn : Zj Tryz.prog 292:=fun args w=>Tryz.call292 args w
theorem Zdo : Zj Tryz.prog 293:=fun args w=>Tryz.call293 args w
theorem Zdp : Zj Tryz.prog 294:=fun args w=>Tryz.call294 args w
theorem Zdq : Zj Tryz.prog 295:=fun args w=>Tryz.call295 args w
theorem Zdr : Zj Tryz.prog 296:=fun args w=>Tryz.call296 args w
theorem Zds : Zj Tryz.prog 297:=fun args w=>Tryz.call297 args w
theorem Zdt : Zj Tryz.prog 298:=fun args w=>Tryz.call298 args w
theorem mixed : Tryz.prog.follows .mixedOrders=true:=Zg
end Go.Proofs.YtjkkdmeebhjaiaaGreatDoor.K
