/- Declarations that the closing texts need, part 5: joined by tools/slim.py. -/
import Derived.Test.YtenjikkmmibffaaGreatDoorH4
import Derived.KernelRfl
namespace Go.Proofs.YtenjikkmmibffaaGreatDoor.K
open Go Go.AM Go.Proofs
abbrev PC (f:FuncId) (a:List V) (y:PV):=ACalls Tryz.prog f a [] fun x H'=>x= .p y/\H'= []
abbrev PT (f:FuncId) (a:List V) (b:List V):=ACalls Tryz.prog f a [] fun x H'=>x= .tup b/\H'= []
theorem kf {α:Type} {a b:α} (h:a=b:=by kernel_rfl):a=b:=Zl h rfl
theorem Zd {p:Prop} (h:p:=by kernel_rfl):p:=h
@[go_sem] theorem Zr2 : Tryz.prog.underlying 3=some (.int .i64):=kf
@[go_sem] theorem ZrY : Y8 Tryz.prog 3=some 1:=kf
@[go_sem] theorem Zq5 : XQ Tryz.prog 3=some false:=kf
@[go_sem] theorem Zof : Xg Tryz.prog 3=some [.int .i64 0]:=kf
@[go_sem] theorem Zr3 : Tryz.prog.underlying 4=some .bool:=kf
@[go_sem] theorem ZrZ : Y8 Tryz.prog 4=some 1:=kf
@[go_sem] theorem Zq6 : XQ Tryz.prog 4=some false:=kf
@[go_sem] theorem Zr4 : Tryz.prog.underlying 5=some (.int .u8):=kf
@[go_sem] theorem Zr0 : Y8 Tryz.prog 5=some 1:=kf
@[go_sem] theorem Zq7 : XQ Tryz.prog 5=some false:=kf
@[go_sem] theorem Zr5 : Tryz.prog.underlying 9=some .string:=kf
@[go_sem] theorem Zr1 : Y8 Tryz.prog 9=some 1:=kf
@[go_sem] theorem Zq8 : XQ Tryz.prog 9=some false:=kf
@[go_sem] theorem ZrE : Tryz.prog.underlying 22=some (.slice 9):=kf
@[go_sem] theorem Zri : Y8 Tryz.prog 22=some 1:=kf
@[go_sem] theorem Zpd : XQ Tryz.prog 22=some false:=kf
@[go_sem] theorem Zpy : Wj Tryz.prog 22=some (none,1):=kf
@[go_sem] theorem ZoU : U7 Tryz.prog 22=some 1:=kf
@[go_sem] theorem ZrF : Tryz.prog.underlying 23=some (.slice 184):=kf
@[go_sem] theorem Zrj : Y8 Tryz.prog 23=some 1:=kf
@[go_sem] theorem Zpe : XQ Tryz.prog 23=some false:=kf
@[go_sem] theorem Zpz : Wj Tryz.prog 23=some (none,6):=kf
@[go_sem] theorem Zrk : Y8 Tryz.prog 25=some 2:=kf
@[go_sem] theorem Zpf : XQ Tryz.prog 25=some true:=kf
@[go_sem] theorem Zlg : ZU Tryz.prog 25 0=some 0:=kf
@[go_sem] theorem Zlh : ZU Tryz.prog 25 1=some 1:=kf
@[go_sem] theorem Zq9 : Cb Tryz.prog 25=some (Ca [(0,1),(1,1)]):=kf
@[go_sem] theorem Zl9 : Xg Tryz.prog 25=some [.list true [],.list true []]:=kf
@[go_sem] theorem ZrG : Tryz.prog.underlying 26=some (.slice 71):=kf
@[go_sem] theorem Zrl : Y8 Tryz.prog 26=some 1:=kf
@[go_sem] theorem Zpg : XQ Tryz.prog 26=some false:=kf
@[go_sem] theorem ZpA : Wj Tryz.prog 26=some (none,14):=kf
@[go_sem] theorem ZoV : U7 Tryz.prog 26=some 14:=kf
@[go_sem] theorem Zat : Jc Tryz.prog 26=some (14,136):=kf
@[go_sem] theorem ZhP (H:List AM.Obj) (u:TypeId) (o n:Nat) (y:V):Vc Tryz.prog H 26 u (.sl o 0 n n) y=UH H (some (14,136)) (oat H o) o n (YR (Tryz.prog.underlying u) H y):=Yv Zat
@[go_sem] theorem ZrH : Tryz.prog.underlying 27=some (.slice 75):=kf
@[go_sem] theorem Zrm : Y8 Tryz.prog 27=some 1:=kf
@[go_sem] theorem Zph : XQ Tryz.prog 27=some false:=kf
@[go_sem] theorem ZpB : Wj Tryz.prog 27=some (none,16):=kf
@[go_sem] theorem ZoW : U7 Tryz.prog 27=some 16:=kf
@[go_sem] theorem Zau : Jc Tryz.prog 27=some (16,152):=kf
@[go_sem] theorem ZhQ (H:List AM.Obj) (u:TypeId) (o n:Nat) (y:V):Vc Tryz.prog H 27 u (.sl o 0 n n) y=UH H (some (16,152)) (oat H o) o n (YR (Tryz.prog.underlying u) H y):=Yv Zau
@[go_sem] theorem ZrI : Tryz.prog.underlying 28=some (.slice 105):=kf
@[go_sem] theorem Zrn : Y8 Tryz.prog 28=some 1:=kf
@[go_sem] theorem Zpi : XQ Tryz.prog 28=some false:=kf
@[go_sem] theorem ZpC : Wj Tryz.prog 28=some (none,2):=kf
@[go_sem] theorem ZoX : U7 Tryz.prog 28=some 2:=kf
@[go_sem] theorem Zav : Jc Tryz.prog 28=some (2,16):=kf
@[go_sem] theorem ZhR (H:List AM.Obj) (u:TypeId) (o n:Nat) (y:V):Vc Tryz.prog H 28 u (.sl o 0 n n) y=UH H (some (2,16)) (oat H o) o n (YR (Tryz.prog.underlying u) H y):=Yv Zav
@[go_sem] theorem Zro : Y8 Tryz.prog 30=some 6:=kf
@[go_sem] theorem Zpj : XQ Tryz.prog 30=some true:=kf
@[go_sem] theorem Zli : ZU Tryz.prog 30 0=some 0:=kf
@[go_sem] theorem Zlj : ZU Tryz.prog 30 1=some 2:=kf
@[go_sem] theorem Zlk : ZU Tryz.prog 30 2=some 3:=kf
@[go_sem] theorem Zll : ZU Tryz.prog 30 3=some 4:=kf
@[go_sem] theorem Zlm : ZU Tryz.prog 30 4=some 5:=kf
@[go_sem] theorem Zra : Cb Tryz.prog 30=some (Ca [(0,2),(2,1),(3,1),(4,1),(5,1)]):=kf
@[go_sem] theorem Zma : Xg Tryz.prog 30=some [.list true [],.list true [],.list true [],.list true [],.list true [],.list true []]:=kf
@[go_sem] theorem Zrp : Y8 Tryz.prog 32=some 2:=kf
@[go_sem] theorem Zpk : XQ Tryz.prog 32=some true:=kf
@[go_sem] theorem Zln : ZU Tryz.prog 32 0=some 0:=kf
@[go_sem] theorem Zlo : ZU Tryz.prog 32 1=some 1:=kf
@[go_sem] theorem xA : Tryz.prog.stoodInHeld 32=false:=kf
@[go_sem] theorem Zrb : Cb Tryz.prog 32=some (Ca [(0,1),(1,1)]):=kf
@[go_sem] theorem ZqL (d:Nat) (a b:List PV):Hn Tryz.prog d 32 (Tryz.prog.underlying 32) (.agg a) (.agg b)=ER (fO (VD Tryz.prog d 3) (apart Tryz.prog 3 a 0) (apart Tryz.prog 3 b 0)) (ER (fO (VD Tryz.prog d 3) (apart Tryz.prog 3 a 1) (apart Tryz.prog 3 b 1)) (some true)):=by rw [Tryz.underlying32,QM xA];simp [Av,Ce]
@[go_sem] theorem ZqZ : Tryz.prog.eqGuardType Tryz.prog.depth 32=false:=kf
@[go_sem] theorem Zmb : Xg Tryz.prog 32=some [.int .i64 0,.int .i64 0]:=kf
@[go_sem] theorem ZrJ : Tryz.prog.underlying 33=some (.slice 43):=kf
@[go_sem] theorem Zrq : Y8 Tryz.prog 33=some 1:=kf
@[go_sem] theorem Zpl : XQ Tryz.prog 33=some false:=kf
@[go_sem] theorem ZpD : Wj Tryz.prog 33=some (none,4):=kf
@[go_sem] theorem ZoY : U7 Tryz.prog 33=some 4:=kf
@[go_sem] theorem Zaw : Jc Tryz.prog 33=some (4,64):=kf
@[go_sem] theorem ZhS (H:List AM.Obj) (u:TypeId) (o n:Nat) (y:V):Vc Tryz.prog H 33 u (.sl o 0 n n) y=UH H (some (4,64)) (oat H o) o n (YR (Tryz.prog.underlying u) H y):=Yv Zaw
@[go_sem] theorem ZrK : Tryz.prog.underlying 34=some (.slice 3):=kf
@[go_sem] theorem Zrr : Y8 Tryz.prog 34=some 1:=kf
@[go_sem] theorem Zpm : XQ Tryz.prog 34=some false:=kf
@[go_sem] theorem ZpE : Wj Tryz.prog 34=some (none,1):=kf
@[go_sem] theorem ZoZ : U7 Tryz.prog 34=some 1:=kf
@[go_sem] theorem gX : Jc Tryz.prog 34=some (1,8):=kf
@[go_sem] theorem ZhM (H:List AM.Obj) (u:TypeId) (y:V):Vc Tryz.prog H 34 u (.p (.list true [])) y=M3 H (some (1,8)) (YR (Tryz.prog.underlying u) H y):=Cc gX
@[go_sem] theorem ZhT (H:List AM.Obj) (u:TypeId) (o n:Nat) (y:V):Vc Tryz.prog H 34 u (.sl o 0 n n) y=UH H (some (1,8)) (oat H o) o n (YR (Tryz.prog.underlying u) H y):=Yv gX
@[go_sem] theorem uT : Ta Tryz.prog 34=some (1,8,.int .i64 0):=kf
@[go_sem] theorem ZqM (H:List AM.Obj) (fr:List V) (x y:Operand):Vd Tryz.prog (.makeSlice 34 x y) fr H=Ja (some (1,8,.int .i64 0)) H (ev fr x) (ev fr y):=FL uT
@[go_sem] theorem Zrs : Y8 Tryz.prog 36=some 2:=kf
@[go_sem] theorem Zpn : XQ Tryz.prog 36=some true:=kf
@[go_sem] theorem Zlp : ZU Tryz.prog 36 0=some 0:=kf
@[go_sem] theorem Zlq : ZU Tryz.prog 36 1=some 1:=kf
@[go_sem] theorem Zrc : Cb Tryz.prog 36=some (Ca [(0,1),(1,1)]):=kf
@[go_sem] theorem Zmc : Xg Tryz.prog 36=some [.list true [],.list true []]:=kf
@[go_sem] theorem ZrL : Tryz.prog.underlying 40=some (.slice 4):=kf
@[go_sem] theorem Zrt : Y8 Tryz.prog 40=some 1:=kf
@[go_sem] theorem Zpo : XQ Tryz.prog 40=some false:=kf
@[go_sem] theorem ZpF : Wj Tryz.prog 40=some (none,1):=kf
@[go_sem] theorem Zo0 : U7 Tryz.prog 40=some 1:=kf
@[go_sem] theorem Zax : Jc Tryz.prog 40=some (1,1):=kf
@[go_sem] theorem ZhN (H:List AM.Obj) (u:TypeId) (y:V):Vc Tryz.prog H 40 u (.p (.list true [])) y=M3 H (some (1,1)) (YR (Tryz.prog.underlying u) H y):=Cc Zax
@[go_sem] theorem uU : Ta Tryz.prog 40=some (1,1,.bool false):=kf
@[go_sem] theorem ZqN (H:List AM.Obj) (fr:List V) (x y:Operand):Vd Tryz.prog (.makeSlice 40 x y) fr H=Ja (some (1,1,.bool false)) H (ev fr x) (ev fr y):=FL uU
@[go_sem] theorem ZrM : Tryz.prog.underlying 41=some (.slice 158):=kf
@[go_sem] theorem Zru : Y8 Tryz.prog 41=some 1:=kf
@[go_sem] theorem Zpp : XQ Tryz.prog 41=some false:=kf
@[go_sem] theorem ZpG : Wj Tryz.prog 41=some (none,2):=kf
@[go_sem] theorem Zo1 : U7 Tryz.prog 41=some 2:=kf
@[go_sem] theorem gY : Jc Tryz.prog 41=some (2,16):=kf
@[go_sem] theorem ZhU (H:List AM.Obj) (u:TypeId) (o n:Nat) (y:V):Vc Tryz.prog H 41 u (.sl o 0 n n) y=UH H (some (2,16)) (oat H o) o n (YR (Tryz.prog.underlying u) H y):=Yv gY
@[go_sem] theorem Zrv : Y8 Tryz.prog 43=some 4:=kf
@[go_sem] theorem Zpq : XQ Tryz.prog 43=some true:=kf
@[go_sem] theorem Zlr : ZU Tryz.prog 43 0=some 0:=kf
@[go_sem] theorem Zls : ZU Tryz.prog 43 1=some 1:=kf
@[go_sem] theorem Zlt : ZU Tryz.prog 43 2=some 2:=kf
@[go_sem] theorem Zlu : ZU Tryz.prog 43 3=some 3:=kf
@[go_sem] theorem Zrd : Cb Tryz.prog 43=some (Ca [(0,1),(1,1),(2,1),(3,1)]):=kf
@[go_sem] theorem Zmd : Xg Tryz.prog 43=some [.int .i64 0,.int .i64 0,.list true [],.list true []]:=kf
@[go_sem] theorem Zrw : Y8 Tryz.prog 44=some 1:=kf
@[go_sem] theorem Zpr : XQ Tryz.prog 44=some false:=kf
@[go_sem] theorem ZrN : Tryz.prog.underlying 49=some (.slice 32):=kf
@[go_sem] theorem Zrx : Y8 Tryz.prog 49=some 1:=kf
@[go_sem] theorem Zps : XQ Tryz.prog 49=some false:=kf
@[go_sem] theorem ZpH : Wj Tryz.prog 49=some (none,2):=kf
@[go_sem] theorem Zo2 : U7 Tryz.prog 49=some 2:=kf
@[go_sem] theorem Zay : Jc Tryz.prog 49=some (2,16):=kf
@[go_sem] theorem ZhV (H:List AM.Obj) (u:TypeId) (o n:Nat) (y:V):Vc Tryz.prog H 49 u (.sl o 0 n n) y=UH H (some (2,16)) (oat H o) o n (YR (Tryz.prog.underlying u) H y):=Yv Zay
@[go_sem] theorem Zme : Xg Tryz.prog 49=some [.list true []]:=kf
@[go_sem] theorem ZrO : Tryz.prog.underlying 68=some (.slice 138):=kf
@[go_sem] theorem ZpI : Wj Tryz.prog 68=some (none,2):=kf
@[go_sem] theorem Zo3 : U7 Tryz.prog 68=some 2:=kf
@[go_sem] theorem gZ : Jc Tryz.prog 68=some (2,24):=kf
@[go_sem] theorem ZhO (H:List AM.Obj) (u:TypeId) (y:V):Vc Tryz.prog H 68 u (.p (.list true [])) y=M3 H (some (2,24)) (YR (Tryz.prog.underlying u) H y):=Cc gZ
@[go_sem] theorem ZhW (H:List AM.Obj) (u:TypeId) (o n:Nat) (y:V):Vc Tryz.prog H 68 u (.sl o 0 n n) y=UH H (some (2,24)) (oat H o) o n (YR (Tryz.prog.underlying u) H y):=Yv gZ
@[go_sem] theorem Zry : Y8 Tryz.prog 71=some 14:=kf
@[go_sem] theorem Zpt : XQ Tryz.prog 71=some true:=kf
@[go_sem] theorem Zlv : ZU Tryz.prog 71 0=some 0:=kf
@[go_sem] theorem Zlw : ZU Tryz.prog 71 1=some 1:=kf
@[go_sem] theorem Zlx : ZU Tryz.prog 71 2=some 2:=kf
@[go_sem] theorem Zly : ZU Tryz.prog 71 3=some 3:=kf
@[go_sem] theorem Zlz : ZU Tryz.prog 71 4=some 4:=kf
@[go_sem] theorem ZlA : ZU Tryz.prog 71 5=some 5:=kf
@[go_sem] theorem ZlB : ZU Tryz.prog 71 6=some 6:=kf
@[go_sem] theorem ZlC : ZU Tryz.prog 71 7=some 7:=kf
@[go_sem] theorem ZlD : ZU Tryz.prog 71 8=some 8:=kf
@[go_sem] theorem ZlE : ZU Tryz.prog 71 9=some 9:=kf
@[go_sem] theorem Zhe : ZU Tryz.prog 71 10=some 10:=kf
@[go_sem] theorem Zhf : ZU Tryz.prog 71 11=some 11:=kf
@[go_sem] theorem Zhg : ZU Tryz.prog 71 12=some 12:=kf
@[go_sem] theorem Zhh : ZU Tryz.prog 71 13=some 13:=kf
@[go_sem] theorem Zre : Cb Tryz.prog 71=some (Ca [(0,1),(1,1),(2,1),(3,1),(4,1),(5,1),(6,1),(7,1),(8,1),(9,1),(10,1),(11,1),(12,1),(13,1)]):=kf
@[go_sem] theorem Zmf : Xg Tryz.prog 71=some [.str [],.int .i64 0,.int .i64 0,.int .i64 0,.list true [],.int .i64 0,.int .i64 0,.int .i64 0,.int .i64 0,.int .i64 0,.int .i64 0,.int .i64 0,.int .i64 0,.int .i64 0]:=kf
@[go_sem] theorem Zrz : Y8 Tryz.prog 73=some 4:=kf
@[go_sem] theorem Zpu : XQ Tryz.prog 73=some true:=kf
@[go_sem] theorem ZlF : ZU Tryz.prog 73 0=some 0:=kf
@[go_sem] theorem ZlG : ZU Tryz.prog 73 1=some 1:=kf
@[go_sem] theorem ZlH : ZU Tryz.prog 73 2=some 2:=kf
@[go_sem] theorem ZlI : ZU Tryz.prog 73 3=some 3:=kf
@[go_sem] theorem Zrf : Cb Tryz.prog 73=some (Ca [(0,1),(1,1),(2,1),(3,1)]):=kf
@[go_sem] theorem Zmg : Xg Tryz.prog 73=some [.int .i64 0,.int .i64 0,.int .i64 0,.int .i64 0]:=kf
@[go_sem] theorem ZrA : Y8 Tryz.prog 75=some 16:=kf
@[go_sem] theorem Zpv : XQ Tryz.prog 75=some true:=kf
@[go_sem] theorem ZlJ : ZU Tryz.prog 75 0=some 0:=kf
@[go_sem] theorem ZlK : ZU Tryz.prog 75 1=some 1:=kf
@[go_sem] theorem ZlL : ZU Tryz.prog 75 2=some 2:=kf
@[go_sem] theorem ZlM : ZU Tryz.prog 75 3=some 6:=kf
@[go_sem] theorem ZlN : ZU Tryz.prog 75 4=some 10:=kf
@[go_sem] theorem ZlO : ZU Tryz.prog 75 5=some 11:=kf
@[go_sem] theorem ZlP : ZU Tryz.prog 75 6=some 12:=kf
@[go_sem] theorem ZlQ : ZU Tryz.prog 75 7=some 13:=kf
@[go_sem] theorem ZlR : ZU Tryz.prog 75 8=some 14:=kf
@[go_sem] theorem ZlS : ZU Tryz.prog 75 9=some 15:=kf
@[go_sem] theorem Zrg : Cb Tryz.prog 75=some (Ca [(0,1),(1,1),(2,4),(6,4),(10,1),(11,1),(12,1),(13,1),(14,1),(15,1)]):=kf
@[go_sem] theorem Zmh : Xg Tryz.prog 75=some [.str [],.list true [],.int .i64 0,.int .i64 0,.int .i64 0,.int .i64 0,.int .i64 0,.int .i64 0,.int .i64 0,.int .i64 0,.int .i64 0,.int .i64 0,.int .i64 0,.int .i64 0,.int .i64 0,.bool false]:=kf
@[go_sem] theorem ZrP : Tryz.prog.underlying 83=some (.slice 107):=kf
@[go_sem] theorem ZrB : Y8 Tryz.prog 83=some 1:=kf
@[go_sem] theorem Zpw : XQ Tryz.prog 83=some false:=kf
@[go_sem] theorem ZpJ : Wj Tryz.prog 83=some (none,7):=kf
@[go_sem] theorem Zo4 : U7 Tryz.prog 83=some 7:=kf
@[go_sem] theorem Zaz : Jc Tryz.prog 83=some (7,88):=kf
@[go_sem] theorem ZhX (H:List AM.Obj) (u:TypeId) (o n:Nat) (y:V):Vc Tryz.prog H 83 u (.sl o 0 n n) y=UH H (some (7,88)) (oat H o) o n (YR (Tryz.prog.underlying u) H y):=Yv Zaz
@[go_sem] theorem ZrC : Y8 Tryz.prog 88=some 4:=kf
@[go_sem] theorem Zpx : XQ Tryz.prog 88=some true:=kf
@[go_sem] theorem ZlT : ZU Tryz.prog 88 0=some 0:=kf
@[go_sem] theorem ZlU : ZU Tryz.prog 88 1=some 1:=kf
@[go_sem] theorem ZlV : ZU Tryz.prog 88 2=some 2:=kf
@[go_sem] theorem ZlW : ZU Tryz.prog 88 3=some 3:=kf
@[go_sem] theorem Zrh : Cb Tryz.prog 88=some (Ca [(0,1),(1,1),(2,1),(3,1)]):=kf
@[go_sem] theorem Zmi : Xg Tryz.prog 88=some [.int .i64 0,.int .i64 0,.int .i64 0,.int .i64 0]:=kf
@[go_sem] theorem Zp3 : Y8 Tryz.prog 105=some 2:=kf
@[go_sem] theorem Znt : XQ Tryz.prog 105=some true:=kf
@[go_sem] theorem ZnQ : Wj Tryz.prog 105=some ((some 2),1):=kf
@[go_sem] theorem Zhn : Xg Tryz.prog 105=some [.int .i64 0,.int .i64 0]:=kf
@[go_sem] theorem Zp4 : Y8 Tryz.prog 107=some 7:=kf
@[go_sem] theorem Znu : XQ Tryz.prog 107=some true:=kf
@[go_sem] theorem Zgj : ZU Tryz.prog 107 0=some 0:=kf
@[go_sem] theorem Zgk : ZU Tryz.prog 107 1=some 1:=kf
@[go_sem] theorem Zgl : ZU Tryz.prog 107 2=some 2:=kf
@[go_sem] theorem Zgm : ZU Tryz.prog 107 3=some 3:=kf
@[go_sem] theorem ZpL : Cb Tryz.prog 107=some (Ca [(0,1),(1,1),(2,1),(3,4)]):=kf
@[go_sem] theorem Zho : Xg Tryz.prog 107=some [.int .i64 0,.int .i64 0,.int .i64 0,.int .i64 0,.int .i64 0,.list true [],.list true []]:=kf
@[go_sem] theorem Zp5 : Y8 Tryz.prog 111=some 3:=kf
@[go_sem] theorem Znv : XQ Tryz.prog 111=some true:=kf
@[go_sem] theorem Zgn : ZU Tryz.prog 111 0=some 0:=kf
@[go_sem] theorem Zgo : ZU Tryz.prog 111 1=some 1:=kf
@[go_sem] theorem Zgp : ZU Tryz.prog 111 2=some 2:=kf
@[go_sem] theorem ZpM : Cb Tryz.prog 111=some (Ca [(0,1),(1,1),(2,1)]):=kf
@[go_sem] theorem Zhp : Xg Tryz.prog 111=some [.bool false,.list true [],.int .i64 0]:=kf
@[go_sem] theorem Zqr : Tryz.prog.underlying 116=some (.slice 299):=kf
@[go_sem] theorem Zp6 : Y8 Tryz.prog 116=some 1:=kf
@[go_sem] theorem Znw : XQ Tryz.prog 116=some false:=kf
@[go_sem] theorem ZnR : Wj Tryz.prog 116=some (none,4):=kf
@[go_sem] theorem Zm9 : U7 Tryz.prog 116=some 4:=kf
@[go_sem] theorem rK : Jc Tryz.prog 116=some (4,32):=kf
@[go_sem] theorem ZeO (H:List AM.Obj) (u:TypeId) (o n:Nat) (y:V):Vc Tryz.prog H 116 u (.sl o 0 n n) y=UH H (some (4,32)) (oat H o) o n (YR (Tryz.prog.underlying u) H y):=Yv rK
@[go_sem] theorem Zp7 : Y8 Tryz.prog 118=some 5:=kf
@[go_sem] theorem Znx : XQ Tryz.prog 118=some true:=kf
@[go_sem] theorem Zgq : ZU Tryz.prog 118 0=some 0:=kf
@[go_sem] theorem Zgr : ZU Tryz.prog 118 1=some 1:=kf
@[go_sem] theorem Zgs : ZU Tryz.prog 118 2=some 2:=kf
@[go_sem] theorem Zgt : ZU Tryz.prog 118 3=some 3:=kf
@[go_sem] theorem Zgu : ZU Tryz.prog 118 4=some 4:=kf
@[go_sem] theorem ZpN : Cb Tryz.prog 118=some (Ca [(0,1),(1,1),(2,1),(3,1),(4,1)]):=kf
@[go_sem] theorem Zhq : Xg Tryz.prog 118=some [.bool false,.int .i64 0,.list true [],.int .i64 0,.int .i64 0]:=kf
@[go_sem] theorem Zqs : Tryz.prog.underlying 134=some (.int .u64):=kf
@[go_sem] theorem Zgv : ZU Tryz.prog 138 0=some 0:=kf
@[go_sem] theorem Zgw : ZU Tryz.prog 138 1=some 1:=kf
@[go_sem] theorem ZpO : Cb Tryz.prog 138=some (Ca [(0,1),(1,1)]):=kf
@[go_sem] theorem Zhr : Xg Tryz.prog 138=some [.int .i64 0,.str []]:=kf
@[go_sem] theorem Zqt : Tryz.prog.underlying 141=some (.slice 44):=kf
@[go_sem] theorem ZnS : Wj Tryz.prog 141=some (none,1):=kf
@[go_sem] theorem Zna : U7 Tryz.prog 141=some 1:=kf
@[go_sem] theorem rL : Jc Tryz.prog 141=some (1,8):=kf
@[go_sem] theorem ZeP (H:List AM.Obj) (u:TypeId) (o n:Nat) (y:V):Vc Tryz.prog H 141 u (.sl o 0 n n) y=UH H (some (1,8)) (oat H o) o n (YR (Tryz.prog.underlying u) H y):=Yv rL
@[go_sem] theorem Zgx : ZU Tryz.prog 151 0=some 0:=kf
@[go_sem] theorem Zgy : ZU Tryz.prog 151 1=some 6:=kf
@[go_sem] theorem Zgz : ZU Tryz.prog 151 2=some 7:=kf
@[go_sem] theorem ZpP : Cb Tryz.prog 151=some (Ca [(0,6),(6,1),(7,3)]):=kf
@[go_sem] theorem Zhs : Xg Tryz.prog 151=some [.list true [],.list true [],.list true [],.list true [],.list true [],.list true [],.list true [],.bool false,.list true [],.int .i64 0]:=kf
@[go_sem] theorem Zp8 : Y8 Tryz.prog 153=some 1:=kf
@[go_sem] theorem Zny : XQ Tryz.prog 153=some false:=kf
@[go_sem] theorem Zp9 : Y8 Tryz.prog 158=some 2:=kf
@[go_sem] theorem Znz : XQ Tryz.prog 158=some true:=kf
@[go_sem] theorem ZgA : ZU Tryz.prog 158 0=some 0:=kf
@[go_sem] theorem ZgB : ZU Tryz.prog 158 1=some 1:=kf
@[go_sem] theorem pV : Tryz.prog.stoodInHeld 158=false:=kf
@[go_sem] theorem ZpQ : Cb Tryz.prog 158=some (Ca [(0,1),(1,1)]):=kf
@[go_sem] theorem Zoi (d:Nat) (a b:List PV):Hn Tryz.prog d 158 (Tryz.prog.underlying 158) (.agg a) (.agg b)=ER (fO (VD Tryz.prog d 3) (apart Tryz.prog 3 a 0) (apart Tryz.prog 3 b 0)) (ER (fO (VD Tryz.prog d 4) (apart Tryz.prog 4 a 1) (apart Tryz.prog 4 b 1)) (some true)):=by rw [Tryz.underlying158,QM pV];simp [Av,Ce]
@[go_sem] theorem Zou : Tryz.prog.eqGuardType Tryz.prog.depth 158=false:=kf
@[go_sem] theorem Zht : Xg Tryz.prog 158=some [.int .i64 0,.bool false]:=kf
@[go_sem] theorem Zqu : Tryz.prog.underlying 182=some (.slice 187):=kf
@[go_sem] theorem Zqa : Y8 Tryz.prog 182=some 1:=kf
@[go_sem] theorem ZnA : XQ Tryz.prog 182=some false:=kf
@[go_sem] theorem ZnT : Wj Tryz.prog 182=some (none,2):=kf
@[go_sem] theorem Zqb : Y8 Tryz.prog 184=some 6:=kf
@[go_sem] theorem ZnB : XQ Tryz.prog 184=some true:=kf
@[go_sem] theorem ZgC : ZU Tryz.prog 184 0=some 0:=kf
@[go_sem] theorem ZgD : ZU Tryz.prog 184 1=some 1:=kf
@[go_sem] theorem ZgE : ZU Tryz.prog 184 2=some 2:=kf
@[go_sem] theorem ZgF : ZU Tryz.prog 184 3=some 3:=kf
@[go_sem] theorem ZgG : ZU Tryz.prog 184 4=some 4:=kf
@[go_sem] theorem ZgH : ZU Tryz.prog 184 5=some 5:=kf
@[go_sem] theorem ZpR : Cb Tryz.prog 184=some (Ca [(0,1),(1,1),(2,1),(3,1),(4,1),(5,1)]):=kf
@[go_sem] theorem Zhu : Xg Tryz.prog 184=some [.int .i64 0,.int .i64 0,.int .i64 0,.int .i64 0,.list true [],.list true []]:=kf
@[go_sem] theorem Zqc : Y8 Tryz.prog 187=some 2:=kf
@[go_sem] theorem ZnC : XQ Tryz.prog 187=some true:=kf
@[go_sem] theorem ZgI : ZU Tryz.prog 187 0=some 0:=kf
@[go_sem] theorem ZgJ : ZU Tryz.prog 187 1=some 1:=kf
@[go_sem] theorem Zhv : Xg Tryz.prog 187=some [.int .i64 0,.int .i64 0]:=kf
@[go_sem] theorem Zqv : Tryz.prog.underlying 190=some (.slice 5):=kf
@[go_sem] theorem Znb : U7 Tryz.prog 190=some 1:=kf
@[go_sem] theorem ZnU : Wj Tryz.prog 195=some ((some 6),1):=kf
@[go_sem] theorem Zqd : Y8 Tryz.prog 197=some 8:=kf
@[go_sem] theorem ZnD : XQ Tryz.prog 197=some true:=kf
@[go_sem] theorem ZgK : ZU Tryz.prog 197 0=some 0:=kf
@[go_sem] theorem ZgL : ZU Tryz.prog 197 1=some 1:=kf
@[go_sem] theorem ZgM : ZU Tryz.prog 197 2=some 2:=kf
@[go_sem] theorem ZpS : Cb Tryz.prog 197=some (Ca [(0,1),(1,1),(2,6)]):=kf
@[go_sem] theorem Zhw : Xg Tryz.prog 197=some [.int .i64 0,.int .i64 0,.int .i64 0,.int .i64 0,.int .i64 0,.int .i64 0,.int .i64 0,.int .i64 0]:=kf
@[go_sem] theorem Zqw : Tryz.prog.underlying 216=some (.slice 34):=kf
@[go_sem] theorem ZnV : Wj Tryz.prog 216=some (none,1):=kf
@[go_sem] theorem Znc : U7 Tryz.prog 216=some 1:=kf
@[go_sem] theorem rM : Jc Tryz.prog 216=some (1,24):=kf
@[go_sem] theorem ZeQ (H:List AM.Obj) (u:TypeId) (o n:Nat) (y:V):Vc Tryz.prog H 216 u (.sl o 0 n n) y=UH H (some (1,24)) (oat H o) o n (YR (Tryz.prog.underlying u) H y):=Yv rM
@[go_sem] theorem ZgN : ZU Tryz.prog 240 0=some 0:=kf
@[go_sem] theorem ZgO : ZU Tryz.prog 240 1=some 6:=kf
@[go_sem] theorem ZgP : ZU Tryz.prog 240 2=some 7:=kf
@[go_sem] theorem ZgQ : ZU Tryz.prog 240 3=some 8:=kf
@[go_sem] theorem ZgR : ZU Tryz.prog 240 4=some 9:=kf
@[go_sem] theorem ZgS : ZU Tryz.prog 240 5=some 16:=kf
@[go_sem] theorem ZpT : Cb Tryz.prog 240=some (Ca [(0,6),(6,1),(7,1),(8,1),(9,7),(16,1)]):=kf
@[go_sem] theorem Zhx : Xg Tryz.prog 240=some [.list true [],.list true [],.list true [],.list true [],.list true [],.list true [],.int .i64 0,.int .i64 0,.int .i64 0,.int .i64 0,.int .i64 0,.int .i64 0,.int .i64 0,.int .i64 0,.list true [],.list true [],.bool false]:=kf
@[go_sem] theorem Zqx : Tryz.prog.underlying 244=some (.slice 278):=kf
@[go_sem] theorem ZnW : Wj Tryz.prog 244=some (none,2):=kf
@[go_sem] theorem Znd : U7 Tryz.prog 244=some 2:=kf
@[go_sem] theorem Se : Jc Tryz.prog 244=some (2,16):=kf
@[go_sem] theorem ZeN (H:List AM.Obj) (u:TypeId) (y:V):Vc Tryz.prog H 244 u (.p (.list true [])) y=M3 H (some (2,16)) (YR (Tryz.prog.underlying u) H y):=Cc Se
@[go_sem] theorem ZeR (H:List AM.Obj) (u:TypeId) (o n:Nat) (y:V):Vc Tryz.prog H 244 u (.sl o 0 n n) y=UH H (some (2,16)) (oat H o) o n (YR (Tryz.prog.underlying u) H y):=Yv Se
@[go_sem] theorem Zqe : Y8 Tryz.prog 246=some 1:=kf
@[go_sem] theorem ZnE : XQ Tryz.prog 246=some false:=kf
@[go_sem] theorem Zqf : Y8 Tryz.prog 248=some 1:=kf
@[go_sem] theorem ZnF : XQ Tryz.prog 248=some false:=kf
@[go_sem] theorem ZnX : Wj Tryz.prog 248=some (none,1):=kf
@[go_sem] theorem ZgT : ZU Tryz.prog 250 0=some 0:=kf
@[go_sem] theorem ZgU : ZU Tryz.prog 250 1=some 6:=kf
@[go_sem] theorem ZgV : ZU Tryz.prog 250 2=some 7:=kf
@[go_sem] theorem ZgW : ZU Tryz.prog 250 3=some 8:=kf
@[go_sem] theorem ZgX : ZU Tryz.prog 250 4=some 9:=kf
@[go_sem] theorem ZpU : Cb Tryz.prog 250=some (Ca [(0,6),(6,1),(7,1),(8,1),(9,1)]):=kf
@[go_sem] theorem Zhy : Xg Tryz.prog 250=some [.list true [],.list true [],.list true [],.list true [],.list true [],.list true [],.list true [],.list true [],.nilm,.int .i64 0]:=kf
@[go_sem] theorem Zqg : Y8 Tryz.prog 278=some 2:=kf
@[go_sem] theorem ZnG : XQ Tryz.prog 278=some true:=kf
@[go_sem] theorem ZgY : ZU Tryz.prog 278 0=some 0:=kf
@[go_sem] theorem ZgZ : ZU Tryz.prog 278 1=some 1:=kf
@[go_sem] theorem pW : Tryz.prog.stoodInHeld 278=false:=kf
@[go_sem] theorem ZpV : Cb Tryz.prog 278=some (Ca [(0,1),(1,1)]):=kf
@[go_sem] theorem Zoj (d:Nat) (a b:List PV):Hn Tryz.prog d 278 (Tryz.prog.underlying 278) (.agg a) (.agg b)=ER (fO (VD Tryz.prog d 3) (apart Tryz.prog 3 a 0) (apart Tryz.prog 3 b 0)) (ER (fO (VD Tryz.prog d 3) (apart Tryz.prog 3 a 1) (apart Tryz.prog 3 b 1)) (some true)):=by rw [Tryz.underlying278,QM pW];simp [Av,Ce]
@[go_sem] theorem Zov : Tryz.prog.eqGuardType Tryz.prog.depth 278=false:=kf
@[go_sem] theorem Zhz : Xg Tryz.prog 278=some [.int .i64 0,.int .i64 0]:=kf
@[go_sem] theorem Zqh : Y8 Tryz.prog 283=some 2:=kf
@[go_sem] theorem ZnH : XQ Tryz.prog 283=some true:=kf
@[go_sem] theorem ZpW : Cb Tryz.prog 283=some (Ca [(0,1),(1,1)]):=kf
@[go_sem] theorem ZhA : Xg Tryz.prog 283=some [.int .i64 0,.int .i64 0]:=kf
@[go_sem] theorem Zqy : Tryz.prog.underlying 284=some (.array 4 3):=kf
@[go_sem] theorem Zqi : Y8 Tryz.prog 284=some 4:=kf
@[go_sem] theorem ZnI : XQ Tryz.prog 284=some true:=kf
@[go_sem] theorem ZpX : Cb Tryz.prog 284=some (plA 1):=kf
@[go_sem] theorem ZhB : Xg Tryz.prog 284=some [.int .i64 0,.int .i64 0,.int .i64 0,.int .i64 0]:=kf
@[go_sem] theorem Zqj : Y8 Tryz.prog 294=some 4:=kf
@[go_sem] theorem ZnJ : XQ Tryz.prog 294=some true:=kf
@[go_sem] theorem Zg0 : ZU Tryz.prog 294 0=some 0:=kf
@[go_sem] theorem Zg1 : ZU Tryz.prog 294 1=some 1:=kf
@[go_sem] theorem Zg2 : ZU Tryz.prog 294 2=some 2:=kf
@[go_sem] theorem Zg3 : ZU Tryz.prog 294 3=some 3:=kf
@[go_sem] theorem ZpY : Cb Tryz.prog 294=some (Ca [(0,1),(1,1),(2,1),(3,1)]):=kf
@[go_sem] theorem ZhC : Xg Tryz.prog 294=some [.int .i64 0,.int .i64 0,.int .i64 0,.int .i64 0]:=kf
@[go_sem] theorem Zqk : Y8 Tryz.prog 299=some 4:=kf
@[go_sem] theorem ZnK : XQ Tryz.prog 299=some true:=kf
@[go_sem] theorem Zg4 : ZU Tryz.prog 299 1=some 1:=kf
@[go_sem] theorem Zg5 : ZU Tryz.prog 299 2=some 2:=kf
@[go_sem] theorem Zg6 : ZU Tryz.prog 299 3=some 3:=kf
@[go_sem] theorem ZpZ : Cb Tryz.prog 299=some (Ca [(0,1),(1,1),(2,1),(3,1)]):=kf
@[go_sem] theorem ZhD : Xg Tryz.prog 299=some [.int .i64 0,.int .i64 0,.int .i64 0,.bool false]:=kf
@[go_sem] theorem ZnY : Wj Tryz.prog 309=some ((some 64),1):=kf
@[go_sem] theorem Zqz : Tryz.prog.underlying 313=some (.slice 153):=kf
@[go_sem] theorem ZnZ : Wj Tryz.prog 313=some (none,1):=kf
@[go_sem] theorem Zne : U7 Tryz.prog 313=some 1:=kf
@[go_sem] theorem ZqA : Tryz.prog.underlying 328=some (.slice 73):=kf
@[go_sem] theorem Zql : Y8 Tryz.prog 328=some 1:=kf
@[go_sem] theorem ZnL : XQ Tryz.prog 328=some false:=kf
@[go_sem] theorem Zn0 : Wj Tryz.prog 328=some (none,4):=kf
@[go_sem] theorem Znf : U7 Tryz.prog 328=some 4:=kf
@[go_sem] theorem rN : Jc Tryz.prog 328=some (4,32):=kf
@[go_sem] theorem ZeS (H:List AM.Obj) (u:TypeId) (o n:Nat) (y:V):Vc Tryz.prog H 328 u (.sl o 0 n n) y=UH H (some (4,32)) (oat H o) o n (YR (Tryz.prog.underlying u) H y):=Yv rN
@[go_sem] theorem Zqm : Y8 Tryz.prog 330=some 25:=kf
@[go_sem] theorem ZnM : XQ Tryz.prog 330=some true:=kf
@[go_sem] theorem Zg7 : ZU Tryz.prog 330 0=some 0:=kf
@[go_sem] theorem Zg8 : ZU Tryz.prog 330 1=some 6:=kf
@[go_sem] theorem Zg9 : ZU Tryz.prog 330 2=some 20:=kf
@[go_sem] theorem Zha : ZU Tryz.prog 330 3=some 24:=kf
@[go_sem] theorem Zp0 : Cb Tryz.prog 330=some (Ca [(0,6),(6,14),(20,4),(24,1)]):=kf
@[go_sem] theorem ZhE : Xg Tryz.prog 330=some [.list true [],.list true [],.list true [],.list true [],.list true [],.list true [],.str [],.int .i64 0,.int .i64 0,.int .i64 0,.list true [],.int .i64 0,.int .i64 0,.int .i64 0,.int .i64 0,.int .i64 0,.int .i64 0,.int .i64 0,.int .i64 0,.int .i64 0,.int .i64 0,.int .i64 0,.list true [],.list true [],.list true []]:=kf
@[go_sem] theorem Zqn : Y8 Tryz.prog 334=some 7:=kf
@[go_sem] theorem ZnN : XQ Tryz.prog 334=some true:=kf
@[go_sem] theorem Zhb : ZU Tryz.prog 334 0=some 0:=kf
@[go_sem] theorem Zhc : ZU Tryz.prog 334 1=some 1:=kf
@[go_sem] theorem Zhd : ZU Tryz.prog 334 2=some 2:=kf
@[go_sem] theorem Zp1 : Cb Tryz.prog 334=some (Ca [(0,1),(1,1),(2,5)]):=kf
@[go_sem] theorem ZhF : Xg Tryz.prog 334=some [.int .i64 0,.int .i64 0,.bool false,.int .i64 0,.list true [],.int .i64 0,.int .i64 0]:=kf
@[go_sem] theorem ZqB : Tryz.prog.underlying 336=some (.slice 334):=kf
@[go_sem] theorem Zn1 : Wj Tryz.prog 336=some (none,7):=kf
@[go_sem] theorem Zng : U7 Tryz.prog 336=some 7:=kf
@[go_sem] theorem rO : Jc Tryz.prog 336=some (7,72):=kf
@[go_sem] theorem ZeT (H:List AM.Obj) (u:TypeId) (o n:Nat) (y:V):Vc Tryz.prog H 336 u (.sl o 0 n n) y=UH H (some (7,72)) (oat H o) o n (YR (Tryz.prog.underlying u) H y):=Yv rO
@[go_sem] theorem Zqo : Y8 Tryz.prog 342=some 3:=kf
@[go_sem] theorem ZnO : XQ Tryz.prog 342=some true:=kf
@[go_sem] theorem pX : Tryz.prog.stoodInHeld 342=false:=kf
@[go_sem] theorem Zp2 : Cb Tryz.prog 342=some (Ca [(0,1),(1,1),(2,1)]):=kf
@[go_sem] theorem Zok (d:Nat) (a b:List PV):Hn Tryz.prog d 342 (Tryz.prog.underlying 342) (.agg a) (.agg b)=ER (fO (VD Tryz.prog d 3) (apart Tryz.prog 3 a 0) (apart Tryz.prog 3 b 0)) (ER (fO (VD Tryz.prog d 3) (apart Tryz.prog 3 a 1) (apart Tryz.prog 3 b 1)) (ER (fO (VD Tryz.prog d 3) (apart Tryz.prog 3 a 2) (apart Tryz.prog 3 b 2)) (some true))):=by rw [Tryz.underlying342,QM pX];simp [Av,Ce]
@[go_sem] theorem Zow : Tryz.prog.eqGuardType Tryz.prog.depth 342=false:=kf
@[go_sem] theorem ZhG : Xg Tryz.prog 342=some [.int .i64 0,.int .i64 0,.int .i64 0]:=kf
theorem ZoP : Zj Tryz.prog 3:=fun args w=>Tryz.call3 args w
theorem ZoQ : Zj Tryz.prog 7:=fun args w=>Tryz.call7 args w
theorem ZoR : Zj Tryz.prog 8:=fun args w=>Tryz.call8 args w
theorem ZoS : Zj Tryz.prog 9:=fun args w=>Tryz.call9 args w
theorem Zjg : Zj Tryz.prog 10:=fun args w=>Tryz.call10 args w
theorem Zjh : Zj Tryz.prog 11:=fun args w=>Tryz.call11 args w
theorem Zji : Zj Tryz.prog 12:=fun args w=>Tryz.call12 args w
theorem Zjj : Zj Tryz.prog 13:=fun args w=>Tryz.call13 args w
theorem Zjk : Zj Tryz.prog 19:=fun args w=>Tryz.call19 args w
theorem Zjl : Zj Tryz.prog 21:=fun args w=>Tryz.call21 args w
theorem Zjm : Zj Tryz.prog 22:=fun args w=>Tryz.call22 args w
theorem Zjn : Zj Tryz.prog 23:=fun args w=>Tryz.call23 args w
theorem Zjo : Zj Tryz.prog 24:=fun args w=>Tryz.call24 args w
theorem Zjp : Zj Tryz.prog 25:=fun args w=>Tryz.call25 args w
theorem Zjq : Zj Tryz.prog 26:=fun args w=>Tryz.call26 args w
theorem Zjr : Zj Tryz.prog 27:=fun args w=>Tryz.call27 args w
theorem Zjs : Zj Tryz.prog 28:=fun args w=>Tryz.call28 args w
theorem Zjt : Zj Tryz.prog 29:=fun args w=>Tryz.call29 args w
theorem Zju : Zj Tryz.prog 30:=fun args w=>Tryz.call30 args w
theorem Zjv : Zj Tryz.prog 31:=fun args w=>Tryz.call31 args w
theorem Zjw : Zj Tryz.prog 32:=fun args w=>Tryz.call32 args w
theorem Zjx : Zj Tryz.prog 33:=fun args w=>Tryz.call33 args w
theorem Zjy : Zj Tryz.prog 34:=fun args w=>Tryz.call34 args w
theorem Zjz : Zj Tryz.prog 35:=fun args w=>Tryz.call35 args w
theorem ZjA : Zj Tryz.prog 40:=fun args w=>Tryz.call40 args w
theorem ZjB : Zj Tryz.prog 41:=fun args w=>Tryz.call41 args w
theorem ZjC : Zj Tryz.prog 42:=fun args w=>Tryz.call42 args w
theorem ZjD : Zj Tryz.prog 43:=fun args w=>Tryz.call43 args w
theorem ZjE : Zj Tryz.prog 44:=fun args w=>Tryz.call44 args w
theorem ZjF : Zj Tryz.prog 45:=fun args w=>Tryz.call45 args w
theorem ZjG : Zj Tryz.prog 46:=fun args w=>Tryz.call46 args w
theorem ZjH : Zj Tryz.prog 47:=fun args w=>Tryz.call47 args w
theorem ZjI : Zj Tryz.prog 48:=fun args w=>Tryz.call48 args w
theorem ZjJ : Zj Tryz.prog 49:=fun args w=>Tryz.call49 args w
theorem ZjK : Zj Tryz.prog 50:=fun args w=>Tryz.call50 args w
theorem ZjL : Zj Tryz.prog 51:=fun args w=>Tryz.call51 args w
theorem ZjM : Zj Tryz.prog 52:=fun args w=>Tryz.call52 args w
theorem ZjN : Zj Tryz.prog 53:=fun args w=>Tryz.call53 args w
theorem ZjO : Zj Tryz.prog 54:=fun args w=>Tryz.call54 args w
theorem ZjP : Zj Tryz.prog 55:=fun args w=>Tryz.call55 args w
theorem ZjQ : Zj Tryz.prog 56:=fun args w=>Tryz.call56 args w
theorem ZjR : Zj Tryz.prog 57:=fun args w=>Tryz.call57 args w
theorem ZjS : Zj Tryz.prog 58:=fun args w=>Tryz.call58 args w
theorem ZjT : Zj Tryz.prog 59:=fun args w=>Tryz.call59 args w
theorem ZjU : Zj Tryz.prog 60:=fun args w=>Tryz.call60 args w
theorem yX : Zj Tryz.prog 61:=fun args w=>Tryz.call61 args w
theorem ZjV : Zj Tryz.prog 62:=fun args w=>Tryz.call62 args w
theorem ZjW : Zj Tryz.prog 63:=fun args w=>Tryz.call63 args w
theorem ZjX : Zj Tryz.prog 64:=fun args w=>Tryz.call64 args w
theorem ZjY : Zj Tryz.prog 65:=fun args w=>Tryz.call65 args w
theorem ZjZ : Zj Tryz.prog 66:=fun args w=>Tryz.call66 args w
theorem Zj0 : Zj Tryz.prog 69:=fun args w=>Tryz.call69 args w
theorem Zj1 : Zj Tryz.prog 71:=fun args w=>Tryz.call71 args w
theorem Zj2 : Zj Tryz.prog 72:=fun args w=>Tryz.call72 args w
theorem Zj3 : Zj Tryz.prog 73:=fun args w=>Tryz.call73 args w
theorem Zj4 : Zj Tryz.prog 74:=fun args w=>Tryz.call74 args w
theorem Zj5 : Zj Tryz.prog 75:=fun args w=>Tryz.call75 args w
theorem Zj6 : Zj Tryz.prog 76:=fun args w=>Tryz.call76 args w
theorem Zj7 : Zj Tryz.prog 77:=fun args w=>Tryz.call77 args w
theorem Zj8 : Zj Tryz.prog 78:=fun args w=>Tryz.call78 args w
theorem Zj9 : Zj Tryz.prog 79:=fun args w=>Tryz.call79 args w
theorem Zka : Zj Tryz.prog 80:=fun args w=>Tryz.call80 args w
theorem Zkb : Zj Tryz.prog 81:=fun args w=>Tryz.call81 args w
theorem Zkc : Zj Tryz.prog 82:=fun args w=>Tryz.call82 args w
theorem yY : Zj Tryz.prog 83:=fun args w=>Tryz.call83 args w
theorem Zkd : Zj Tryz.prog 84:=fun args w=>Tryz.call84 args w
theorem yZ : Zj Tryz.prog 85:=fun args w=>Tryz.call85 args w
theorem Zke : Zj Tryz.prog 86:=fun args w=>Tryz.call86 args w
theorem Zkf : Zj Tryz.prog 87:=fun args w=>Tryz.call87 args w
theorem Zkg : Zj Tryz.prog 88:=fun args w=>Tryz.call88 args w
theorem Zkh : Zj Tryz.prog 89:=fun args w=>Tryz.call89 args w
theorem Zki : Zj Tryz.prog 90:=fun args w=>Tryz.call90 args w
theorem zA : Zj Tryz.prog 91:=fun args w=>Tryz.call91 args w
theorem Zkj : Zj Tryz.prog 92:=fun args w=>Tryz.call92 args w
theorem zB : Zj Tryz.prog 93:=fun args w=>Tryz.call93 args w
theorem Zkk : Zj Tryz.prog 94:=fun args w=>Tryz.call94 args w
theorem Zkl : Zj Tryz.prog 95:=fun args w=>Tryz.call95 args w
theorem Zkm : Zj Tryz.prog 97:=fun args w=>Tryz.call97 args w
theorem Zbp : Zj Tryz.prog 108:=fun args w=>Tryz.call108 args w
theorem Zbq : Zj Tryz.prog 109:=fun args w=>Tryz.call109 args w
theorem Zbr : Zj Tryz.prog 110:=fun args w=>Tryz.call110 args w
theorem Zbs : Zj Tryz.prog 111:=fun args w=>Tryz.call111 args w
theorem Zbt : Zj Tryz.prog 112:=fun args w=>Tryz.call112 args w
theorem Zbu : Zj Tryz.prog 113:=fun args w=>Tryz.call113 args w
theorem Zbv : Zj Tryz.prog 114:=fun args w=>Tryz.call114 args w
theorem Zbw : Zj Tryz.prog 115:=fun args w=>Tryz.call115 args w
theorem Zbx : Zj Tryz.prog 116:=fun args w=>Tryz.call116 args w
theorem Zby : Zj Tryz.prog 117:=fun args w=>Tryz.call117 args w
theorem Zbz : Zj Tryz.prog 118:=fun args w=>Tryz.call118 args w
theorem ZbA : Zj Tryz.prog 119:=fun args w=>Tryz.call119 args w
theorem ZbB : Zj Tryz.prog 120:=fun args w=>Tryz.call120 args w
theorem ZbC : Zj Tryz.prog 121:=fun args w=>Tryz.call121 args w
theorem ZbD : Zj Tryz.prog 122:=fun args w=>Tryz.call122 args w
theorem lW : Zj Tryz.prog 123:=fun args w=>Tryz.call123 args w
theorem ZbE : Zj Tryz.prog 124:=fun args w=>Tryz.call124 args w
theorem ZbF : Zj Tryz.prog 125:=fun args w=>Tryz.call125 args w
theorem ZbG : Zj Tryz.prog 126:=fun args w=>Tryz.call126 args w
theorem ZbH : Zj Tryz.prog 127:=fun args w=>Tryz.call127 args w
theorem ZbI : Zj Tryz.prog 128:=fun args w=>Tryz.call128 args w
theorem ZbJ : Zj Tryz.prog 129:=fun args w=>Tryz.call129 args w
theorem ZbK : Zj Tryz.prog 130:=fun args w=>Tryz.call130 args w
theorem ZbL : Zj Tryz.prog 131:=fun args w=>Tryz.call131 args w
theorem ZbM : Zj Tryz.prog 132:=fun args w=>Tryz.call132 args w
theorem ZbN : Zj Tryz.prog 133:=fun args w=>Tryz.call133 args w
theorem ZbO : Zj Tryz.prog 134:=fun args w=>Tryz.call134 args w
theorem ZbP : Zj Tryz.prog 135:=fun args w=>Tryz.call135 args w
theorem ZbQ : Zj Tryz.prog 136:=fun args w=>Tryz.call136 args w
theorem ZbR : Zj Tryz.prog 137:=fun args w=>Tryz.call137 args w
theorem ZbS : Zj Tryz.prog 138:=fun args w=>Tryz.call138 args w
theorem ZbT : Zj Tryz.prog 139:=fun args w=>Tryz.call139 args w
theorem ZbU : Zj Tryz.prog 140:=fun args w=>Tryz.call140 args w
theorem ZbV : Zj Tryz.prog 141:=fun args w=>Tryz.call141 args w
theorem ZbW : Zj Tryz.prog 142:=fun args w=>Tryz.call142 args w
theorem ZbX : Zj Tryz.prog 143:=fun args w=>Tryz.call143 args w
theorem ZbY : Zj Tryz.prog 157:=fun args w=>Tryz.call157 args w
theorem ZbZ : Zj Tryz.prog 158:=fun args w=>Tryz.call158 args w
theorem Zb0 : Zj Tryz.prog 159:=fun args w=>Tryz.call159 args w
theorem Zb1 : Zj Tryz.prog 160:=fun args w=>Tryz.call160 args w
theorem Zb2 : Zj Tryz.prog 161:=fun args w=>Tryz.call161 args w
theorem lX : Zj Tryz.prog 162:=fun args w=>Tryz.call162 args w
theorem lY : Zj Tryz.prog 163:=fun args w=>Tryz.call163 args w
theorem Zb3 : Zj Tryz.prog 164:=fun args w=>Tryz.call164 args w
theorem Zb4 : Zj Tryz.prog 165:=fun args w=>Tryz.call165 args w
theorem Zb5 : Zj Tryz.prog 166:=fun args w=>Tryz.call166 args w
theorem Zb6 : Zj Tryz.prog 167:=fun args w=>Tryz.call167 args w
theorem Zb7 : Zj Tryz.prog 168:=fun args w=>Tryz.call168 args w
theorem Zb8 : Zj Tryz.prog 169:=fun args w=>Tryz.call169 args w
theorem Zb9 : Zj Tryz.prog 170:=fun args w=>Tryz.call170 args w
theorem Zca : Zj Tryz.prog 171:=fun args w=>Tryz.call171 args w
theorem Zcb : Zj Tryz.prog 172:=fun args w=>Tryz.call172 args w
theorem Zcc : Zj Tryz.prog 174:=fun args w=>Tryz.call174 args w
theorem Zcd : Zj Tryz.prog 175:=fun args w=>Tryz.call175 args w
theorem Zce : Zj Tryz.prog 176:=fun args w=>Tryz.call176 args w
theorem Zcf : Zj Tryz.prog 177:=fun args w=>Tryz.call177 args w
theorem Zcg : Zj Tryz.prog 178:=fun args w=>Tryz.call178 args w
theorem Zch : Zj Tryz.prog 179:=fun args w=>Tryz.call179 args w
theorem Zci : Zj Tryz.prog 180:=fun args w=>Tryz.call180 args w
theorem Zcj : Zj Tryz.prog 181:=fun args w=>Tryz.call181 args w
theorem Zck : Zj Tryz.prog 182:=fun args w=>Tryz.call182 args w
theorem Zcl : Zj Tryz.prog 187:=fun args w=>Tryz.call187 args w
theorem lZ : Zj Tryz.prog 188:=fun args w=>Tryz.call188 args w
theorem Zcm : Zj Tryz.prog 189:=fun args w=>Tryz.call189 args w
theorem Zcn : Zj Tryz.prog 190:=fun args w=>Tryz.call190 args w
theorem Zco : Zj Tryz.prog 191:=fun args w=>Tryz.call191 args w
theorem Zcp : Zj Tryz.prog 192:=fun args w=>Tryz.call192 args w
theorem Zcq : Zj Tryz.prog 193:=fun args w=>Tryz.call193 args w
theorem Zcr : Zj Tryz.prog 194:=fun args w=>Tryz.call194 args w
theorem Zcs : Zj Tryz.prog 195:=fun args w=>Tryz.call195 args w
theorem mA : Zj Tryz.prog 196:=fun args w=>Tryz.call196 args w
theorem Zct : Zj Tryz.prog 197:=fun args w=>Tryz.call197 args w
theorem Zcu : Zj Tryz.prog 198:=fun args w=>Tryz.call198 args w
theorem Zcv : Zj Tryz.prog 199:=fun args w=>Tryz.call199 args w
theorem Zcw : Zj Tryz.prog 200:=fun args w=>Tryz.call200 args w
theorem Zcx : Zj Tryz.prog 201:=fun args w=>Tryz.call201 args w
theorem Vo : Zj Tryz.prog 211:=fun args w=>Tryz.call211 args w
theorem Zcy : Zj Tryz.prog 212:=fun args w=>Tryz.call212 args w
theorem Zcz : Zj Tryz.prog 213:=fun args w=>Tryz.call213 args w
theorem ZcA : Zj Tryz.prog 214:=fun args w=>Tryz.call214 args w
theorem ZcB : Zj Tryz.prog 215:=fun args w=>Tryz.call215 args w
theorem ZcC : Zj Tryz.prog 216:=fun args w=>Tryz.call216 args w
theorem ZcD : Zj Tryz.prog 218:=fun args w=>Tryz.call218 args w
theorem ZcE : Zj Tryz.prog 219:=fun args w=>Tryz.call219 args w
theorem ZcF : Zj Tryz.prog 220:=fun args w=>Tryz.call220 args w
theorem ZcG : Zj Tryz.prog 221:=fun args w=>Tryz.call221 args w
theorem ZcH : Zj Tryz.prog 222:=fun args w=>Tryz.call222 args w
theorem ZcI : Zj Tryz.prog 223:=fun args w=>Tryz.call223 args w
theorem ZcJ : Zj Tryz.prog 227:=fun args w=>Tryz.call227 args w
theorem ZcK : Zj Tryz.prog 228:=fun args w=>Tryz.call228 args w
theorem ZcL : Zj Tryz.prog 229:=fun args w=>Tryz.call229 args w
theorem ZcM : Zj Tryz.prog 230:=fun args w=>Tryz.call230 args w
theorem ZcN : Zj Tryz.prog 231:=fun args w=>Tryz.call231 args w
theorem ZcO : Zj Tryz.prog 232:=fun args w=>Tryz.call232 args w
theorem ZcP : Zj Tryz.prog 233:=fun args w=>Tryz.call233 args w
theorem ZcQ : Zj Tryz.prog 234:=fun args w=>Tryz.call234 args w
theorem ZcR : Zj Tryz.prog 235:=fun args w=>Tryz.call235 args w
theorem ZcS : Zj Tryz.prog 236:=fun args w=>Tryz.call236 args w
theorem ZcT : Zj Tryz.prog 237:=fun args w=>Tryz.call237 args w
theorem ZcU : Zj Tryz.prog 238:=fun args w=>Tryz.call238 args w
theorem ZcV : Zj Tryz.prog 239:=fun args w=>Tryz.call239 args w
theorem ZcW : Zj Tryz.prog 240:=fun args w=>Tryz.call240 args w
theorem ZcX : Zj Tryz.prog 241:=fun args w=>Tryz.call241 args w
theorem ZcY : Zj Tryz.prog 243:=fun args w=>Tryz.call243 args w
theorem ZcZ : Zj Tryz.prog 244:=fun args w=>Tryz.call244 args w
theorem Zc0 : Zj Tryz.prog 245:=fun args w=>Tryz.call245 args w
theorem Zc1 : Zj Tryz.prog 246:=fun args w=>Tryz.call246 args w
theorem Zc2 : Zj Tryz.prog 247:=fun args w=>Tryz.call247 args w
theorem Zc3 : Zj Tryz.prog 248:=fun args w=>Tryz.call248 args w
theorem Zc4 : Zj Tryz.prog 249:=fun args w=>Tryz.call249 args w
theorem Zc5 : Zj Tryz.prog 250:=fun args w=>Tryz.call250 args w
theorem Zc6 : Zj Tryz.prog 251:=fun args w=>Tryz.call251 args w
theorem Zc7 : Zj Tryz.prog 252:=fun args w=>Tryz.call252 args w
theorem Zc8 : Zj Tryz.prog 253:=fun args w=>Tryz.call253 args w
theorem Zc9 : Zj Tryz.prog 254:=fun args w=>Tryz.call254 args w
theorem Zda : Zj Tryz.prog 255:=fun args w=>Tryz.call255 args w
theorem mB : Zj Tryz.prog 256:=fun args w=>Tryz.call256 args w
theorem Zdb : Zj Tryz.prog 257:=fun args w=>Tryz.call257 args w
theorem Zdc : Zj Tryz.prog 258:=fun args w=>Tryz.call258 args w
theorem Zdd : Zj Tryz.prog 259:=fun args w=>Tryz.call259 args w
theorem Zde : Zj Tryz.prog 260:=fun args w=>Tryz.call260 args w
theorem Zdf : Zj Tryz.prog 261:=fun args w=>Tryz.call261 args w
theorem Zdg : Zj Tryz.prog 262:=fun args w=>Tryz.call262 args w
theorem Zdh : Zj Tryz.prog 263:=fun args w=>Tryz.call263 args w
theorem Zdi : Zj Tryz.prog 264:=fun args w=>Tryz.call264 args w
theorem Zdj : Zj Tryz.prog 265:=fun args w=>Tryz.call265 args w
theorem Zdk : Zj Tryz.prog 266:=fun args w=>Tryz.call266 args w
theorem Zdl : Zj Tryz.prog 267:=fun args w=>Tryz.call267 args w
theorem Zdm : Zj Tryz.prog 268:=fun args w=>Tryz.call268 args w
theorem Zdn : Zj Tryz.prog 269:=fun args w=>Tryz.call269 args w
theorem Zdo : Zj Tryz.prog 270:=fun args w=>Tryz.call270 args w
theorem Zdp : Zj Tryz.prog 271:=fun args w=>Tryz.call271 args w
theorem Zdq : Zj Tryz.prog 272:=fun args w=>Tryz.call272 args w
theorem Zdr : Zj Tryz.prog 273:=fun args w=>Tryz.call273 args w
theorem Zds : Zj Tryz.prog 274:=fun args w=>Tryz.call274 args w
theorem Zdt : Zj Tryz.prog 275:=fun args w=>Tryz.call275 args w
theorem Zdu : Zj Tryz.prog 276:=fun args w=>Tryz.call276 args w
theorem Zdv : Zj Tryz.prog 277:=fun args w=>Tryz.call277 args w
theorem Zdw : Zj Tryz.prog 278:=fun args w=>Tryz.call278 args w
theorem Zdx : Zj Tryz.prog 279:=fun args w=>Tryz.call279 args w
theorem Zdy : Zj Tryz.prog 280:=fun args w=>Tryz.call280 args w
theorem Zdz : Zj Tryz.prog 281:=fun args w=>Tryz.call281 args w
theorem ZdA : Zj Tryz.prog 282:=fun args w=>Tryz.call282 args w
theorem ZdB : Zj Tryz.prog 283:=fun args w=>Tryz.call283 args w
theorem ZdC : Zj Tryz.prog 284:=fun args w=>Tryz.call284 args w
theorem ZdD : Zj Tryz.prog 285:=fun args w=>Tryz.call285 args w
theorem ZdE : Zj Tryz.prog 286:=fun args w=>Tryz.call286 args w
theorem ZdF : Zj Tryz.prog 287:=fun args w=>Tryz.call287 args w
theorem ZdG : Zj Tryz.prog 288:=fun args w=>Tryz.call288 args w
theorem ZdH : Zj Tryz.prog 289:=fun args w=>Tryz.call289 args w
theorem ZdI : Zj Tryz.prog 290:=fun args w=>Tryz.call290 args w
theorem ZdJ : Zj Tryz.prog 291:=fun args w=>Tryz.call291 args w
theorem ZdK : Zj Tryz.prog 292:=fun args w=>Tryz.call292 args w
theorem ZdL : Zj Tryz.prog 293:=fun args w=>Tryz.call293 args w
theorem ZdM : Zj Tryz.prog 294:=fun args w=>Tryz.call294 args w
theorem ZdN : Zj Tryz.prog 295:=fun args w=>Tryz.call295 args w
theorem ZdO : Zj Tryz.prog 296:=fun args w=>Tryz.call296 args w
theorem ZdP : Zj Tryz.prog 297:=fun args w=>Tryz.call297 args w
theorem ZdQ : Zj Tryz.prog 298:=fun args w=>Tryz.call298 args w
theorem mixed : Tryz.prog.follows .mixedOrders=true:=Zd
end Go.Proofs.YtenjikkmmibffaaGreatDoor.K
