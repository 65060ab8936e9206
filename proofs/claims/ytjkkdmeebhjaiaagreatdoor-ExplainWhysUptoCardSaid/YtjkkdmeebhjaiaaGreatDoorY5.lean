/- Declarations that the closing texts need, part 5: joined by tools/slim.py. -/
import Derived.Test.YtjkkdmeebhjaiaaGreatDoorY4
import Derived.KernelRfl
import Derived.Test.YtjkkdmeebhjaiaaGreatDoorProg
namespace Go.Proofs.YtjkkdmeebhjaiaaGreatDoor.K
open Go Go.AM Go.Proofs
abbrev PC (f:FuncId) (a:List V) (y:PV):=ACalls Tryz.prog f a [] fun x H'=>x= .p y/\H'= []
abbrev PT (f:FuncId) (a:List V) (b:List V):=ACalls Tryz.prog f a [] fun x H'=>x= .tup b/\H'= []
theorem kf {α:Type} {a b:α} (h:a=b:=by kernel_rfl):a=b:=Zm h rfl
theorem Zg {p:Prop} (h:p:=by kernel_rfl):p:=h
@[go_sem] theorem ZpK : Tryz.prog.underlying 3=some (.int .i64):=kf
@[go_sem] theorem ZpG : YJ Tryz.prog 3=some 1:=kf
@[go_sem] theorem ZoP : XC Tryz.prog 3=some false:=kf
@[go_sem] theorem Zl3 : Xc Tryz.prog 3=some [.int .i64 0]:=kf
@[go_sem] theorem ZpL : Tryz.prog.underlying 4=some .bool:=kf
@[go_sem] theorem ZpH : YJ Tryz.prog 4=some 1:=kf
@[go_sem] theorem ZoQ : XC Tryz.prog 4=some false:=kf
@[go_sem] theorem ZpM : Tryz.prog.underlying 5=some (.int .u8):=kf
@[go_sem] theorem ZpI : YJ Tryz.prog 5=some 1:=kf
@[go_sem] theorem ZoR : XC Tryz.prog 5=some false:=kf
@[go_sem] theorem ZpN : Tryz.prog.underlying 9=some .string:=kf
@[go_sem] theorem ZpJ : YJ Tryz.prog 9=some 1:=kf
@[go_sem] theorem ZoS : XC Tryz.prog 9=some false:=kf
@[go_sem] theorem Zpl : Tryz.prog.underlying 22=some (.slice 9):=kf
@[go_sem] theorem Zo0 : YJ Tryz.prog 22=some 1:=kf
@[go_sem] theorem ZmV : XC Tryz.prog 22=some false:=kf
@[go_sem] theorem Znf : Y0 Tryz.prog 22=some (none,1):=kf
@[go_sem] theorem ZmD : UI Tryz.prog 22=some 1:=kf
@[go_sem] theorem vD : Qg Tryz.prog 22=some (1,16):=kf
@[go_sem] theorem ZfP (H:List AM.Obj) (u:TypeId) (o n:Nat) (y:V):WA Tryz.prog H 22 u (.sl o 0 n n) y=VT H (some (1,16)) (oat H o) o n (Yy (Tryz.prog.underlying u) H y):=X6 vD
@[go_sem] theorem Zpm : Tryz.prog.underlying 23=some (.slice 101):=kf
@[go_sem] theorem Zo1 : YJ Tryz.prog 23=some 1:=kf
@[go_sem] theorem ZmW : XC Tryz.prog 23=some false:=kf
@[go_sem] theorem Zng : Y0 Tryz.prog 23=some (none,6):=kf
@[go_sem] theorem Zo2 : YJ Tryz.prog 25=some 2:=kf
@[go_sem] theorem ZmX : XC Tryz.prog 25=some true:=kf
@[go_sem] theorem Zjd : ZO Tryz.prog 25 0=some 0:=kf
@[go_sem] theorem Zje : ZO Tryz.prog 25 1=some 1:=kf
@[go_sem] theorem ZoT : Bo Tryz.prog 25=some (Bn [(0,1),(1,1)]):=kf
@[go_sem] theorem ZjZ : Xc Tryz.prog 25=some [.list true [],.list true []]:=kf
@[go_sem] theorem Zpn : Tryz.prog.underlying 26=some (.slice 63):=kf
@[go_sem] theorem Zo3 : YJ Tryz.prog 26=some 1:=kf
@[go_sem] theorem ZmY : XC Tryz.prog 26=some false:=kf
@[go_sem] theorem Znh : Y0 Tryz.prog 26=some (none,14):=kf
@[go_sem] theorem ZmE : UI Tryz.prog 26=some 14:=kf
@[go_sem] theorem vE : Qg Tryz.prog 26=some (14,136):=kf
@[go_sem] theorem ZfQ (H:List AM.Obj) (u:TypeId) (o n:Nat) (y:V):WA Tryz.prog H 26 u (.sl o 0 n n) y=VT H (some (14,136)) (oat H o) o n (Yy (Tryz.prog.underlying u) H y):=X6 vE
@[go_sem] theorem Zpo : Tryz.prog.underlying 27=some (.slice 67):=kf
@[go_sem] theorem Zo4 : YJ Tryz.prog 27=some 1:=kf
@[go_sem] theorem ZmZ : XC Tryz.prog 27=some false:=kf
@[go_sem] theorem Zni : Y0 Tryz.prog 27=some (none,16):=kf
@[go_sem] theorem ZmF : UI Tryz.prog 27=some 16:=kf
@[go_sem] theorem vF : Qg Tryz.prog 27=some (16,152):=kf
@[go_sem] theorem ZfR (H:List AM.Obj) (u:TypeId) (o n:Nat) (y:V):WA Tryz.prog H 27 u (.sl o 0 n n) y=VT H (some (16,152)) (oat H o) o n (Yy (Tryz.prog.underlying u) H y):=X6 vF
@[go_sem] theorem Zpp : Tryz.prog.underlying 28=some (.slice 89):=kf
@[go_sem] theorem Zo5 : YJ Tryz.prog 28=some 1:=kf
@[go_sem] theorem Zm0 : XC Tryz.prog 28=some false:=kf
@[go_sem] theorem Znj : Y0 Tryz.prog 28=some (none,2):=kf
@[go_sem] theorem ZmG : UI Tryz.prog 28=some 2:=kf
@[go_sem] theorem vG : Qg Tryz.prog 28=some (2,16):=kf
@[go_sem] theorem ZfS (H:List AM.Obj) (u:TypeId) (o n:Nat) (y:V):WA Tryz.prog H 28 u (.sl o 0 n n) y=VT H (some (2,16)) (oat H o) o n (Yy (Tryz.prog.underlying u) H y):=X6 vG
@[go_sem] theorem Zo6 : YJ Tryz.prog 30=some 6:=kf
@[go_sem] theorem Zm1 : XC Tryz.prog 30=some true:=kf
@[go_sem] theorem Zjf : ZO Tryz.prog 30 0=some 0:=kf
@[go_sem] theorem Zjg : ZO Tryz.prog 30 1=some 2:=kf
@[go_sem] theorem Zjh : ZO Tryz.prog 30 2=some 3:=kf
@[go_sem] theorem Zji : ZO Tryz.prog 30 3=some 4:=kf
@[go_sem] theorem Zjj : ZO Tryz.prog 30 4=some 5:=kf
@[go_sem] theorem ZoU : Bo Tryz.prog 30=some (Bn [(0,2),(2,1),(3,1),(4,1),(5,1)]):=kf
@[go_sem] theorem Zj0 : Xc Tryz.prog 30=some [.list true [],.list true [],.list true [],.list true [],.list true [],.list true []]:=kf
@[go_sem] theorem Zpq : Tryz.prog.underlying 31=some (.slice 4):=kf
@[go_sem] theorem Zo7 : YJ Tryz.prog 31=some 1:=kf
@[go_sem] theorem Zm2 : XC Tryz.prog 31=some false:=kf
@[go_sem] theorem Znk : Y0 Tryz.prog 31=some (none,1):=kf
@[go_sem] theorem ZmH : UI Tryz.prog 31=some 1:=kf
@[go_sem] theorem vH : Qg Tryz.prog 31=some (1,1):=kf
@[go_sem] theorem ZfM (H:List AM.Obj) (u:TypeId) (y:V):WA Tryz.prog H 31 u (.p (.list true [])) y=LS H (some (1,1)) (Yy (Tryz.prog.underlying u) H y):=Bp vH
@[go_sem] theorem pM : RO Tryz.prog 31=some (1,1,.bool false):=kf
@[go_sem] theorem Zow (H:List AM.Obj) (fr:List V) (x y:Operand):WJ Tryz.prog (.makeSlice 31 x y) fr H=QE (some (1,1,.bool false)) H (ev fr x) (ev fr y):=EK pM
@[go_sem] theorem Zpr : Tryz.prog.underlying 34=some (.slice 41):=kf
@[go_sem] theorem Zo8 : YJ Tryz.prog 34=some 1:=kf
@[go_sem] theorem Zm3 : XC Tryz.prog 34=some false:=kf
@[go_sem] theorem Znl : Y0 Tryz.prog 34=some (none,2):=kf
@[go_sem] theorem ZmI : UI Tryz.prog 34=some 2:=kf
@[go_sem] theorem vI : Qg Tryz.prog 34=some (2,16):=kf
@[go_sem] theorem ZfT (H:List AM.Obj) (u:TypeId) (o n:Nat) (y:V):WA Tryz.prog H 34 u (.sl o 0 n n) y=VT H (some (2,16)) (oat H o) o n (Yy (Tryz.prog.underlying u) H y):=X6 vI
@[go_sem] theorem Zj1 : Xc Tryz.prog 34=some [.list true []]:=kf
@[go_sem] theorem Zo9 : YJ Tryz.prog 36=some 1:=kf
@[go_sem] theorem Zm4 : XC Tryz.prog 36=some false:=kf
@[go_sem] theorem Zpa : YJ Tryz.prog 41=some 2:=kf
@[go_sem] theorem Zm5 : XC Tryz.prog 41=some true:=kf
@[go_sem] theorem Zjk : ZO Tryz.prog 41 0=some 0:=kf
@[go_sem] theorem Zjl : ZO Tryz.prog 41 1=some 1:=kf
@[go_sem] theorem rP : Tryz.prog.stoodInHeld 41=false:=kf
@[go_sem] theorem ZoV : Bo Tryz.prog 41=some (Bn [(0,1),(1,1)]):=kf
@[go_sem] theorem Zov (d:Nat) (a b:List PV):Gp Tryz.prog d 41 (Tryz.prog.underlying 41) (.agg a) (.agg b)=DX (bN (Va Tryz.prog d 3) (apart Tryz.prog 3 a 0) (apart Tryz.prog 3 b 0)) (DX (bN (Va Tryz.prog d 3) (apart Tryz.prog 3 a 1) (apart Tryz.prog 3 b 1)) (some true)):=by rw [Tryz.underlying41,Qk rP];simp [KW,Br]
@[go_sem] theorem ZoJ : Tryz.prog.eqGuardType Tryz.prog.depth 41=false:=kf
@[go_sem] theorem Zj2 : Xc Tryz.prog 41=some [.int .i64 0,.int .i64 0]:=kf
@[go_sem] theorem Zps : Tryz.prog.underlying 42=some (.slice 105):=kf
@[go_sem] theorem Znm : Y0 Tryz.prog 42=some (none,2):=kf
@[go_sem] theorem ZmJ : UI Tryz.prog 42=some 2:=kf
@[go_sem] theorem cW : Qg Tryz.prog 42=some (2,24):=kf
@[go_sem] theorem ZfN (H:List AM.Obj) (u:TypeId) (y:V):WA Tryz.prog H 42 u (.p (.list true [])) y=LS H (some (2,24)) (Yy (Tryz.prog.underlying u) H y):=Bp cW
@[go_sem] theorem ZfU (H:List AM.Obj) (u:TypeId) (o n:Nat) (y:V):WA Tryz.prog H 42 u (.sl o 0 n n) y=VT H (some (2,24)) (oat H o) o n (Yy (Tryz.prog.underlying u) H y):=X6 cW
@[go_sem] theorem Zpt : Tryz.prog.underlying 54=some (.slice 119):=kf
@[go_sem] theorem Zpb : YJ Tryz.prog 54=some 1:=kf
@[go_sem] theorem Zm6 : XC Tryz.prog 54=some false:=kf
@[go_sem] theorem ZmK : UI Tryz.prog 54=some 4:=kf
@[go_sem] theorem vJ : Qg Tryz.prog 54=some (4,64):=kf
@[go_sem] theorem ZfV (H:List AM.Obj) (u:TypeId) (o n:Nat) (y:V):WA Tryz.prog H 54 u (.sl o 0 n n) y=VT H (some (4,64)) (oat H o) o n (Yy (Tryz.prog.underlying u) H y):=X6 vJ
@[go_sem] theorem Zpu : Tryz.prog.underlying 55=some (.slice 3):=kf
@[go_sem] theorem Zpc : YJ Tryz.prog 55=some 1:=kf
@[go_sem] theorem Zm7 : XC Tryz.prog 55=some false:=kf
@[go_sem] theorem Znn : Y0 Tryz.prog 55=some (none,1):=kf
@[go_sem] theorem ZmL : UI Tryz.prog 55=some 1:=kf
@[go_sem] theorem cX : Qg Tryz.prog 55=some (1,8):=kf
@[go_sem] theorem ZfO (H:List AM.Obj) (u:TypeId) (y:V):WA Tryz.prog H 55 u (.p (.list true [])) y=LS H (some (1,8)) (Yy (Tryz.prog.underlying u) H y):=Bp cX
@[go_sem] theorem ZfW (H:List AM.Obj) (u:TypeId) (o n:Nat) (y:V):WA Tryz.prog H 55 u (.sl o 0 n n) y=VT H (some (1,8)) (oat H o) o n (Yy (Tryz.prog.underlying u) H y):=X6 cX
@[go_sem] theorem pN : RO Tryz.prog 55=some (1,8,.int .i64 0):=kf
@[go_sem] theorem Zox (H:List AM.Obj) (fr:List V) (x y:Operand):WJ Tryz.prog (.makeSlice 55 x y) fr H=QE (some (1,8,.int .i64 0)) H (ev fr x) (ev fr y):=EK pN
@[go_sem] theorem Zpd : YJ Tryz.prog 57=some 2:=kf
@[go_sem] theorem Zm8 : XC Tryz.prog 57=some true:=kf
@[go_sem] theorem Zjm : ZO Tryz.prog 57 0=some 0:=kf
@[go_sem] theorem Zjn : ZO Tryz.prog 57 1=some 1:=kf
@[go_sem] theorem ZoW : Bo Tryz.prog 57=some (Bn [(0,1),(1,1)]):=kf
@[go_sem] theorem Zj3 : Xc Tryz.prog 57=some [.list true [],.list true []]:=kf
@[go_sem] theorem Zpe : YJ Tryz.prog 63=some 14:=kf
@[go_sem] theorem Zm9 : XC Tryz.prog 63=some true:=kf
@[go_sem] theorem Zjo : ZO Tryz.prog 63 0=some 0:=kf
@[go_sem] theorem Zjp : ZO Tryz.prog 63 1=some 1:=kf
@[go_sem] theorem Zjq : ZO Tryz.prog 63 2=some 2:=kf
@[go_sem] theorem Zjr : ZO Tryz.prog 63 3=some 3:=kf
@[go_sem] theorem Zjs : ZO Tryz.prog 63 4=some 4:=kf
@[go_sem] theorem Zjt : ZO Tryz.prog 63 5=some 5:=kf
@[go_sem] theorem Zju : ZO Tryz.prog 63 6=some 6:=kf
@[go_sem] theorem Zjv : ZO Tryz.prog 63 7=some 7:=kf
@[go_sem] theorem Zjw : ZO Tryz.prog 63 8=some 8:=kf
@[go_sem] theorem Zjx : ZO Tryz.prog 63 9=some 9:=kf
@[go_sem] theorem Zfd : ZO Tryz.prog 63 10=some 10:=kf
@[go_sem] theorem Zfe : ZO Tryz.prog 63 11=some 11:=kf
@[go_sem] theorem Zff : ZO Tryz.prog 63 12=some 12:=kf
@[go_sem] theorem Zfg : ZO Tryz.prog 63 13=some 13:=kf
@[go_sem] theorem ZoX : Bo Tryz.prog 63=some (Bn [(0,1),(1,1),(2,1),(3,1),(4,1),(5,1),(6,1),(7,1),(8,1),(9,1),(10,1),(11,1),(12,1),(13,1)]):=kf
@[go_sem] theorem Zj4 : Xc Tryz.prog 63=some [.str [],.int .i64 0,.int .i64 0,.int .i64 0,.list true [],.int .i64 0,.int .i64 0,.int .i64 0,.int .i64 0,.int .i64 0,.int .i64 0,.int .i64 0,.int .i64 0,.int .i64 0]:=kf
@[go_sem] theorem Zpf : YJ Tryz.prog 65=some 4:=kf
@[go_sem] theorem Zna : XC Tryz.prog 65=some true:=kf
@[go_sem] theorem Zjy : ZO Tryz.prog 65 0=some 0:=kf
@[go_sem] theorem Zjz : ZO Tryz.prog 65 1=some 1:=kf
@[go_sem] theorem ZjA : ZO Tryz.prog 65 2=some 2:=kf
@[go_sem] theorem ZjB : ZO Tryz.prog 65 3=some 3:=kf
@[go_sem] theorem ZoY : Bo Tryz.prog 65=some (Bn [(0,1),(1,1),(2,1),(3,1)]):=kf
@[go_sem] theorem Zj5 : Xc Tryz.prog 65=some [.int .i64 0,.int .i64 0,.int .i64 0,.int .i64 0]:=kf
@[go_sem] theorem Zpg : YJ Tryz.prog 67=some 16:=kf
@[go_sem] theorem Znb : XC Tryz.prog 67=some true:=kf
@[go_sem] theorem ZjC : ZO Tryz.prog 67 0=some 0:=kf
@[go_sem] theorem ZjD : ZO Tryz.prog 67 1=some 1:=kf
@[go_sem] theorem ZjE : ZO Tryz.prog 67 2=some 2:=kf
@[go_sem] theorem ZjF : ZO Tryz.prog 67 3=some 6:=kf
@[go_sem] theorem ZjG : ZO Tryz.prog 67 4=some 10:=kf
@[go_sem] theorem ZjH : ZO Tryz.prog 67 5=some 11:=kf
@[go_sem] theorem ZjI : ZO Tryz.prog 67 6=some 12:=kf
@[go_sem] theorem ZjJ : ZO Tryz.prog 67 7=some 13:=kf
@[go_sem] theorem ZjK : ZO Tryz.prog 67 8=some 14:=kf
@[go_sem] theorem ZjL : ZO Tryz.prog 67 9=some 15:=kf
@[go_sem] theorem ZoZ : Bo Tryz.prog 67=some (Bn [(0,1),(1,1),(2,4),(6,4),(10,1),(11,1),(12,1),(13,1),(14,1),(15,1)]):=kf
@[go_sem] theorem Zj6 : Xc Tryz.prog 67=some [.str [],.list true [],.int .i64 0,.int .i64 0,.int .i64 0,.int .i64 0,.int .i64 0,.int .i64 0,.int .i64 0,.int .i64 0,.int .i64 0,.int .i64 0,.int .i64 0,.int .i64 0,.int .i64 0,.bool false]:=kf
@[go_sem] theorem Zpv : Tryz.prog.underlying 84=some (.slice 121):=kf
@[go_sem] theorem Zph : YJ Tryz.prog 84=some 1:=kf
@[go_sem] theorem Znc : XC Tryz.prog 84=some false:=kf
@[go_sem] theorem Zno : Y0 Tryz.prog 84=some (none,7):=kf
@[go_sem] theorem ZmM : UI Tryz.prog 84=some 7:=kf
@[go_sem] theorem vK : Qg Tryz.prog 84=some (7,88):=kf
@[go_sem] theorem ZfX (H:List AM.Obj) (u:TypeId) (o n:Nat) (y:V):WA Tryz.prog H 84 u (.sl o 0 n n) y=VT H (some (7,88)) (oat H o) o n (Yy (Tryz.prog.underlying u) H y):=X6 vK
@[go_sem] theorem Zpi : YJ Tryz.prog 89=some 2:=kf
@[go_sem] theorem Znd : XC Tryz.prog 89=some true:=kf
@[go_sem] theorem Znp : Y0 Tryz.prog 89=some ((some 2),1):=kf
@[go_sem] theorem Zj7 : Xc Tryz.prog 89=some [.int .i64 0,.int .i64 0]:=kf
@[go_sem] theorem Zpw : Tryz.prog.underlying 99=some (.slice 139):=kf
@[go_sem] theorem Zpj : YJ Tryz.prog 99=some 1:=kf
@[go_sem] theorem Zne : XC Tryz.prog 99=some false:=kf
@[go_sem] theorem Znq : Y0 Tryz.prog 99=some (none,2):=kf
@[go_sem] theorem ZnM : YJ Tryz.prog 101=some 6:=kf
@[go_sem] theorem Zlh : XC Tryz.prog 101=some true:=kf
@[go_sem] theorem Zea : ZO Tryz.prog 101 0=some 0:=kf
@[go_sem] theorem Zeb : ZO Tryz.prog 101 1=some 1:=kf
@[go_sem] theorem Zec : ZO Tryz.prog 101 2=some 2:=kf
@[go_sem] theorem Zed : ZO Tryz.prog 101 3=some 3:=kf
@[go_sem] theorem Zee : ZO Tryz.prog 101 4=some 4:=kf
@[go_sem] theorem Zef : ZO Tryz.prog 101 5=some 5:=kf
@[go_sem] theorem Zns : Bo Tryz.prog 101=some (Bn [(0,1),(1,1),(2,1),(3,1),(4,1),(5,1)]):=kf
@[go_sem] theorem Zfm : Xc Tryz.prog 101=some [.int .i64 0,.int .i64 0,.int .i64 0,.int .i64 0,.list true [],.list true []]:=kf
@[go_sem] theorem Zeg : ZO Tryz.prog 105 0=some 0:=kf
@[go_sem] theorem Zeh : ZO Tryz.prog 105 1=some 1:=kf
@[go_sem] theorem Znt : Bo Tryz.prog 105=some (Bn [(0,1),(1,1)]):=kf
@[go_sem] theorem Zfn : Xc Tryz.prog 105=some [.int .i64 0,.str []]:=kf
@[go_sem] theorem Zob : Tryz.prog.underlying 108=some (.slice 36):=kf
@[go_sem] theorem ZlF : Y0 Tryz.prog 108=some (none,1):=kf
@[go_sem] theorem ZkW : UI Tryz.prog 108=some 1:=kf
@[go_sem] theorem mR : Qg Tryz.prog 108=some (1,8):=kf
@[go_sem] theorem ZcF (H:List AM.Obj) (u:TypeId) (o n:Nat) (y:V):WA Tryz.prog H 108 u (.sl o 0 n n) y=VT H (some (1,8)) (oat H o) o n (Yy (Tryz.prog.underlying u) H y):=X6 mR
@[go_sem] theorem Zoc : Tryz.prog.underlying 117=some (.slice 211):=kf
@[go_sem] theorem ZnN : YJ Tryz.prog 117=some 1:=kf
@[go_sem] theorem Zli : XC Tryz.prog 117=some false:=kf
@[go_sem] theorem ZlG : Y0 Tryz.prog 117=some (none,2):=kf
@[go_sem] theorem ZkX : UI Tryz.prog 117=some 2:=kf
@[go_sem] theorem PZ : Qg Tryz.prog 117=some (2,16):=kf
@[go_sem] theorem ZcG (H:List AM.Obj) (u:TypeId) (o n:Nat) (y:V):WA Tryz.prog H 117 u (.sl o 0 n n) y=VT H (some (2,16)) (oat H o) o n (Yy (Tryz.prog.underlying u) H y):=X6 PZ
@[go_sem] theorem ZnO : YJ Tryz.prog 119=some 4:=kf
@[go_sem] theorem Zlj : XC Tryz.prog 119=some true:=kf
@[go_sem] theorem Zei : ZO Tryz.prog 119 0=some 0:=kf
@[go_sem] theorem Zej : ZO Tryz.prog 119 1=some 1:=kf
@[go_sem] theorem Zek : ZO Tryz.prog 119 2=some 2:=kf
@[go_sem] theorem Zel : ZO Tryz.prog 119 3=some 3:=kf
@[go_sem] theorem Znu : Bo Tryz.prog 119=some (Bn [(0,1),(1,1),(2,1),(3,1)]):=kf
@[go_sem] theorem Zfo : Xc Tryz.prog 119=some [.int .i64 0,.int .i64 0,.list true [],.list true []]:=kf
@[go_sem] theorem ZnP : YJ Tryz.prog 121=some 7:=kf
@[go_sem] theorem Zlk : XC Tryz.prog 121=some true:=kf
@[go_sem] theorem Zem : ZO Tryz.prog 121 0=some 0:=kf
@[go_sem] theorem Zen : ZO Tryz.prog 121 1=some 1:=kf
@[go_sem] theorem Zeo : ZO Tryz.prog 121 2=some 2:=kf
@[go_sem] theorem Zep : ZO Tryz.prog 121 3=some 3:=kf
@[go_sem] theorem Znv : Bo Tryz.prog 121=some (Bn [(0,1),(1,1),(2,1),(3,4)]):=kf
@[go_sem] theorem Zfp : Xc Tryz.prog 121=some [.int .i64 0,.int .i64 0,.int .i64 0,.int .i64 0,.int .i64 0,.list true [],.list true []]:=kf
@[go_sem] theorem ZnQ : YJ Tryz.prog 125=some 3:=kf
@[go_sem] theorem Zll : XC Tryz.prog 125=some true:=kf
@[go_sem] theorem Zeq : ZO Tryz.prog 125 0=some 0:=kf
@[go_sem] theorem Zer : ZO Tryz.prog 125 1=some 1:=kf
@[go_sem] theorem Zes : ZO Tryz.prog 125 2=some 2:=kf
@[go_sem] theorem Znw : Bo Tryz.prog 125=some (Bn [(0,1),(1,1),(2,1)]):=kf
@[go_sem] theorem Zfq : Xc Tryz.prog 125=some [.bool false,.list true [],.int .i64 0]:=kf
@[go_sem] theorem Zod : Tryz.prog.underlying 132=some (.int .u64):=kf
@[go_sem] theorem ZnR : YJ Tryz.prog 139=some 2:=kf
@[go_sem] theorem Zlm : XC Tryz.prog 139=some true:=kf
@[go_sem] theorem Zet : ZO Tryz.prog 139 0=some 0:=kf
@[go_sem] theorem Zeu : ZO Tryz.prog 139 1=some 1:=kf
@[go_sem] theorem Zfr : Xc Tryz.prog 139=some [.int .i64 0,.int .i64 0]:=kf
@[go_sem] theorem Zoe : Tryz.prog.underlying 145=some (.slice 5):=kf
@[go_sem] theorem ZkY : UI Tryz.prog 145=some 1:=kf
@[go_sem] theorem ZlH : Y0 Tryz.prog 150=some ((some 6),1):=kf
@[go_sem] theorem ZnS : YJ Tryz.prog 152=some 8:=kf
@[go_sem] theorem Zln : XC Tryz.prog 152=some true:=kf
@[go_sem] theorem Zev : ZO Tryz.prog 152 0=some 0:=kf
@[go_sem] theorem Zew : ZO Tryz.prog 152 1=some 1:=kf
@[go_sem] theorem Zex : ZO Tryz.prog 152 2=some 2:=kf
@[go_sem] theorem Znx : Bo Tryz.prog 152=some (Bn [(0,1),(1,1),(2,6)]):=kf
@[go_sem] theorem Zfs : Xc Tryz.prog 152=some [.int .i64 0,.int .i64 0,.int .i64 0,.int .i64 0,.int .i64 0,.int .i64 0,.int .i64 0,.int .i64 0]:=kf
@[go_sem] theorem Zey : ZO Tryz.prog 164 0=some 0:=kf
@[go_sem] theorem Zez : ZO Tryz.prog 164 1=some 6:=kf
@[go_sem] theorem ZeA : ZO Tryz.prog 164 2=some 7:=kf
@[go_sem] theorem Zny : Bo Tryz.prog 164=some (Bn [(0,6),(6,1),(7,3)]):=kf
@[go_sem] theorem Zft : Xc Tryz.prog 164=some [.list true [],.list true [],.list true [],.list true [],.list true [],.list true [],.list true [],.bool false,.list true [],.int .i64 0]:=kf
@[go_sem] theorem ZeB : ZO Tryz.prog 182 0=some 0:=kf
@[go_sem] theorem ZeC : ZO Tryz.prog 182 1=some 6:=kf
@[go_sem] theorem ZeD : ZO Tryz.prog 182 2=some 7:=kf
@[go_sem] theorem ZeE : ZO Tryz.prog 182 3=some 8:=kf
@[go_sem] theorem ZeF : ZO Tryz.prog 182 4=some 9:=kf
@[go_sem] theorem ZeG : ZO Tryz.prog 182 5=some 16:=kf
@[go_sem] theorem Znz : Bo Tryz.prog 182=some (Bn [(0,6),(6,1),(7,1),(8,1),(9,7),(16,1)]):=kf
@[go_sem] theorem Zfu : Xc Tryz.prog 182=some [.list true [],.list true [],.list true [],.list true [],.list true [],.list true [],.int .i64 0,.int .i64 0,.int .i64 0,.int .i64 0,.int .i64 0,.int .i64 0,.int .i64 0,.int .i64 0,.list true [],.list true [],.bool false]:=kf
@[go_sem] theorem Zof : Tryz.prog.underlying 186=some (.slice 231):=kf
@[go_sem] theorem ZlI : Y0 Tryz.prog 186=some (none,2):=kf
@[go_sem] theorem ZkZ : UI Tryz.prog 186=some 2:=kf
@[go_sem] theorem P0 : Qg Tryz.prog 186=some (2,16):=kf
@[go_sem] theorem ZcE (H:List AM.Obj) (u:TypeId) (y:V):WA Tryz.prog H 186 u (.p (.list true [])) y=LS H (some (2,16)) (Yy (Tryz.prog.underlying u) H y):=Bp P0
@[go_sem] theorem ZcH (H:List AM.Obj) (u:TypeId) (o n:Nat) (y:V):WA Tryz.prog H 186 u (.sl o 0 n n) y=VT H (some (2,16)) (oat H o) o n (Yy (Tryz.prog.underlying u) H y):=X6 P0
@[go_sem] theorem ZnT : YJ Tryz.prog 188=some 1:=kf
@[go_sem] theorem Zlo : XC Tryz.prog 188=some false:=kf
@[go_sem] theorem ZnU : YJ Tryz.prog 190=some 1:=kf
@[go_sem] theorem Zlp : XC Tryz.prog 190=some false:=kf
@[go_sem] theorem ZlJ : Y0 Tryz.prog 190=some (none,1):=kf
@[go_sem] theorem ZeH : ZO Tryz.prog 192 0=some 0:=kf
@[go_sem] theorem ZeI : ZO Tryz.prog 192 1=some 6:=kf
@[go_sem] theorem ZeJ : ZO Tryz.prog 192 2=some 7:=kf
@[go_sem] theorem ZeK : ZO Tryz.prog 192 3=some 8:=kf
@[go_sem] theorem ZeL : ZO Tryz.prog 192 4=some 9:=kf
@[go_sem] theorem ZnA : Bo Tryz.prog 192=some (Bn [(0,6),(6,1),(7,1),(8,1),(9,1)]):=kf
@[go_sem] theorem Zfv : Xc Tryz.prog 192=some [.list true [],.list true [],.list true [],.list true [],.list true [],.list true [],.list true [],.list true [],.nilm,.int .i64 0]:=kf
@[go_sem] theorem ZnV : YJ Tryz.prog 196=some 4:=kf
@[go_sem] theorem Zlq : XC Tryz.prog 196=some true:=kf
@[go_sem] theorem ZeM : ZO Tryz.prog 196 0=some 0:=kf
@[go_sem] theorem ZeN : ZO Tryz.prog 196 1=some 1:=kf
@[go_sem] theorem ZeO : ZO Tryz.prog 196 2=some 2:=kf
@[go_sem] theorem ZeP : ZO Tryz.prog 196 3=some 3:=kf
@[go_sem] theorem ZnB : Bo Tryz.prog 196=some (Bn [(0,1),(1,1),(2,1),(3,1)]):=kf
@[go_sem] theorem Zfw : Xc Tryz.prog 196=some [.int .i64 0,.int .i64 0,.int .i64 0,.int .i64 0]:=kf
@[go_sem] theorem ZnW : YJ Tryz.prog 207=some 1:=kf
@[go_sem] theorem Zlr : XC Tryz.prog 207=some false:=kf
@[go_sem] theorem ZnX : YJ Tryz.prog 211=some 2:=kf
@[go_sem] theorem Zls : XC Tryz.prog 211=some true:=kf
@[go_sem] theorem ZeQ : ZO Tryz.prog 211 0=some 0:=kf
@[go_sem] theorem ZeR : ZO Tryz.prog 211 1=some 1:=kf
@[go_sem] theorem lD : Tryz.prog.stoodInHeld 211=false:=kf
@[go_sem] theorem ZnC : Bo Tryz.prog 211=some (Bn [(0,1),(1,1)]):=kf
@[go_sem] theorem Zl6 (d:Nat) (a b:List PV):Gp Tryz.prog d 211 (Tryz.prog.underlying 211) (.agg a) (.agg b)=DX (bN (Va Tryz.prog d 3) (apart Tryz.prog 3 a 0) (apart Tryz.prog 3 b 0)) (DX (bN (Va Tryz.prog d 4) (apart Tryz.prog 4 a 1) (apart Tryz.prog 4 b 1)) (some true)):=by rw [Tryz.underlying211,Qk lD];simp [KW,Br]
@[go_sem] theorem Zmf : Tryz.prog.eqGuardType Tryz.prog.depth 211=false:=kf
@[go_sem] theorem Zfx : Xc Tryz.prog 211=some [.int .i64 0,.bool false]:=kf
@[go_sem] theorem ZnY : YJ Tryz.prog 231=some 2:=kf
@[go_sem] theorem Zlt : XC Tryz.prog 231=some true:=kf
@[go_sem] theorem ZeS : ZO Tryz.prog 231 0=some 0:=kf
@[go_sem] theorem ZeT : ZO Tryz.prog 231 1=some 1:=kf
@[go_sem] theorem lE : Tryz.prog.stoodInHeld 231=false:=kf
@[go_sem] theorem ZnD : Bo Tryz.prog 231=some (Bn [(0,1),(1,1)]):=kf
@[go_sem] theorem Zl7 (d:Nat) (a b:List PV):Gp Tryz.prog d 231 (Tryz.prog.underlying 231) (.agg a) (.agg b)=DX (bN (Va Tryz.prog d 3) (apart Tryz.prog 3 a 0) (apart Tryz.prog 3 b 0)) (DX (bN (Va Tryz.prog d 3) (apart Tryz.prog 3 a 1) (apart Tryz.prog 3 b 1)) (some true)):=by rw [Tryz.underlying231,Qk lE];simp [KW,Br]
@[go_sem] theorem Zmg : Tryz.prog.eqGuardType Tryz.prog.depth 231=false:=kf
@[go_sem] theorem Zfy : Xc Tryz.prog 231=some [.int .i64 0,.int .i64 0]:=kf
@[go_sem] theorem ZnZ : YJ Tryz.prog 236=some 2:=kf
@[go_sem] theorem Zlu : XC Tryz.prog 236=some true:=kf
@[go_sem] theorem ZnE : Bo Tryz.prog 236=some (Bn [(0,1),(1,1)]):=kf
@[go_sem] theorem Zfz : Xc Tryz.prog 236=some [.int .i64 0,.int .i64 0]:=kf
@[go_sem] theorem Zog : Tryz.prog.underlying 237=some (.array 4 3):=kf
@[go_sem] theorem Zn0 : YJ Tryz.prog 237=some 4:=kf
@[go_sem] theorem Zlv : XC Tryz.prog 237=some true:=kf
@[go_sem] theorem ZnF : Bo Tryz.prog 237=some (plA 1):=kf
@[go_sem] theorem ZfA : Xc Tryz.prog 237=some [.int .i64 0,.int .i64 0,.int .i64 0,.int .i64 0]:=kf
@[go_sem] theorem Zoh : Tryz.prog.underlying 247=some (.slice 335):=kf
@[go_sem] theorem Zn1 : YJ Tryz.prog 247=some 1:=kf
@[go_sem] theorem Zlw : XC Tryz.prog 247=some false:=kf
@[go_sem] theorem ZlK : Y0 Tryz.prog 247=some (none,4):=kf
@[go_sem] theorem Zk0 : UI Tryz.prog 247=some 4:=kf
@[go_sem] theorem mS : Qg Tryz.prog 247=some (4,32):=kf
@[go_sem] theorem ZcI (H:List AM.Obj) (u:TypeId) (o n:Nat) (y:V):WA Tryz.prog H 247 u (.sl o 0 n n) y=VT H (some (4,32)) (oat H o) o n (Yy (Tryz.prog.underlying u) H y):=X6 mS
@[go_sem] theorem Zn2 : YJ Tryz.prog 249=some 5:=kf
@[go_sem] theorem Zlx : XC Tryz.prog 249=some true:=kf
@[go_sem] theorem ZeU : ZO Tryz.prog 249 0=some 0:=kf
@[go_sem] theorem ZeV : ZO Tryz.prog 249 1=some 1:=kf
@[go_sem] theorem ZeW : ZO Tryz.prog 249 2=some 2:=kf
@[go_sem] theorem ZeX : ZO Tryz.prog 249 3=some 3:=kf
@[go_sem] theorem ZeY : ZO Tryz.prog 249 4=some 4:=kf
@[go_sem] theorem ZnG : Bo Tryz.prog 249=some (Bn [(0,1),(1,1),(2,1),(3,1),(4,1)]):=kf
@[go_sem] theorem ZfB : Xc Tryz.prog 249=some [.bool false,.int .i64 0,.list true [],.int .i64 0,.int .i64 0]:=kf
@[go_sem] theorem ZlL : Y0 Tryz.prog 265=some ((some 64),1):=kf
@[go_sem] theorem Zoi : Tryz.prog.underlying 271=some (.slice 207):=kf
@[go_sem] theorem ZlM : Y0 Tryz.prog 271=some (none,1):=kf
@[go_sem] theorem Zk1 : UI Tryz.prog 271=some 1:=kf
@[go_sem] theorem Zoj : Tryz.prog.underlying 281=some (.slice 55):=kf
@[go_sem] theorem ZlN : Y0 Tryz.prog 281=some (none,1):=kf
@[go_sem] theorem Zk2 : UI Tryz.prog 281=some 1:=kf
@[go_sem] theorem mT : Qg Tryz.prog 281=some (1,24):=kf
@[go_sem] theorem ZcJ (H:List AM.Obj) (u:TypeId) (o n:Nat) (y:V):WA Tryz.prog H 281 u (.sl o 0 n n) y=VT H (some (1,24)) (oat H o) o n (Yy (Tryz.prog.underlying u) H y):=X6 mT
@[go_sem] theorem Zok : Tryz.prog.underlying 295=some (.slice 65):=kf
@[go_sem] theorem Zn3 : YJ Tryz.prog 295=some 1:=kf
@[go_sem] theorem Zly : XC Tryz.prog 295=some false:=kf
@[go_sem] theorem ZlO : Y0 Tryz.prog 295=some (none,4):=kf
@[go_sem] theorem Zk3 : UI Tryz.prog 295=some 4:=kf
@[go_sem] theorem mU : Qg Tryz.prog 295=some (4,32):=kf
@[go_sem] theorem ZcK (H:List AM.Obj) (u:TypeId) (o n:Nat) (y:V):WA Tryz.prog H 295 u (.sl o 0 n n) y=VT H (some (4,32)) (oat H o) o n (Yy (Tryz.prog.underlying u) H y):=X6 mU
@[go_sem] theorem Zn4 : YJ Tryz.prog 297=some 25:=kf
@[go_sem] theorem Zlz : XC Tryz.prog 297=some true:=kf
@[go_sem] theorem ZeZ : ZO Tryz.prog 297 0=some 0:=kf
@[go_sem] theorem Ze0 : ZO Tryz.prog 297 1=some 6:=kf
@[go_sem] theorem Ze1 : ZO Tryz.prog 297 2=some 20:=kf
@[go_sem] theorem Ze2 : ZO Tryz.prog 297 3=some 24:=kf
@[go_sem] theorem ZnH : Bo Tryz.prog 297=some (Bn [(0,6),(6,14),(20,4),(24,1)]):=kf
@[go_sem] theorem ZfC : Xc Tryz.prog 297=some [.list true [],.list true [],.list true [],.list true [],.list true [],.list true [],.str [],.int .i64 0,.int .i64 0,.int .i64 0,.list true [],.int .i64 0,.int .i64 0,.int .i64 0,.int .i64 0,.int .i64 0,.int .i64 0,.int .i64 0,.int .i64 0,.int .i64 0,.int .i64 0,.int .i64 0,.list true [],.list true [],.list true []]:=kf
@[go_sem] theorem Zn5 : YJ Tryz.prog 301=some 7:=kf
@[go_sem] theorem ZlA : XC Tryz.prog 301=some true:=kf
@[go_sem] theorem Ze3 : ZO Tryz.prog 301 0=some 0:=kf
@[go_sem] theorem Ze4 : ZO Tryz.prog 301 1=some 1:=kf
@[go_sem] theorem Ze5 : ZO Tryz.prog 301 2=some 2:=kf
@[go_sem] theorem ZnI : Bo Tryz.prog 301=some (Bn [(0,1),(1,1),(2,5)]):=kf
@[go_sem] theorem ZfD : Xc Tryz.prog 301=some [.int .i64 0,.int .i64 0,.bool false,.int .i64 0,.list true [],.int .i64 0,.int .i64 0]:=kf
@[go_sem] theorem Zol : Tryz.prog.underlying 303=some (.slice 301):=kf
@[go_sem] theorem ZlP : Y0 Tryz.prog 303=some (none,7):=kf
@[go_sem] theorem Zk4 : UI Tryz.prog 303=some 7:=kf
@[go_sem] theorem mV : Qg Tryz.prog 303=some (7,72):=kf
@[go_sem] theorem ZcL (H:List AM.Obj) (u:TypeId) (o n:Nat) (y:V):WA Tryz.prog H 303 u (.sl o 0 n n) y=VT H (some (7,72)) (oat H o) o n (Yy (Tryz.prog.underlying u) H y):=X6 mV
@[go_sem] theorem Zn6 : YJ Tryz.prog 309=some 3:=kf
@[go_sem] theorem ZlB : XC Tryz.prog 309=some true:=kf
@[go_sem] theorem lF : Tryz.prog.stoodInHeld 309=false:=kf
@[go_sem] theorem ZnJ : Bo Tryz.prog 309=some (Bn [(0,1),(1,1),(2,1)]):=kf
@[go_sem] theorem Zl8 (d:Nat) (a b:List PV):Gp Tryz.prog d 309 (Tryz.prog.underlying 309) (.agg a) (.agg b)=DX (bN (Va Tryz.prog d 3) (apart Tryz.prog 3 a 0) (apart Tryz.prog 3 b 0)) (DX (bN (Va Tryz.prog d 3) (apart Tryz.prog 3 a 1) (apart Tryz.prog 3 b 1)) (DX (bN (Va Tryz.prog d 3) (apart Tryz.prog 3 a 2) (apart Tryz.prog 3 b 2)) (some true))):=by rw [Tryz.underlying309,Qk lF];simp [KW,Br]
@[go_sem] theorem Zmh : Tryz.prog.eqGuardType Tryz.prog.depth 309=false:=kf
@[go_sem] theorem ZfE : Xc Tryz.prog 309=some [.int .i64 0,.int .i64 0,.int .i64 0]:=kf
@[go_sem] theorem Zn7 : YJ Tryz.prog 330=some 4:=kf
@[go_sem] theorem ZlC : XC Tryz.prog 330=some true:=kf
@[go_sem] theorem Ze6 : ZO Tryz.prog 330 0=some 0:=kf
@[go_sem] theorem Ze7 : ZO Tryz.prog 330 1=some 1:=kf
@[go_sem] theorem Ze8 : ZO Tryz.prog 330 2=some 2:=kf
@[go_sem] theorem Ze9 : ZO Tryz.prog 330 3=some 3:=kf
@[go_sem] theorem ZnK : Bo Tryz.prog 330=some (Bn [(0,1),(1,1),(2,1),(3,1)]):=kf
@[go_sem] theorem ZfF : Xc Tryz.prog 330=some [.int .i64 0,.int .i64 0,.int .i64 0,.int .i64 0]:=kf
@[go_sem] theorem Zn8 : YJ Tryz.prog 335=some 4:=kf
@[go_sem] theorem ZlD : XC Tryz.prog 335=some true:=kf
@[go_sem] theorem Zfa : ZO Tryz.prog 335 1=some 1:=kf
@[go_sem] theorem Zfb : ZO Tryz.prog 335 2=some 2:=kf
@[go_sem] theorem Zfc : ZO Tryz.prog 335 3=some 3:=kf
@[go_sem] theorem ZnL : Bo Tryz.prog 335=some (Bn [(0,1),(1,1),(2,1),(3,1)]):=kf
@[go_sem] theorem ZfG : Xc Tryz.prog 335=some [.int .i64 0,.int .i64 0,.int .i64 0,.bool false]:=kf
theorem ZmA : Zi Tryz.prog 5:=fun args w=>Tryz.call5 args w
theorem Zg7 : Zi Tryz.prog 10:=fun args w=>Tryz.call10 args w
theorem Zg8 : Zi Tryz.prog 11:=fun args w=>Tryz.call11 args w
theorem Zg9 : Zi Tryz.prog 13:=fun args w=>Tryz.call13 args w
theorem Zha : Zi Tryz.prog 14:=fun args w=>Tryz.call14 args w
theorem Zhb : Zi Tryz.prog 15:=fun args w=>Tryz.call15 args w
theorem Zhc : Zi Tryz.prog 18:=fun args w=>Tryz.call18 args w
theorem Zhd : Zi Tryz.prog 19:=fun args w=>Tryz.call19 args w
theorem tO : Zi Tryz.prog 20:=fun args w=>Tryz.call20 args w
theorem Zhe : Zi Tryz.prog 21:=fun args w=>Tryz.call21 args w
theorem Zhf : Zi Tryz.prog 22:=fun args w=>Tryz.call22 args w
theorem Zhg : Zi Tryz.prog 23:=fun args w=>Tryz.call23 args w
theorem Zhh : Zi Tryz.prog 24:=fun args w=>Tryz.call24 args w
theorem Zhi : Zi Tryz.prog 27:=fun args w=>Tryz.call27 args w
theorem Zhj : Zi Tryz.prog 28:=fun args w=>Tryz.call28 args w
theorem Zhk : Zi Tryz.prog 29:=fun args w=>Tryz.call29 args w
theorem Zhl : Zi Tryz.prog 30:=fun args w=>Tryz.call30 args w
theorem Zhm : Zi Tryz.prog 31:=fun args w=>Tryz.call31 args w
theorem Zhn : Zi Tryz.prog 32:=fun args w=>Tryz.call32 args w
theorem Zho : Zi Tryz.prog 37:=fun args w=>Tryz.call37 args w
theorem Zhp : Zi Tryz.prog 38:=fun args w=>Tryz.call38 args w
theorem Zhq : Zi Tryz.prog 39:=fun args w=>Tryz.call39 args w
theorem Zhr : Zi Tryz.prog 40:=fun args w=>Tryz.call40 args w
theorem Zhs : Zi Tryz.prog 41:=fun args w=>Tryz.call41 args w
theorem Zht : Zi Tryz.prog 42:=fun args w=>Tryz.call42 args w
theorem Zhu : Zi Tryz.prog 43:=fun args w=>Tryz.call43 args w
theorem Zhv : Zi Tryz.prog 44:=fun args w=>Tryz.call44 args w
theorem Zhw : Zi Tryz.prog 45:=fun args w=>Tryz.call45 args w
theorem Zhx : Zi Tryz.prog 46:=fun args w=>Tryz.call46 args w
theorem Zhy : Zi Tryz.prog 47:=fun args w=>Tryz.call47 args w
theorem Zhz : Zi Tryz.prog 48:=fun args w=>Tryz.call48 args w
theorem ZhA : Zi Tryz.prog 49:=fun args w=>Tryz.call49 args w
theorem ZhB : Zi Tryz.prog 50:=fun args w=>Tryz.call50 args w
theorem ZhC : Zi Tryz.prog 51:=fun args w=>Tryz.call51 args w
theorem ZhD : Zi Tryz.prog 52:=fun args w=>Tryz.call52 args w
theorem ZhE : Zi Tryz.prog 53:=fun args w=>Tryz.call53 args w
theorem ZhF : Zi Tryz.prog 54:=fun args w=>Tryz.call54 args w
theorem ZhG : Zi Tryz.prog 55:=fun args w=>Tryz.call55 args w
theorem ZhH : Zi Tryz.prog 56:=fun args w=>Tryz.call56 args w
theorem ZhI : Zi Tryz.prog 57:=fun args w=>Tryz.call57 args w
theorem ZhJ : Zi Tryz.prog 58:=fun args w=>Tryz.call58 args w
theorem ZhK : Zi Tryz.prog 59:=fun args w=>Tryz.call59 args w
theorem ZhL : Zi Tryz.prog 60:=fun args w=>Tryz.call60 args w
theorem ZhM : Zi Tryz.prog 61:=fun args w=>Tryz.call61 args w
theorem ZhN : Zi Tryz.prog 62:=fun args w=>Tryz.call62 args w
theorem ZhO : Zi Tryz.prog 63:=fun args w=>Tryz.call63 args w
theorem ZhP : Zi Tryz.prog 64:=fun args w=>Tryz.call64 args w
theorem ZhQ : Zi Tryz.prog 65:=fun args w=>Tryz.call65 args w
theorem tP : Zi Tryz.prog 66:=fun args w=>Tryz.call66 args w
theorem ZhR : Zi Tryz.prog 67:=fun args w=>Tryz.call67 args w
theorem ZhS : Zi Tryz.prog 70:=fun args w=>Tryz.call70 args w
theorem ZhT : Zi Tryz.prog 71:=fun args w=>Tryz.call71 args w
theorem ZhU : Zi Tryz.prog 72:=fun args w=>Tryz.call72 args w
theorem ZhV : Zi Tryz.prog 73:=fun args w=>Tryz.call73 args w
theorem ZhW : Zi Tryz.prog 74:=fun args w=>Tryz.call74 args w
theorem ZhX : Zi Tryz.prog 75:=fun args w=>Tryz.call75 args w
theorem ZhY : Zi Tryz.prog 76:=fun args w=>Tryz.call76 args w
theorem ZhZ : Zi Tryz.prog 77:=fun args w=>Tryz.call77 args w
theorem Zh0 : Zi Tryz.prog 78:=fun args w=>Tryz.call78 args w
theorem Zh1 : Zi Tryz.prog 79:=fun args w=>Tryz.call79 args w
theorem Zh2 : Zi Tryz.prog 80:=fun args w=>Tryz.call80 args w
theorem Zh3 : Zi Tryz.prog 81:=fun args w=>Tryz.call81 args w
theorem Zh4 : Zi Tryz.prog 82:=fun args w=>Tryz.call82 args w
theorem Zh5 : Zi Tryz.prog 83:=fun args w=>Tryz.call83 args w
theorem Zh6 : Zi Tryz.prog 84:=fun args w=>Tryz.call84 args w
theorem Zh7 : Zi Tryz.prog 85:=fun args w=>Tryz.call85 args w
theorem Zh8 : Zi Tryz.prog 86:=fun args w=>Tryz.call86 args w
theorem Zh9 : Zi Tryz.prog 87:=fun args w=>Tryz.call87 args w
theorem Zia : Zi Tryz.prog 88:=fun args w=>Tryz.call88 args w
theorem Zib : Zi Tryz.prog 91:=fun args w=>Tryz.call91 args w
theorem Zic : Zi Tryz.prog 92:=fun args w=>Tryz.call92 args w
theorem tQ : Zi Tryz.prog 93:=fun args w=>Tryz.call93 args w
theorem Zid : Zi Tryz.prog 94:=fun args w=>Tryz.call94 args w
theorem Zie : Zi Tryz.prog 95:=fun args w=>Tryz.call95 args w
theorem Zif : Zi Tryz.prog 96:=fun args w=>Tryz.call96 args w
theorem Zig : Zi Tryz.prog 97:=fun args w=>Tryz.call97 args w
theorem Zih : Zi Tryz.prog 98:=fun args w=>Tryz.call98 args w
theorem Zii : Zi Tryz.prog 99:=fun args w=>Tryz.call99 args w
theorem xK : Zi Tryz.prog 100:=fun args w=>Tryz.call100 args w
theorem xL : Zi Tryz.prog 101:=fun args w=>Tryz.call101 args w
theorem xM : Zi Tryz.prog 102:=fun args w=>Tryz.call102 args w
theorem xN : Zi Tryz.prog 103:=fun args w=>Tryz.call103 args w
theorem xO : Zi Tryz.prog 104:=fun args w=>Tryz.call104 args w
theorem xP : Zi Tryz.prog 105:=fun args w=>Tryz.call105 args w
theorem xQ : Zi Tryz.prog 106:=fun args w=>Tryz.call106 args w
theorem xR : Zi Tryz.prog 107:=fun args w=>Tryz.call107 args w
theorem xS : Zi Tryz.prog 108:=fun args w=>Tryz.call108 args w
theorem gJ : Zi Tryz.prog 109:=fun args w=>Tryz.call109 args w
theorem xT : Zi Tryz.prog 110:=fun args w=>Tryz.call110 args w
theorem xU : Zi Tryz.prog 111:=fun args w=>Tryz.call111 args w
theorem xV : Zi Tryz.prog 113:=fun args w=>Tryz.call113 args w
theorem gK : Zi Tryz.prog 114:=fun args w=>Tryz.call114 args w
theorem xW : Zi Tryz.prog 115:=fun args w=>Tryz.call115 args w
theorem gM : Zi Tryz.prog 116:=fun args w=>Tryz.call116 args w
theorem xX : Zi Tryz.prog 127:=fun args w=>Tryz.call127 args w
theorem xY : Zi Tryz.prog 128:=fun args w=>Tryz.call128 args w
theorem xZ : Zi Tryz.prog 129:=fun args w=>Tryz.call129 args w
theorem yA : Zi Tryz.prog 130:=fun args w=>Tryz.call130 args w
theorem yB : Zi Tryz.prog 131:=fun args w=>Tryz.call131 args w
theorem yC : Zi Tryz.prog 132:=fun args w=>Tryz.call132 args w
theorem gN : Zi Tryz.prog 133:=fun args w=>Tryz.call133 args w
theorem gP : Zi Tryz.prog 134:=fun args w=>Tryz.call134 args w
theorem yD : Zi Tryz.prog 135:=fun args w=>Tryz.call135 args w
theorem yE : Zi Tryz.prog 136:=fun args w=>Tryz.call136 args w
theorem yF : Zi Tryz.prog 137:=fun args w=>Tryz.call137 args w
theorem yG : Zi Tryz.prog 138:=fun args w=>Tryz.call138 args w
theorem yH : Zi Tryz.prog 139:=fun args w=>Tryz.call139 args w
theorem yI : Zi Tryz.prog 140:=fun args w=>Tryz.call140 args w
theorem yJ : Zi Tryz.prog 141:=fun args w=>Tryz.call141 args w
theorem yK : Zi Tryz.prog 142:=fun args w=>Tryz.call142 args w
theorem yL : Zi Tryz.prog 143:=fun args w=>Tryz.call143 args w
theorem yM : Zi Tryz.prog 145:=fun args w=>Tryz.call145 args w
theorem yN : Zi Tryz.prog 146:=fun args w=>Tryz.call146 args w
theorem yO : Zi Tryz.prog 147:=fun args w=>Tryz.call147 args w
theorem yP : Zi Tryz.prog 148:=fun args w=>Tryz.call148 args w
theorem yQ : Zi Tryz.prog 149:=fun args w=>Tryz.call149 args w
theorem yR : Zi Tryz.prog 150:=fun args w=>Tryz.call150 args w
theorem yS : Zi Tryz.prog 151:=fun args w=>Tryz.call151 args w
theorem yT : Zi Tryz.prog 152:=fun args w=>Tryz.call152 args w
theorem yU : Zi Tryz.prog 153:=fun args w=>Tryz.call153 args w
theorem yV : Zi Tryz.prog 154:=fun args w=>Tryz.call154 args w
theorem yW : Zi Tryz.prog 155:=fun args w=>Tryz.call155 args w
theorem yX : Zi Tryz.prog 156:=fun args w=>Tryz.call156 args w
theorem yY : Zi Tryz.prog 162:=fun args w=>Tryz.call162 args w
theorem gQ : Zi Tryz.prog 163:=fun args w=>Tryz.call163 args w
theorem yZ : Zi Tryz.prog 164:=fun args w=>Tryz.call164 args w
theorem zA : Zi Tryz.prog 165:=fun args w=>Tryz.call165 args w
theorem zB : Zi Tryz.prog 166:=fun args w=>Tryz.call166 args w
theorem zC : Zi Tryz.prog 167:=fun args w=>Tryz.call167 args w
theorem zD : Zi Tryz.prog 168:=fun args w=>Tryz.call168 args w
theorem zF : Zi Tryz.prog 169:=fun args w=>Tryz.call169 args w
theorem zG : Zi Tryz.prog 170:=fun args w=>Tryz.call170 args w
theorem gS : Zi Tryz.prog 171:=fun args w=>Tryz.call171 args w
theorem zH : Zi Tryz.prog 172:=fun args w=>Tryz.call172 args w
theorem zJ : Zi Tryz.prog 173:=fun args w=>Tryz.call173 args w
theorem zK : Zi Tryz.prog 174:=fun args w=>Tryz.call174 args w
theorem zL : Zi Tryz.prog 175:=fun args w=>Tryz.call175 args w
theorem zM : Zi Tryz.prog 176:=fun args w=>Tryz.call176 args w
theorem WZ : Zi Tryz.prog 186:=fun args w=>Tryz.call186 args w
theorem zN : Zi Tryz.prog 187:=fun args w=>Tryz.call187 args w
theorem zO : Zi Tryz.prog 188:=fun args w=>Tryz.call188 args w
theorem zP : Zi Tryz.prog 189:=fun args w=>Tryz.call189 args w
theorem zQ : Zi Tryz.prog 190:=fun args w=>Tryz.call190 args w
theorem zR : Zi Tryz.prog 191:=fun args w=>Tryz.call191 args w
theorem zS : Zi Tryz.prog 192:=fun args w=>Tryz.call192 args w
theorem zT : Zi Tryz.prog 193:=fun args w=>Tryz.call193 args w
theorem zU : Zi Tryz.prog 195:=fun args w=>Tryz.call195 args w
theorem zV : Zi Tryz.prog 196:=fun args w=>Tryz.call196 args w
theorem zW : Zi Tryz.prog 197:=fun args w=>Tryz.call197 args w
theorem zX : Zi Tryz.prog 198:=fun args w=>Tryz.call198 args w
theorem zY : Zi Tryz.prog 199:=fun args w=>Tryz.call199 args w
theorem zZ : Zi Tryz.prog 200:=fun args w=>Tryz.call200 args w
theorem Zaa : Zi Tryz.prog 204:=fun args w=>Tryz.call204 args w
theorem Zab : Zi Tryz.prog 205:=fun args w=>Tryz.call205 args w
theorem Zac : Zi Tryz.prog 206:=fun args w=>Tryz.call206 args w
theorem Zad : Zi Tryz.prog 207:=fun args w=>Tryz.call207 args w
theorem gU : Zi Tryz.prog 208:=fun args w=>Tryz.call208 args w
theorem Zae : Zi Tryz.prog 209:=fun args w=>Tryz.call209 args w
theorem Zaf : Zi Tryz.prog 210:=fun args w=>Tryz.call210 args w
theorem Zag : Zi Tryz.prog 211:=fun args w=>Tryz.call211 args w
theorem Zah : Zi Tryz.prog 212:=fun args w=>Tryz.call212 args w
theorem Zai : Zi Tryz.prog 213:=fun args w=>Tryz.call213 args w
theorem Zaj : Zi Tryz.prog 214:=fun args w=>Tryz.call214 args w
theorem Zak : Zi Tryz.prog 215:=fun args w=>Tryz.call215 args w
theorem Zal : Zi Tryz.prog 216:=fun args w=>Tryz.call216 args w
theorem Zam : Zi Tryz.prog 217:=fun args w=>Tryz.call217 args w
theorem Zan : Zi Tryz.prog 218:=fun args w=>Tryz.call218 args w
theorem Zao : Zi Tryz.prog 219:=fun args w=>Tryz.call219 args w
theorem Zap : Zi Tryz.prog 220:=fun args w=>Tryz.call220 args w
theorem Zaq : Zi Tryz.prog 221:=fun args w=>Tryz.call221 args w
theorem Zar : Zi Tryz.prog 222:=fun args w=>Tryz.call222 args w
theorem Zas : Zi Tryz.prog 223:=fun args w=>Tryz.call223 args w
theorem Zat : Zi Tryz.prog 225:=fun args w=>Tryz.call225 args w
theorem Zau : Zi Tryz.prog 226:=fun args w=>Tryz.call226 args w
theorem Zav : Zi Tryz.prog 227:=fun args w=>Tryz.call227 args w
theorem Zaw : Zi Tryz.prog 228:=fun args w=>Tryz.call228 args w
theorem Zax : Zi Tryz.prog 229:=fun args w=>Tryz.call229 args w
theorem Zay : Zi Tryz.prog 230:=fun args w=>Tryz.call230 args w
theorem Zaz : Zi Tryz.prog 231:=fun args w=>Tryz.call231 args w
theorem ZaA : Zi Tryz.prog 232:=fun args w=>Tryz.call232 args w
theorem ZaB : Zi Tryz.prog 233:=fun args w=>Tryz.call233 args w
theorem ZaC : Zi Tryz.prog 234:=fun args w=>Tryz.call234 args w
theorem ZaD : Zi Tryz.prog 235:=fun args w=>Tryz.call235 args w
theorem ZaE : Zi Tryz.prog 236:=fun args w=>Tryz.call236 args w
theorem ZaF : Zi Tryz.prog 237:=fun args w=>Tryz.call237 args w
theorem ZaG : Zi Tryz.prog 238:=fun args w=>Tryz.call238 args w
theorem ZaH : Zi Tryz.prog 239:=fun args w=>Tryz.call239 args w
theorem ZaI : Zi Tryz.prog 240:=fun args w=>Tryz.call240 args w
theorem ZaJ : Zi Tryz.prog 241:=fun args w=>Tryz.call241 args w
theorem ZaK : Zi Tryz.prog 242:=fun args w=>Tryz.call242 args w
theorem ZaL : Zi Tryz.prog 243:=fun args w=>Tryz.call243 args w
theorem ZaM : Zi Tryz.prog 244:=fun args w=>Tryz.call244 args w
theorem ZaN : Zi Tryz.prog 245:=fun args w=>Tryz.call245 args w
theorem gV : Zi Tryz.prog 246:=fun args w=>Tryz.call246 args w
theorem ZaO : Zi Tryz.prog 247:=fun args w=>Tryz.call247 args w
theorem ZaP : Zi Tryz.prog 248:=fun args w=>Tryz.call248 args w
theorem ZaQ : Zi Tryz.prog 249:=fun args w=>Tryz.call249 args w
theorem ZaR : Zi Tryz.prog 250:=fun args w=>Tryz.call250 args w
theorem ZaS : Zi Tryz.prog 251:=fun args w=>Tryz.call251 args w
theorem ZaT : Zi Tryz.prog 252:=fun args w=>Tryz.call252 args w
theorem ZaU : Zi Tryz.prog 253:=fun args w=>Tryz.call253 args w
theorem ZaV : Zi Tryz.prog 254:=fun args w=>Tryz.call254 args w
theorem ZaW : Zi Tryz.prog 255:=fun args w=>Tryz.call255 args w
theorem ZaX : Zi Tryz.prog 256:=fun args w=>Tryz.call256 args w
theorem ZaY : Zi Tryz.prog 257:=fun args w=>Tryz.call257 args w
theorem ZaZ : Zi Tryz.prog 258:=fun args w=>Tryz.call258 args w
theorem Za0 : Zi Tryz.prog 259:=fun args w=>Tryz.call259 args w
theorem Za1 : Zi Tryz.prog 260:=fun args w=>Tryz.call260 args w
theorem Za2 : Zi Tryz.prog 261:=fun args w=>Tryz.call261 args w
theorem Za3 : Zi Tryz.prog 262:=fun args w=>Tryz.call262 args w
theorem Za4 : Zi Tryz.prog 263:=fun args w=>Tryz.call263 args w
theorem Za5 : Zi Tryz.prog 264:=fun args w=>Tryz.call264 args w
theorem Za6 : Zi Tryz.prog 265:=fun args w=>Tryz.call265 args w
theorem Za7 : Zi Tryz.prog 266:=fun args w=>Tryz.call266 args w
theorem Za8 : Zi Tryz.prog 267:=fun args w=>Tryz.call267 args w
theorem Za9 : Zi Tryz.prog 268:=fun args w=>Tryz.call268 args w
theorem Zba : Zi Tryz.prog 269:=fun args w=>Tryz.call269 args w
theorem Zbb : Zi Tryz.prog 270:=fun args w=>Tryz.call270 args w
theorem Zbc : Zi Tryz.prog 271:=fun args w=>Tryz.call271 args w
theorem Zbd : Zi Tryz.prog 272:=fun args w=>Tryz.call272 args w
theorem Zbe : Zi Tryz.prog 273:=fun args w=>Tryz.call273 args w
theorem Zbf : Zi Tryz.prog 274:=fun args w=>Tryz.call274 args w
theorem Zbg : Zi Tryz.prog 275:=fun args w=>Tryz.call275 args w
theorem Zbh : Zi Tryz.prog 276:=fun args w=>Tryz.call276 args w
theorem Zbi : Zi Tryz.prog 277:=fun args w=>Tryz.call277 args w
theorem Zbj : Zi Tryz.prog 278:=fun args w=>Tryz.call278 args w
theorem Zbk : Zi Tryz.prog 279:=fun args w=>Tryz.call279 args w
theorem Zbl : Zi Tryz.prog 280:=fun args w=>Tryz.call280 args w
theorem Zbm : Zi Tryz.prog 281:=fun args w=>Tryz.call281 args w
theorem Zbn : Zi Tryz.prog 282:=fun args w=>Tryz.call282 args w
theorem Zbo : Zi Tryz.prog 283:=fun args w=>Tryz.call283 args w
theorem Zbp : Zi Tryz.prog 284:=fun args w=>Tryz.call284 args w
theorem Zbq : Zi Tryz.prog 285:=fun args w=>Tryz.call285 args w
theorem Zbr : Zi Tryz.prog 286:=fun args w=>Tryz.call286 args w
theorem Zbs : Zi Tryz.prog 287:=fun args w=>Tryz.call287 args w
theorem Zbt : Zi Tryz.prog 288:=fun args w=>Tryz.call288 args w
theorem Zbu : Zi Tryz.prog 289:=fun args w=>Tryz.call289 args w
theorem Zbv : Zi Tryz.prog 290:=fun args w=>Tryz.call290 args w
theorem Zbw : Zi Tryz.prog 291:=fun args w=>Tryz.call291 args w
theorem Zbx : Zi Tryz.prog 292:=fun args w=>Tryz.call292 args w
theorem Zby : Zi Tryz.prog 293:=fun args w=>Tryz.call293 args w
theorem Zbz : Zi Tryz.prog 294:=fun args w=>Tryz.call294 args w
theorem ZbA : Zi Tryz.prog 295:=fun args w=>Tryz.call295 args w
theorem ZbB : Zi Tryz.prog 296:=fun args w=>Tryz.call296 args w
theorem ZbC : Zi Tryz.prog 297:=fun args w=>Tryz.call297 args w
theorem ZbD : Zi Tryz.prog 298:=fun args w=>Tryz.call298 args w
theorem mixed : Tryz.prog.follows .mixedOrders=true:=Zg
end Go.Proofs.YtjkkdmeebhjaiaaGreatDoor.K
