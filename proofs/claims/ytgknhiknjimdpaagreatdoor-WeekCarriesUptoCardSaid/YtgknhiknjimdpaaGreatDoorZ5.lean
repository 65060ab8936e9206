/- Declarations that the closing texts need, part 5: joined by tools/slim.py. -/
import Derived.Test.YtgknhiknjimdpaaGreatDoorZ4
import Derived.KernelRfl
import Derived.Test.YtgknhiknjimdpaaGreatDoorProg
namespace Go.Proofs.YtgknhiknjimdpaaGreatDoor.K
open Go Go.AM Go.Proofs
abbrev PC (f:FuncId) (a:List V) (y:PV):=ACalls Tryz.prog f a [] fun x H'=>x= .p y/\H'= []
abbrev PT (f:FuncId) (a:List V) (b:List V):=ACalls Tryz.prog f a [] fun x H'=>x= .tup b/\H'= []
theorem kf {α:Type} {a b:α} (h:a=b:=by kernel_rfl):a=b:=Eq.trans h rfl
@[go_sem] theorem ZqI : Tryz.prog.underlying 3=some (.int .i64):=kf
@[go_sem] theorem Zqr : tsz Tryz.prog 3=some 1:=kf
@[go_sem] theorem Zqz : Xt Tryz.prog 3=some false:=kf
@[go_sem] theorem Zl9 : ZZ Tryz.prog 3=some [.int .i64 0]:=kf
@[go_sem] theorem ZqJ : Tryz.prog.underlying 4=some .bool:=kf
@[go_sem] theorem ZqK : tsz Tryz.prog 4=some 1:=kf
@[go_sem] theorem Zp3 : Xt Tryz.prog 4=some false:=kf
@[go_sem] theorem ZqH : Tryz.prog.underlying 5=some (.int .u8):=kf
@[go_sem] theorem ZqL : Tryz.prog.underlying 9=some .string:=kf
@[go_sem] theorem ZqM : tsz Tryz.prog 9=some 1:=kf
@[go_sem] theorem Zp4 : Xt Tryz.prog 9=some false:=kf
@[go_sem] theorem ZpT : Tryz.prog.underlying 22=some (.slice 9):=kf
@[go_sem] theorem Zql : tsz Tryz.prog 22=some 1:=kf
@[go_sem] theorem Zoq : Xt Tryz.prog 22=some false:=kf
@[go_sem] theorem Znu : YT Tryz.prog 22=some (none,1):=kf
@[go_sem] theorem ZoY : Qe Tryz.prog 22=some 1:=kf
@[go_sem] theorem ZhD : Zbn Tryz.prog 22=some (1,16):=kf
@[go_sem] theorem Zkd (H:List AM.Obj) (u:TypeId) (o n:Nat) (y:V):UJ Tryz.prog H 22 u (.sl o 0 n n) y=Uf H (some (1,16)) (oat H o) o n (Wz (Tryz.prog.underlying u) H y):=XL ZhD
@[go_sem] theorem Zqy : Tryz.prog.underlying 23=some (.slice 91):=kf
@[go_sem] theorem Zpw : tsz Tryz.prog 23=some 1:=kf
@[go_sem] theorem ZoF : Xt Tryz.prog 23=some false:=kf
@[go_sem] theorem ZnB : YT Tryz.prog 23=some (none,6):=kf
@[go_sem] theorem ZpO : tsz Tryz.prog 25=some 2:=kf
@[go_sem] theorem Znn : Xt Tryz.prog 25=some true:=kf
@[go_sem] theorem ZjM : Z8 Tryz.prog 25 0=some 0:=kf
@[go_sem] theorem Zky : Z8 Tryz.prog 25 1=some 1:=kf
@[go_sem] theorem Zpm : Tryz.prog.underlying 26=some (.slice 54):=kf
@[go_sem] theorem Zpn : tsz Tryz.prog 26=some 1:=kf
@[go_sem] theorem ZnP : Xt Tryz.prog 26=some false:=kf
@[go_sem] theorem Zo2 : YT Tryz.prog 26=some (none,14):=kf
@[go_sem] theorem ZpP : Tryz.prog.underlying 27=some (.slice 58):=kf
@[go_sem] theorem Zpp : tsz Tryz.prog 27=some 1:=kf
@[go_sem] theorem Znl : Xt Tryz.prog 27=some false:=kf
@[go_sem] theorem ZnT : YT Tryz.prog 27=some (none,16):=kf
@[go_sem] theorem Zox : Qe Tryz.prog 27=some 16:=kf
@[go_sem] theorem Zid : Zbn Tryz.prog 27=some (16,152):=kf
@[go_sem] theorem ZiZ (H:List AM.Obj) (u:TypeId) (o n:Nat) (y:V):UJ Tryz.prog H 27 u (.sl o 0 n n) y=Uf H (some (16,152)) (oat H o) o n (Wz (Tryz.prog.underlying u) H y):=XL Zid
@[go_sem] theorem ZeI : ZeH Tryz.prog 27=some (16,152,.agg [.str [],.list true [],.int .i64 0,.int .i64 0,.int .i64 0,.int .i64 0,.int .i64 0,.int .i64 0,.int .i64 0,.int .i64 0,.int .i64 0,.int .i64 0,.int .i64 0,.int .i64 0,.int .i64 0,.bool false]):=kf
@[go_sem] theorem ZpU (H:List AM.Obj) (fr:List V) (x y:Operand):Yh Tryz.prog (.makeSlice 27 x y) fr H=YD (some (16,152,.agg [.str [],.list true [],.int .i64 0,.int .i64 0,.int .i64 0,.int .i64 0,.int .i64 0,.int .i64 0,.int .i64 0,.int .i64 0,.int .i64 0,.int .i64 0,.int .i64 0,.int .i64 0,.int .i64 0,.bool false])) H (ev fr x) (ev fr y):=Kb ZeI
@[go_sem] theorem Zqo : Tryz.prog.underlying 28=some (.slice 94):=kf
@[go_sem] theorem Zpt : tsz Tryz.prog 28=some 1:=kf
@[go_sem] theorem ZnF : Xt Tryz.prog 28=some false:=kf
@[go_sem] theorem Znh : YT Tryz.prog 28=some (none,2):=kf
@[go_sem] theorem ZpZ : tsz Tryz.prog 30=some 6:=kf
@[go_sem] theorem ZoG : Xt Tryz.prog 30=some true:=kf
@[go_sem] theorem Zjy : Z8 Tryz.prog 30 0=some 0:=kf
@[go_sem] theorem Zj7 : Z8 Tryz.prog 30 1=some 2:=kf
@[go_sem] theorem Zkn : Z8 Tryz.prog 30 2=some 3:=kf
@[go_sem] theorem ZjI : Z8 Tryz.prog 30 3=some 4:=kf
@[go_sem] theorem Zjq : Z8 Tryz.prog 30 4=some 5:=kf
@[go_sem] theorem Zpr : tpl Tryz.prog 30=some (plL [(0,2),(2,1),(3,1),(4,1),(5,1)]):=kf
@[go_sem] theorem Zju : ZZ Tryz.prog 30=some [.list true [],.list true [],.list true [],.list true [],.list true [],.list true []]:=kf
@[go_sem] theorem Zqf : Tryz.prog.underlying 31=some (.slice 52):=kf
@[go_sem] theorem Zqc : tsz Tryz.prog 31=some 1:=kf
@[go_sem] theorem Zon : Xt Tryz.prog 31=some false:=kf
@[go_sem] theorem Zo7 : YT Tryz.prog 31=some (none,4):=kf
@[go_sem] theorem ZpX : Tryz.prog.underlying 32=some (.slice 3):=kf
@[go_sem] theorem Zpz : tsz Tryz.prog 32=some 1:=kf
@[go_sem] theorem Zow : Xt Tryz.prog 32=some false:=kf
@[go_sem] theorem Zoj : YT Tryz.prog 32=some (none,1):=kf
@[go_sem] theorem ZnN : Qe Tryz.prog 32=some 1:=kf
@[go_sem] theorem ZgV : Zbn Tryz.prog 32=some (1,8):=kf
@[go_sem] theorem Zjm (H:List AM.Obj) (u:TypeId) (o n:Nat) (y:V):UJ Tryz.prog H 32 u (.sl o 0 n n) y=Uf H (some (1,8)) (oat H o) o n (Wz (Tryz.prog.underlying u) H y):=XL ZgV
@[go_sem] theorem ZpV : tsz Tryz.prog 34=some 2:=kf
@[go_sem] theorem ZnS : Xt Tryz.prog 34=some true:=kf
@[go_sem] theorem Zkt : Z8 Tryz.prog 34 0=some 0:=kf
@[go_sem] theorem ZiV : Z8 Tryz.prog 34 1=some 1:=kf
@[go_sem] theorem ZqE : tpl Tryz.prog 34=some (plL [(0,1),(1,1)]):=kf
@[go_sem] theorem ZiB : ZZ Tryz.prog 34=some [.list true [],.list true []]:=kf
@[go_sem] theorem ZpA : Tryz.prog.underlying 37=some (.slice 34):=kf
@[go_sem] theorem ZnU : YT Tryz.prog 37=some (none,2):=kf
@[go_sem] theorem Zne : Qe Tryz.prog 37=some 2:=kf
@[go_sem] theorem Zqb : tsz Tryz.prog 39=some 1:=kf
@[go_sem] theorem Zot : Xt Tryz.prog 39=some false:=kf
@[go_sem] theorem ZqC : Tryz.prog.underlying 43=some (.slice 96):=kf
@[go_sem] theorem Zny : YT Tryz.prog 43=some (none,2):=kf
@[go_sem] theorem ZoS : Qe Tryz.prog 43=some 2:=kf
@[go_sem] theorem Zgj : Zbn Tryz.prog 43=some (2,24):=kf
@[go_sem] theorem ZiF (H:List AM.Obj) (u:TypeId) (o n:Nat) (y:V):UJ Tryz.prog H 43 u (.sl o 0 n n) y=Uf H (some (2,24)) (oat H o) o n (Wz (Tryz.prog.underlying u) H y):=XL Zgj
@[go_sem] theorem ZpS : Tryz.prog.underlying 46=some (.slice 79):=kf
@[go_sem] theorem Zpc : tsz Tryz.prog 46=some 1:=kf
@[go_sem] theorem Zn1 : Xt Tryz.prog 46=some false:=kf
@[go_sem] theorem Zof : YT Tryz.prog 46=some (none,2):=kf
@[go_sem] theorem Zom : Qe Tryz.prog 46=some 2:=kf
@[go_sem] theorem ZgN : Zbn Tryz.prog 46=some (2,16):=kf
@[go_sem] theorem Zj4 (H:List AM.Obj) (u:TypeId) (o n:Nat) (y:V):UJ Tryz.prog H 46 u (.sl o 0 n n) y=Uf H (some (2,16)) (oat H o) o n (Wz (Tryz.prog.underlying u) H y):=XL ZgN
@[go_sem] theorem ZjE : ZZ Tryz.prog 46=some [.list true []]:=kf
@[go_sem] theorem Zqu : Tryz.prog.underlying 49=some (.slice 4):=kf
@[go_sem] theorem ZpD : tsz Tryz.prog 49=some 1:=kf
@[go_sem] theorem ZoV : Xt Tryz.prog 49=some false:=kf
@[go_sem] theorem ZpW : Tryz.prog.underlying 50=some (.slice 86):=kf
@[go_sem] theorem Zpg : tsz Tryz.prog 50=some 1:=kf
@[go_sem] theorem ZnW : Xt Tryz.prog 50=some false:=kf
@[go_sem] theorem ZnL : YT Tryz.prog 50=some (none,2):=kf
@[go_sem] theorem Zov : Qe Tryz.prog 50=some 2:=kf
@[go_sem] theorem ZhN : Zbn Tryz.prog 50=some (2,16):=kf
@[go_sem] theorem Zir (H:List AM.Obj) (u:TypeId) (o n:Nat) (y:V):UJ Tryz.prog H 50 u (.sl o 0 n n) y=Uf H (some (2,16)) (oat H o) o n (Wz (Tryz.prog.underlying u) H y):=XL ZhN
@[go_sem] theorem ZqD : tsz Tryz.prog 52=some 4:=kf
@[go_sem] theorem ZoX : Xt Tryz.prog 52=some true:=kf
@[go_sem] theorem Zko : Z8 Tryz.prog 52 0=some 0:=kf
@[go_sem] theorem ZjW : Z8 Tryz.prog 52 2=some 2:=kf
@[go_sem] theorem Zki : Z8 Tryz.prog 52 3=some 3:=kf
@[go_sem] theorem ZjA : ZZ Tryz.prog 52=some [.int .i64 0,.int .i64 0,.list true [],.list true []]:=kf
@[go_sem] theorem Zpb : tsz Tryz.prog 54=some 14:=kf
@[go_sem] theorem ZoK : Xt Tryz.prog 54=some true:=kf
@[go_sem] theorem Zjg : Z8 Tryz.prog 54 0=some 0:=kf
@[go_sem] theorem Zjr : Z8 Tryz.prog 54 1=some 1:=kf
@[go_sem] theorem ZjV : Z8 Tryz.prog 54 2=some 2:=kf
@[go_sem] theorem Zi3 : Z8 Tryz.prog 54 3=some 3:=kf
@[go_sem] theorem ZjO : Z8 Tryz.prog 54 4=some 4:=kf
@[go_sem] theorem Zj5 : Z8 Tryz.prog 54 5=some 5:=kf
@[go_sem] theorem ZjL : Z8 Tryz.prog 54 6=some 6:=kf
@[go_sem] theorem Zjs : Z8 Tryz.prog 54 7=some 7:=kf
@[go_sem] theorem ZjJ : Z8 Tryz.prog 54 8=some 8:=kf
@[go_sem] theorem ZkM : Z8 Tryz.prog 54 9=some 9:=kf
@[go_sem] theorem Zgt : Z8 Tryz.prog 54 10=some 10:=kf
@[go_sem] theorem Zf1 : Z8 Tryz.prog 54 11=some 11:=kf
@[go_sem] theorem Zge : Z8 Tryz.prog 54 12=some 12:=kf
@[go_sem] theorem ZfM : Z8 Tryz.prog 54 13=some 13:=kf
@[go_sem] theorem Zja : ZZ Tryz.prog 54=some [.str [],.int .i64 0,.int .i64 0,.int .i64 0,.list true [],.int .i64 0,.int .i64 0,.int .i64 0,.int .i64 0,.int .i64 0,.int .i64 0,.int .i64 0,.int .i64 0,.int .i64 0]:=kf
@[go_sem] theorem ZpI : tsz Tryz.prog 56=some 4:=kf
@[go_sem] theorem Zok : Xt Tryz.prog 56=some true:=kf
@[go_sem] theorem Zkq : Z8 Tryz.prog 56 0=some 0:=kf
@[go_sem] theorem Zje : Z8 Tryz.prog 56 1=some 1:=kf
@[go_sem] theorem Zi6 : Z8 Tryz.prog 56 2=some 2:=kf
@[go_sem] theorem Zjh : Z8 Tryz.prog 56 3=some 3:=kf
@[go_sem] theorem ZeN : Tryz.prog.stoodInHeld 56=false:=kf
@[go_sem] theorem ZpJ (d:Nat) (a b:List PV):Kf Tryz.prog d 56 (Tryz.prog.underlying 56) (.agg a) (.agg b)=Qp (eqP (YS Tryz.prog d 3) (apart Tryz.prog 3 a 0) (apart Tryz.prog 3 b 0)) (Qp (eqP (YS Tryz.prog d 3) (apart Tryz.prog 3 a 1) (apart Tryz.prog 3 b 1)) (Qp (eqP (YS Tryz.prog d 3) (apart Tryz.prog 3 a 2) (apart Tryz.prog 3 b 2)) (Qp (eqP (YS Tryz.prog d 3) (apart Tryz.prog 3 a 3) (apart Tryz.prog 3 b 3)) (some true)))):=by rw [Tryz.underlying56,XJ ZeN];simp [YB,Wo]
@[go_sem] theorem ZpR : Tryz.prog.eqGuardType Tryz.prog.depth 56=false:=kf
@[go_sem] theorem Zqs : tsz Tryz.prog 58=some 16:=kf
@[go_sem] theorem ZoI : Xt Tryz.prog 58=some true:=kf
@[go_sem] theorem Ziq : Z8 Tryz.prog 58 0=some 0:=kf
@[go_sem] theorem Zkr : Z8 Tryz.prog 58 1=some 1:=kf
@[go_sem] theorem ZjZ : Z8 Tryz.prog 58 2=some 2:=kf
@[go_sem] theorem Zis : Z8 Tryz.prog 58 3=some 6:=kf
@[go_sem] theorem Zji : Z8 Tryz.prog 58 4=some 10:=kf
@[go_sem] theorem Zkw : Z8 Tryz.prog 58 5=some 11:=kf
@[go_sem] theorem ZiK : Z8 Tryz.prog 58 6=some 12:=kf
@[go_sem] theorem ZiS : Z8 Tryz.prog 58 7=some 13:=kf
@[go_sem] theorem Zi4 : Z8 Tryz.prog 58 8=some 14:=kf
@[go_sem] theorem ZkJ : Z8 Tryz.prog 58 9=some 15:=kf
@[go_sem] theorem Zjw : ZZ Tryz.prog 58=some [.str [],.list true [],.int .i64 0,.int .i64 0,.int .i64 0,.int .i64 0,.int .i64 0,.int .i64 0,.int .i64 0,.int .i64 0,.int .i64 0,.int .i64 0,.int .i64 0,.int .i64 0,.int .i64 0,.bool false]:=kf
@[go_sem] theorem Zqv : tsz Tryz.prog 79=some 2:=kf
@[go_sem] theorem Zo5 : Xt Tryz.prog 79=some true:=kf
@[go_sem] theorem ZjY : Z8 Tryz.prog 79 0=some 0:=kf
@[go_sem] theorem Zkj : Z8 Tryz.prog 79 1=some 1:=kf
@[go_sem] theorem Zek : Tryz.prog.stoodInHeld 79=false:=kf
@[go_sem] theorem Zqe : tpl Tryz.prog 79=some (plL [(0,1),(1,1)]):=kf
@[go_sem] theorem ZpM (d:Nat) (a b:List PV):Kf Tryz.prog d 79 (Tryz.prog.underlying 79) (.agg a) (.agg b)=Qp (eqP (YS Tryz.prog d 3) (apart Tryz.prog 3 a 0) (apart Tryz.prog 3 b 0)) (Qp (eqP (YS Tryz.prog d 3) (apart Tryz.prog 3 a 1) (apart Tryz.prog 3 b 1)) (some true)):=by rw [Tryz.underlying79,XJ Zek];simp [YB,Wo]
@[go_sem] theorem Zpi : Tryz.prog.eqGuardType Tryz.prog.depth 79=false:=kf
@[go_sem] theorem Zi7 : ZZ Tryz.prog 79=some [.int .i64 0,.int .i64 0]:=kf
@[go_sem] theorem Zqp : tsz Tryz.prog 86=some 2:=kf
@[go_sem] theorem Zpa : Xt Tryz.prog 86=some true:=kf
@[go_sem] theorem ZiL : Z8 Tryz.prog 86 0=some 0:=kf
@[go_sem] theorem Zdz : Tryz.prog.stoodInHeld 86=false:=kf
@[go_sem] theorem Zqd : tpl Tryz.prog 86=some (plL [(0,1),(1,1)]):=kf
@[go_sem] theorem Zp8 (d:Nat) (a b:List PV):Kf Tryz.prog d 86 (Tryz.prog.underlying 86) (.agg a) (.agg b)=Qp (eqP (YS Tryz.prog d 3) (apart Tryz.prog 3 a 0) (apart Tryz.prog 3 b 0)) (Qp (eqP (YS Tryz.prog d 4) (apart Tryz.prog 4 a 1) (apart Tryz.prog 4 b 1)) (some true)):=by rw [Tryz.underlying86,XJ Zdz];simp [YB,Wo]
@[go_sem] theorem Zp2 : Tryz.prog.eqGuardType Tryz.prog.depth 86=false:=kf
@[go_sem] theorem Zi8 : ZZ Tryz.prog 86=some [.int .i64 0,.bool false]:=kf
@[go_sem] theorem Zpo : Tryz.prog.underlying 89=some (.slice 118):=kf
@[go_sem] theorem Zp9 : tsz Tryz.prog 89=some 1:=kf
@[go_sem] theorem Zns : Xt Tryz.prog 89=some false:=kf
@[go_sem] theorem ZnM : YT Tryz.prog 89=some (none,2):=kf
@[go_sem] theorem Zpf : tsz Tryz.prog 91=some 6:=kf
@[go_sem] theorem Zn2 : Xt Tryz.prog 91=some true:=kf
@[go_sem] theorem ZiO : Z8 Tryz.prog 91 0=some 0:=kf
@[go_sem] theorem ZjR : Z8 Tryz.prog 91 1=some 1:=kf
@[go_sem] theorem Zj1 : Z8 Tryz.prog 91 2=some 2:=kf
@[go_sem] theorem Ziw : Z8 Tryz.prog 91 3=some 3:=kf
@[go_sem] theorem Zkl : Z8 Tryz.prog 91 4=some 4:=kf
@[go_sem] theorem Zjz : Z8 Tryz.prog 91 5=some 5:=kf
@[go_sem] theorem Zjk : ZZ Tryz.prog 91=some [.int .i64 0,.int .i64 0,.int .i64 0,.int .i64 0,.list true [],.list true []]:=kf
@[go_sem] theorem Zp1 : Tryz.prog.underlying 94=some (.array 2 3):=kf
@[go_sem] theorem ZqG : tsz Tryz.prog 94=some 2:=kf
@[go_sem] theorem ZoZ : Xt Tryz.prog 94=some true:=kf
@[go_sem] theorem Zo9 : YT Tryz.prog 94=some ((some 2),1):=kf
@[go_sem] theorem Zpk (d:Nat) (a b:List PV):Kf Tryz.prog d 94 (some (.array 2 3)) (.agg a) (.agg b)=JP (YS Tryz.prog d 3) Tryz.prog 3 1 2 0 a b:=JB Zqr
@[go_sem] theorem Zqh : Tryz.prog.eqGuardType Tryz.prog.depth 94=false:=kf
@[go_sem] theorem Zjj : ZZ Tryz.prog 94=some [.int .i64 0,.int .i64 0]:=kf
@[go_sem] theorem Zj0 : Z8 Tryz.prog 96 0=some 0:=kf
@[go_sem] theorem Ziu : Z8 Tryz.prog 96 1=some 1:=kf
@[go_sem] theorem ZqB : tpl Tryz.prog 96=some (plL [(0,1),(1,1)]):=kf
@[go_sem] theorem ZiT : ZZ Tryz.prog 96=some [.int .i64 0,.str []]:=kf
@[go_sem] theorem Zpy : Tryz.prog.underlying 99=some (.slice 39):=kf
@[go_sem] theorem ZoW : YT Tryz.prog 99=some (none,1):=kf
@[go_sem] theorem Znt : Qe Tryz.prog 99=some 1:=kf
@[go_sem] theorem ZgQ : Zbn Tryz.prog 99=some (1,8):=kf
@[go_sem] theorem Zjd (H:List AM.Obj) (u:TypeId) (o n:Nat) (y:V):UJ Tryz.prog H 99 u (.sl o 0 n n) y=Uf H (some (1,8)) (oat H o) o n (Wz (Tryz.prog.underlying u) H y):=XL ZgQ
@[go_sem] theorem Zol : tsz Tryz.prog 118=some 2:=kf
@[go_sem] theorem ZlA : Xt Tryz.prog 118=some true:=kf
@[go_sem] theorem Zih : Z8 Tryz.prog 118 0=some 0:=kf
@[go_sem] theorem ZgY : Z8 Tryz.prog 118 1=some 1:=kf
@[go_sem] theorem Zbx : Tryz.prog.stoodInHeld 118=false:=kf
@[go_sem] theorem ZnH (d:Nat) (a b:List PV):Kf Tryz.prog d 118 (Tryz.prog.underlying 118) (.agg a) (.agg b)=Qp (eqP (YS Tryz.prog d 3) (apart Tryz.prog 3 a 0) (apart Tryz.prog 3 b 0)) (Qp (eqP (YS Tryz.prog d 3) (apart Tryz.prog 3 a 1) (apart Tryz.prog 3 b 1)) (some true)):=by rw [Tryz.underlying118,XJ Zbx];simp [YB,Wo]
@[go_sem] theorem ZoD : Tryz.prog.eqGuardType Tryz.prog.depth 118=false:=kf
@[go_sem] theorem Zgq : ZZ Tryz.prog 118=some [.int .i64 0,.int .i64 0]:=kf
@[go_sem] theorem Zn7 : Tryz.prog.underlying 124=some (.slice 5):=kf
@[go_sem] theorem Zk7 : Qe Tryz.prog 124=some 1:=kf
theorem ZqF : Zo Tryz.prog 3:=fun args w=>Tryz.call3 args w
theorem ZpK : Zo Tryz.prog 5:=fun args w=>Tryz.call5 args w
theorem Zpv : Zo Tryz.prog 6:=fun args w=>Tryz.call6 args w
theorem Zqt : Zo Tryz.prog 8:=fun args w=>Tryz.call8 args w
theorem Zqw : Zo Tryz.prog 9:=fun args w=>Tryz.call9 args w
theorem ZlE : Zo Tryz.prog 10:=fun args w=>Tryz.call10 args w
theorem Zlv : Zo Tryz.prog 11:=fun args w=>Tryz.call11 args w
theorem ZmO : Zo Tryz.prog 13:=fun args w=>Tryz.call13 args w
theorem Zlk : Zo Tryz.prog 16:=fun args w=>Tryz.call16 args w
theorem ZlK : Zo Tryz.prog 17:=fun args w=>Tryz.call17 args w
theorem ZmI : Zo Tryz.prog 18:=fun args w=>Tryz.call18 args w
theorem ZkO : Zo Tryz.prog 19:=fun args w=>Tryz.call19 args w
theorem ZmG : Zo Tryz.prog 20:=fun args w=>Tryz.call20 args w
theorem Zl2 : Zo Tryz.prog 21:=fun args w=>Tryz.call21 args w
theorem ZlY : Zo Tryz.prog 22:=fun args w=>Tryz.call22 args w
theorem ZmX : Zo Tryz.prog 23:=fun args w=>Tryz.call23 args w
theorem ZkN : Zo Tryz.prog 24:=fun args w=>Tryz.call24 args w
theorem Zls : Zo Tryz.prog 25:=fun args w=>Tryz.call25 args w
theorem Zmk : Zo Tryz.prog 26:=fun args w=>Tryz.call26 args w
theorem Zmd : Zo Tryz.prog 27:=fun args w=>Tryz.call27 args w
theorem Zmc : Zo Tryz.prog 28:=fun args w=>Tryz.call28 args w
theorem Zll : Zo Tryz.prog 29:=fun args w=>Tryz.call29 args w
theorem Zlm : Zo Tryz.prog 30:=fun args w=>Tryz.call30 args w
theorem ZlZ : Zo Tryz.prog 32:=fun args w=>Tryz.call32 args w
theorem Zk8 : Zo Tryz.prog 33:=fun args w=>Tryz.call33 args w
theorem ZmD : Zo Tryz.prog 37:=fun args w=>Tryz.call37 args w
theorem Zk3 : Zo Tryz.prog 38:=fun args w=>Tryz.call38 args w
theorem Zmx : Zo Tryz.prog 39:=fun args w=>Tryz.call39 args w
theorem Znb : Zo Tryz.prog 40:=fun args w=>Tryz.call40 args w
theorem Zlj : Zo Tryz.prog 41:=fun args w=>Tryz.call41 args w
theorem ZlN : Zo Tryz.prog 42:=fun args w=>Tryz.call42 args w
theorem Zk5 : Zo Tryz.prog 43:=fun args w=>Tryz.call43 args w
theorem ZkU : Zo Tryz.prog 44:=fun args w=>Tryz.call44 args w
theorem ZlI : Zo Tryz.prog 45:=fun args w=>Tryz.call45 args w
theorem ZkY : Zo Tryz.prog 46:=fun args w=>Tryz.call46 args w
theorem Zms : Zo Tryz.prog 47:=fun args w=>Tryz.call47 args w
theorem ZlF : Zo Tryz.prog 51:=fun args w=>Tryz.call51 args w
theorem Zlb : Zo Tryz.prog 52:=fun args w=>Tryz.call52 args w
theorem Zmf : Zo Tryz.prog 53:=fun args w=>Tryz.call53 args w
theorem Zli : Zo Tryz.prog 58:=fun args w=>Tryz.call58 args w
theorem ZlL : Zo Tryz.prog 59:=fun args w=>Tryz.call59 args w
theorem ZlX : Zo Tryz.prog 60:=fun args w=>Tryz.call60 args w
theorem Zmr : Zo Tryz.prog 61:=fun args w=>Tryz.call61 args w
theorem ZmC : Zo Tryz.prog 62:=fun args w=>Tryz.call62 args w
theorem Zlg : Zo Tryz.prog 63:=fun args w=>Tryz.call63 args w
theorem Zl3 : Zo Tryz.prog 64:=fun args w=>Tryz.call64 args w
theorem Zm1 : Zo Tryz.prog 65:=fun args w=>Tryz.call65 args w
theorem Zmv : Zo Tryz.prog 66:=fun args w=>Tryz.call66 args w
theorem ZkS : Zo Tryz.prog 70:=fun args w=>Tryz.call70 args w
theorem Zk6 : Zo Tryz.prog 71:=fun args w=>Tryz.call71 args w
theorem ZlB : Zo Tryz.prog 72:=fun args w=>Tryz.call72 args w
theorem ZlH : Zo Tryz.prog 73:=fun args w=>Tryz.call73 args w
theorem ZmK : Zo Tryz.prog 74:=fun args w=>Tryz.call74 args w
theorem Zla : Zo Tryz.prog 84:=fun args w=>Tryz.call84 args w
theorem Zlc : Zo Tryz.prog 85:=fun args w=>Tryz.call85 args w
theorem Zld : Zo Tryz.prog 89:=fun args w=>Tryz.call89 args w
theorem Zmt : Zo Tryz.prog 90:=fun args w=>Tryz.call90 args w
theorem ZlJ : Zo Tryz.prog 92:=fun args w=>Tryz.call92 args w
theorem Zlr : Zo Tryz.prog 97:=fun args w=>Tryz.call97 args w
theorem Zf0 : Zo Tryz.prog 110:=fun args w=>Tryz.call110 args w
theorem ZhJ : Zo Tryz.prog 125:=fun args w=>Tryz.call125 args w
theorem Zhp : Zo Tryz.prog 202:=fun args w=>Tryz.call202 args w
theorem ZfG : Zo Tryz.prog 209:=fun args w=>Tryz.call209 args w
theorem mixed : Tryz.prog.follows .mixedOrders=true:=by kernel_rfl
end Go.Proofs.YtgknhiknjimdpaaGreatDoor.K
