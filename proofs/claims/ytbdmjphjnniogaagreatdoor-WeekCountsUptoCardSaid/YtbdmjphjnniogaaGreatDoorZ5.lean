/- Declarations that the closing texts need, part 5: joined by tools/slim.py. -/
import Derived.Test.YtbdmjphjnniogaaGreatDoorZ4
import Derived.KernelRfl
import Derived.Test.YtbdmjphjnniogaaGreatDoorProg
namespace Go.Proofs.YtbdmjphjnniogaaGreatDoor.K
open Go Go.AM Go.Proofs
abbrev PC (f:FuncId) (a:List V) (y:PV):=ACalls Tryz.prog f a [] fun x H'=>x= .p y/\H'= []
abbrev PT (f:FuncId) (a:List V) (b:List V):=ACalls Tryz.prog f a [] fun x H'=>x= .tup b/\H'= []
theorem kf {α:Type} {a b:α} (h:a=b:=by kernel_rfl):a=b:=Eq.trans h rfl
@[go_sem] theorem ZAR : Tryz.prog.underlying 3=some (.int .i64):=kf
@[go_sem] theorem ZAO : tsz Tryz.prog 3=some 1:=kf
@[go_sem] theorem ZAj : XM Tryz.prog 3=some false:=kf
@[go_sem] theorem ZAS : Tryz.prog.underlying 4=some .bool:=kf
@[go_sem] theorem ZAL : tsz Tryz.prog 4=some 1:=kf
@[go_sem] theorem ZzU : XM Tryz.prog 4=some false:=kf
@[go_sem] theorem ZAP : Tryz.prog.underlying 5=some (.int .u8):=kf
@[go_sem] theorem ZAQ : Tryz.prog.underlying 9=some .string:=kf
@[go_sem] theorem ZAN : tsz Tryz.prog 9=some 1:=kf
@[go_sem] theorem ZzF : XM Tryz.prog 9=some false:=kf
@[go_sem] theorem Zz2 : Tryz.prog.underlying 22=some (.slice 9):=kf
@[go_sem] theorem Zz4 : tsz Tryz.prog 22=some 1:=kf
@[go_sem] theorem ZyV : XM Tryz.prog 22=some false:=kf
@[go_sem] theorem ZyC : YY Tryz.prog 22=some (none,1):=kf
@[go_sem] theorem ZAy : Tryz.prog.underlying 23=some (.slice 237):=kf
@[go_sem] theorem ZzD : tsz Tryz.prog 23=some 1:=kf
@[go_sem] theorem ZyN : XM Tryz.prog 23=some false:=kf
@[go_sem] theorem Zxa : YY Tryz.prog 23=some (none,6):=kf
@[go_sem] theorem ZAv : tsz Tryz.prog 25=some 2:=kf
@[go_sem] theorem Zxu : XM Tryz.prog 25=some true:=kf
@[go_sem] theorem ZsS : Xf Tryz.prog 25 0=some 0:=kf
@[go_sem] theorem Zs0 : Xf Tryz.prog 25 1=some 1:=kf
@[go_sem] theorem ZAG : Tryz.prog.underlying 26=some (.slice 67):=kf
@[go_sem] theorem ZAh : tsz Tryz.prog 26=some 1:=kf
@[go_sem] theorem Zxt : XM Tryz.prog 26=some false:=kf
@[go_sem] theorem Zzc : YY Tryz.prog 26=some (none,14):=kf
@[go_sem] theorem ZAH : Tryz.prog.underlying 27=some (.slice 71):=kf
@[go_sem] theorem ZAC : tsz Tryz.prog 27=some 1:=kf
@[go_sem] theorem Zxr : XM Tryz.prog 27=some false:=kf
@[go_sem] theorem ZyS : YY Tryz.prog 27=some (none,16):=kf
@[go_sem] theorem ZAp : Tryz.prog.underlying 28=some (.slice 218):=kf
@[go_sem] theorem ZAk : tsz Tryz.prog 28=some 1:=kf
@[go_sem] theorem Zzi : XM Tryz.prog 28=some false:=kf
@[go_sem] theorem Zxp : YY Tryz.prog 28=some (none,2):=kf
@[go_sem] theorem ZzX : tsz Tryz.prog 30=some 6:=kf
@[go_sem] theorem Zx9 : XM Tryz.prog 30=some true:=kf
@[go_sem] theorem Zsp : Xf Tryz.prog 30 0=some 0:=kf
@[go_sem] theorem ZrU : Xf Tryz.prog 30 1=some 2:=kf
@[go_sem] theorem Zsy : Xf Tryz.prog 30 2=some 3:=kf
@[go_sem] theorem Zs5 : Xf Tryz.prog 30 3=some 4:=kf
@[go_sem] theorem ZrL : Xf Tryz.prog 30 4=some 5:=kf
@[go_sem] theorem ZtW : Z9 Tryz.prog 30=some [.list true [],.list true [],.list true [],.list true [],.list true [],.list true []]:=kf
@[go_sem] theorem ZzK : Tryz.prog.underlying 31=some (.slice 64):=kf
@[go_sem] theorem ZzW : tsz Tryz.prog 31=some 1:=kf
@[go_sem] theorem Zxk : XM Tryz.prog 31=some false:=kf
@[go_sem] theorem Zyt : YY Tryz.prog 31=some (none,4):=kf
@[go_sem] theorem ZzE : Tryz.prog.underlying 32=some (.slice 3):=kf
@[go_sem] theorem ZAr : tsz Tryz.prog 32=some 1:=kf
@[go_sem] theorem Zzk : XM Tryz.prog 32=some false:=kf
@[go_sem] theorem Zy0 : YY Tryz.prog 32=some (none,1):=kf
@[go_sem] theorem Zyr : JW Tryz.prog 32=some 1:=kf
@[go_sem] theorem Znv : Zdh Tryz.prog 32=some (1,8):=kf
@[go_sem] theorem ZsH (H:List AM.Obj) (u:TypeId) (o n:Nat) (y:V):Ql Tryz.prog H 32 u (.sl o 0 n n) y=JU H (some (1,8)) (oat H o) o n (Wr (Tryz.prog.underlying u) H y):=Yn Znv
@[go_sem] theorem ZkO : Zhm Tryz.prog 32=some (1,8,.int .i64 0):=kf
@[go_sem] theorem ZAD (H:List AM.Obj) (fr:List V) (x y:Operand):Wg Tryz.prog (.makeSlice 32 x y) fr H=Wy (some (1,8,.int .i64 0)) H (ev fr x) (ev fr y):=QN ZkO
@[go_sem] theorem ZsN : Z9 Tryz.prog 32=some [.list true []]:=kf
@[go_sem] theorem ZAw : tsz Tryz.prog 34=some 2:=kf
@[go_sem] theorem Zw8 : XM Tryz.prog 34=some true:=kf
@[go_sem] theorem ZrP : Xf Tryz.prog 34 0=some 0:=kf
@[go_sem] theorem Zsu : Xf Tryz.prog 34 1=some 1:=kf
@[go_sem] theorem ZAa : tpl Tryz.prog 34=some (plL [(0,1),(1,1)]):=kf
@[go_sem] theorem ZrT : Z9 Tryz.prog 34=some [.list true [],.list true []]:=kf
@[go_sem] theorem ZAe : tsz Tryz.prog 41=some 1:=kf
@[go_sem] theorem ZxG : XM Tryz.prog 41=some false:=kf
@[go_sem] theorem ZAo : Tryz.prog.underlying 44=some (.slice 30):=kf
@[go_sem] theorem Zxd : YY Tryz.prog 44=some (none,6):=kf
@[go_sem] theorem ZAJ : Tryz.prog.underlying 45=some (.slice 34):=kf
@[go_sem] theorem Zx8 : YY Tryz.prog 45=some (none,2):=kf
@[go_sem] theorem ZAE : tsz Tryz.prog 51=some 4:=kf
@[go_sem] theorem Zw7 : XM Tryz.prog 51=some true:=kf
@[go_sem] theorem ZrZ : Xf Tryz.prog 51 0=some 0:=kf
@[go_sem] theorem Zr3 : Xf Tryz.prog 51 1=some 1:=kf
@[go_sem] theorem ZsK : Xf Tryz.prog 51 2=some 2:=kf
@[go_sem] theorem ZsR : Xf Tryz.prog 51 3=some 3:=kf
@[go_sem] theorem ZkJ : Tryz.prog.stoodInHeld 51=false:=kf
@[go_sem] theorem ZzR : tpl Tryz.prog 51=some (plL [(0,1),(1,1),(2,1),(3,1)]):=kf
@[go_sem] theorem ZzA (d:Nat) (a b:List PV):ZhT Tryz.prog d 51 (Tryz.prog.underlying 51) (.agg a) (.agg b)=Zdm (eqP (Ua Tryz.prog d 3) (apart Tryz.prog 3 a 0) (apart Tryz.prog 3 b 0)) (Zdm (eqP (Ua Tryz.prog d 3) (apart Tryz.prog 3 a 1) (apart Tryz.prog 3 b 1)) (Zdm (eqP (Ua Tryz.prog d 3) (apart Tryz.prog 3 a 2) (apart Tryz.prog 3 b 2)) (Zdm (eqP (Ua Tryz.prog d 3) (apart Tryz.prog 3 a 3) (apart Tryz.prog 3 b 3)) (some true)))):=by rw [Tryz.underlying51,WC ZkJ];simp [U9,Jo]
@[go_sem] theorem ZAl : Tryz.prog.eqGuardType Tryz.prog.depth 51=false:=kf
@[go_sem] theorem Zt6 : Z9 Tryz.prog 51=some [.int .i64 0,.int .i64 0,.int .i64 0,.int .i64 0]:=kf
@[go_sem] theorem ZzZ : Tryz.prog.underlying 61=some (.slice 4):=kf
@[go_sem] theorem Zzz : tsz Tryz.prog 61=some 1:=kf
@[go_sem] theorem ZxL : XM Tryz.prog 61=some false:=kf
@[go_sem] theorem ZyZ : YY Tryz.prog 61=some (none,1):=kf
@[go_sem] theorem ZyY : JW Tryz.prog 61=some 1:=kf
@[go_sem] theorem Zpe : Zdh Tryz.prog 61=some (1,1):=kf
@[go_sem] theorem ZtR (H:List AM.Obj) (u:TypeId) (y:V):Ql Tryz.prog H 61 u (.p (.list true [])) y=Zl3 H (some (1,1)) (Wr (Tryz.prog.underlying u) H y):=Zb6 Zpe
@[go_sem] theorem Zkd : Zhm Tryz.prog 61=some (1,1,.bool false):=kf
@[go_sem] theorem ZzT (H:List AM.Obj) (fr:List V) (x y:Operand):Wg Tryz.prog (.makeSlice 61 x y) fr H=Wy (some (1,1,.bool false)) H (ev fr x) (ev fr y):=QN Zkd
@[go_sem] theorem ZAi : Tryz.prog.underlying 62=some (.slice 102):=kf
@[go_sem] theorem ZAz : tsz Tryz.prog 62=some 1:=kf
@[go_sem] theorem Zxs : XM Tryz.prog 62=some false:=kf
@[go_sem] theorem ZxV : YY Tryz.prog 62=some (none,2):=kf
@[go_sem] theorem Zzp : JW Tryz.prog 62=some 2:=kf
@[go_sem] theorem ZoY : Zdh Tryz.prog 62=some (2,16):=kf
@[go_sem] theorem ZrN (H:List AM.Obj) (u:TypeId) (o n:Nat) (y:V):Ql Tryz.prog H 62 u (.sl o 0 n n) y=JU H (some (2,16)) (oat H o) o n (Wr (Tryz.prog.underlying u) H y):=Yn ZoY
@[go_sem] theorem ZzV : tsz Tryz.prog 64=some 4:=kf
@[go_sem] theorem ZxY : XM Tryz.prog 64=some true:=kf
@[go_sem] theorem Zta : Xf Tryz.prog 64 0=some 0:=kf
@[go_sem] theorem ZrQ : Xf Tryz.prog 64 1=some 1:=kf
@[go_sem] theorem Zso : Xf Tryz.prog 64 2=some 2:=kf
@[go_sem] theorem Ztn : Xf Tryz.prog 64 3=some 3:=kf
@[go_sem] theorem ZsY : Z9 Tryz.prog 64=some [.int .i64 0,.int .i64 0,.list true [],.list true []]:=kf
@[go_sem] theorem Zz9 : tsz Tryz.prog 67=some 14:=kf
@[go_sem] theorem Zy7 : XM Tryz.prog 67=some true:=kf
@[go_sem] theorem Zt3 : Xf Tryz.prog 67 0=some 0:=kf
@[go_sem] theorem Ztj : Xf Tryz.prog 67 1=some 1:=kf
@[go_sem] theorem ZtE : Xf Tryz.prog 67 2=some 2:=kf
@[go_sem] theorem Zs2 : Xf Tryz.prog 67 3=some 3:=kf
@[go_sem] theorem ZrI : Xf Tryz.prog 67 4=some 4:=kf
@[go_sem] theorem ZsZ : Xf Tryz.prog 67 5=some 5:=kf
@[go_sem] theorem Ztu : Xf Tryz.prog 67 6=some 6:=kf
@[go_sem] theorem ZtT : Xf Tryz.prog 67 7=some 7:=kf
@[go_sem] theorem Zts : Xf Tryz.prog 67 8=some 8:=kf
@[go_sem] theorem Zsk : Xf Tryz.prog 67 9=some 9:=kf
@[go_sem] theorem Zn6 : Xf Tryz.prog 67 10=some 10:=kf
@[go_sem] theorem ZmR : Xf Tryz.prog 67 11=some 11:=kf
@[go_sem] theorem Zpo : Xf Tryz.prog 67 12=some 12:=kf
@[go_sem] theorem Zpi : Xf Tryz.prog 67 13=some 13:=kf
@[go_sem] theorem ZtI : Z9 Tryz.prog 67=some [.str [],.int .i64 0,.int .i64 0,.int .i64 0,.list true [],.int .i64 0,.int .i64 0,.int .i64 0,.int .i64 0,.int .i64 0,.int .i64 0,.int .i64 0,.int .i64 0,.int .i64 0]:=kf
@[go_sem] theorem ZAK : tsz Tryz.prog 69=some 4:=kf
@[go_sem] theorem ZyK : XM Tryz.prog 69=some true:=kf
@[go_sem] theorem Zsq : Xf Tryz.prog 69 0=some 0:=kf
@[go_sem] theorem ZsJ : Xf Tryz.prog 69 1=some 1:=kf
@[go_sem] theorem Zsj : Xf Tryz.prog 69 2=some 2:=kf
@[go_sem] theorem ZsG : Xf Tryz.prog 69 3=some 3:=kf
@[go_sem] theorem ZAq : tpl Tryz.prog 69=some (plL [(0,1),(1,1),(2,1),(3,1)]):=kf
@[go_sem] theorem Zt7 : Z9 Tryz.prog 69=some [.int .i64 0,.int .i64 0,.int .i64 0,.int .i64 0]:=kf
@[go_sem] theorem ZzB : tsz Tryz.prog 71=some 16:=kf
@[go_sem] theorem Zxv : XM Tryz.prog 71=some true:=kf
@[go_sem] theorem Zt2 : Xf Tryz.prog 71 0=some 0:=kf
@[go_sem] theorem ZsA : Xf Tryz.prog 71 1=some 1:=kf
@[go_sem] theorem ZsI : Xf Tryz.prog 71 2=some 2:=kf
@[go_sem] theorem ZtJ : Xf Tryz.prog 71 3=some 6:=kf
@[go_sem] theorem Ztx : Xf Tryz.prog 71 4=some 10:=kf
@[go_sem] theorem ZrM : Xf Tryz.prog 71 5=some 11:=kf
@[go_sem] theorem ZtP : Xf Tryz.prog 71 6=some 12:=kf
@[go_sem] theorem ZtC : Xf Tryz.prog 71 7=some 13:=kf
@[go_sem] theorem Zth : Xf Tryz.prog 71 8=some 14:=kf
@[go_sem] theorem ZsE : Xf Tryz.prog 71 9=some 15:=kf
@[go_sem] theorem ZtF : Z9 Tryz.prog 71=some [.str [],.list true [],.int .i64 0,.int .i64 0,.int .i64 0,.int .i64 0,.int .i64 0,.int .i64 0,.int .i64 0,.int .i64 0,.int .i64 0,.int .i64 0,.int .i64 0,.int .i64 0,.int .i64 0,.bool false]:=kf
@[go_sem] theorem ZzG : Tryz.prog.underlying 84=some (.slice 32):=kf
@[go_sem] theorem ZyT : YY Tryz.prog 84=some (none,1):=kf
@[go_sem] theorem ZxN : JW Tryz.prog 84=some 1:=kf
@[go_sem] theorem ZnT : Zdh Tryz.prog 84=some (1,24):=kf
@[go_sem] theorem Zt8 (H:List AM.Obj) (u:TypeId) (o n:Nat) (y:V):Ql Tryz.prog H 84 u (.sl o 0 n n) y=JU H (some (1,24)) (oat H o) o n (Wr (Tryz.prog.underlying u) H y):=Yn ZnT
@[go_sem] theorem ZzS : Tryz.prog.underlying 88=some (.slice 171):=kf
@[go_sem] theorem Zyk : YY Tryz.prog 88=some (none,2):=kf
@[go_sem] theorem Zyf : JW Tryz.prog 88=some 2:=kf
@[go_sem] theorem ZiX : Zdh Tryz.prog 88=some (2,24):=kf
@[go_sem] theorem Zte (H:List AM.Obj) (u:TypeId) (y:V):Ql Tryz.prog H 88 u (.p (.list true [])) y=Zl3 H (some (2,24)) (Wr (Tryz.prog.underlying u) H y):=Zb6 ZiX
@[go_sem] theorem ZsT (H:List AM.Obj) (u:TypeId) (o n:Nat) (y:V):Ql Tryz.prog H 88 u (.sl o 0 n n) y=JU H (some (2,24)) (oat H o) o n (Wr (Tryz.prog.underlying u) H y):=Yn ZiX
@[go_sem] theorem ZAn : tsz Tryz.prog 90=some 1:=kf
@[go_sem] theorem Zyp : XM Tryz.prog 90=some false:=kf
@[go_sem] theorem ZzN : Tryz.prog.underlying 93=some (.slice 138):=kf
@[go_sem] theorem Zzw : tsz Tryz.prog 93=some 1:=kf
@[go_sem] theorem ZyB : XM Tryz.prog 93=some false:=kf
@[go_sem] theorem ZxB : YY Tryz.prog 93=some (none,4):=kf
@[go_sem] theorem ZxH : JW Tryz.prog 93=some 4:=kf
@[go_sem] theorem ZpS : Zdh Tryz.prog 93=some (4,32):=kf
@[go_sem] theorem ZtQ (H:List AM.Obj) (u:TypeId) (o n:Nat) (y:V):Ql Tryz.prog H 93 u (.sl o 0 n n) y=JU H (some (4,32)) (oat H o) o n (Wr (Tryz.prog.underlying u) H y):=Yn ZpS
@[go_sem] theorem ZAF : tsz Tryz.prog 95=some 5:=kf
@[go_sem] theorem ZxX : XM Tryz.prog 95=some true:=kf
@[go_sem] theorem ZsB : Xf Tryz.prog 95 0=some 0:=kf
@[go_sem] theorem Zr9 : Xf Tryz.prog 95 1=some 1:=kf
@[go_sem] theorem ZsF : Xf Tryz.prog 95 2=some 2:=kf
@[go_sem] theorem Ztq : Xf Tryz.prog 95 3=some 3:=kf
@[go_sem] theorem ZrJ : Xf Tryz.prog 95 4=some 4:=kf
@[go_sem] theorem Zzy : tpl Tryz.prog 95=some (plL [(0,1),(1,1),(2,1),(3,1),(4,1)]):=kf
@[go_sem] theorem ZsQ : Z9 Tryz.prog 95=some [.bool false,.int .i64 0,.list true [],.int .i64 0,.int .i64 0]:=kf
@[go_sem] theorem Zy2 : tsz Tryz.prog 102=some 2:=kf
@[go_sem] theorem Zua : XM Tryz.prog 102=some true:=kf
@[go_sem] theorem ZmZ : Xf Tryz.prog 102 0=some 0:=kf
@[go_sem] theorem ZpV : Xf Tryz.prog 102 1=some 1:=kf
@[go_sem] theorem ZhV : Tryz.prog.stoodInHeld 102=false:=kf
@[go_sem] theorem ZxT : tpl Tryz.prog 102=some (plL [(0,1),(1,1)]):=kf
@[go_sem] theorem Zze (d:Nat) (a b:List PV):ZhT Tryz.prog d 102 (Tryz.prog.underlying 102) (.agg a) (.agg b)=Zdm (eqP (Ua Tryz.prog d 3) (apart Tryz.prog 3 a 0) (apart Tryz.prog 3 b 0)) (Zdm (eqP (Ua Tryz.prog d 4) (apart Tryz.prog 4 a 1) (apart Tryz.prog 4 b 1)) (some true)):=by rw [Tryz.underlying102,WC ZhV];simp [U9,Jo]
@[go_sem] theorem Zxw : Tryz.prog.eqGuardType Tryz.prog.depth 102=false:=kf
@[go_sem] theorem Znb : Z9 Tryz.prog 102=some [.int .i64 0,.bool false]:=kf
@[go_sem] theorem ZxO : Tryz.prog.underlying 104=some (.int .u64):=kf
@[go_sem] theorem Zyh : tsz Tryz.prog 123=some 4:=kf
@[go_sem] theorem ZuJ : XM Tryz.prog 123=some true:=kf
@[go_sem] theorem ZwK : YY Tryz.prog 123=some ((some 4),1):=kf
@[go_sem] theorem Zyg : tpl Tryz.prog 123=some (plA 1):=kf
@[go_sem] theorem Zmq : Z9 Tryz.prog 123=some [.int .i64 0,.int .i64 0,.int .i64 0,.int .i64 0]:=kf
@[go_sem] theorem Zxn : tsz Tryz.prog 138=some 4:=kf
@[go_sem] theorem Zv6 : XM Tryz.prog 138=some true:=kf
@[go_sem] theorem Zno : Xf Tryz.prog 138 1=some 1:=kf
@[go_sem] theorem ZoN : Xf Tryz.prog 138 2=some 2:=kf
@[go_sem] theorem ZqB : Xf Tryz.prog 138 3=some 3:=kf
@[go_sem] theorem Zzq : tpl Tryz.prog 138=some (plL [(0,1),(1,1),(2,1),(3,1)]):=kf
@[go_sem] theorem ZpZ : Z9 Tryz.prog 138=some [.int .i64 0,.int .i64 0,.int .i64 0,.bool false]:=kf
@[go_sem] theorem Zxb : Tryz.prog.underlying 169=some (.slice 90):=kf
@[go_sem] theorem ZuT : YY Tryz.prog 169=some (none,1):=kf
@[go_sem] theorem Zuc : JW Tryz.prog 169=some 1:=kf
@[go_sem] theorem Zrr : Xf Tryz.prog 171 0=some 0:=kf
@[go_sem] theorem Zo4 : Xf Tryz.prog 171 1=some 1:=kf
@[go_sem] theorem Zys : tpl Tryz.prog 171=some (plL [(0,1),(1,1)]):=kf
@[go_sem] theorem Zqj : Z9 Tryz.prog 171=some [.int .i64 0,.str []]:=kf
@[go_sem] theorem Zzf : Tryz.prog.underlying 174=some (.slice 41):=kf
@[go_sem] theorem ZvF : YY Tryz.prog 174=some (none,1):=kf
@[go_sem] theorem Zw1 : JW Tryz.prog 174=some 1:=kf
@[go_sem] theorem ZkR : Zdh Tryz.prog 174=some (1,8):=kf
@[go_sem] theorem ZmN (H:List AM.Obj) (u:TypeId) (o n:Nat) (y:V):Ql Tryz.prog H 174 u (.sl o 0 n n) y=JU H (some (1,8)) (oat H o) o n (Wr (Tryz.prog.underlying u) H y):=Yn ZkR
@[go_sem] theorem Zy3 : tsz Tryz.prog 218=some 2:=kf
@[go_sem] theorem ZwY : XM Tryz.prog 218=some true:=kf
@[go_sem] theorem Zww : YY Tryz.prog 218=some ((some 2),1):=kf
@[go_sem] theorem ZmP : Z9 Tryz.prog 218=some [.int .i64 0,.int .i64 0]:=kf
@[go_sem] theorem ZyI : Tryz.prog.underlying 222=some (.slice 69):=kf
@[go_sem] theorem ZyO : tsz Tryz.prog 222=some 1:=kf
@[go_sem] theorem ZvJ : XM Tryz.prog 222=some false:=kf
@[go_sem] theorem Zvi : YY Tryz.prog 222=some (none,4):=kf
@[go_sem] theorem ZuX : JW Tryz.prog 222=some 4:=kf
@[go_sem] theorem Zjw : Zdh Tryz.prog 222=some (4,32):=kf
@[go_sem] theorem Zq3 (H:List AM.Obj) (u:TypeId) (o n:Nat) (y:V):Ql Tryz.prog H 222 u (.sl o 0 n n) y=JU H (some (4,32)) (oat H o) o n (Wr (Tryz.prog.underlying u) H y):=Yn Zjw
@[go_sem] theorem Zym : tsz Tryz.prog 224=some 25:=kf
@[go_sem] theorem Zwc : XM Tryz.prog 224=some true:=kf
@[go_sem] theorem ZoR : Xf Tryz.prog 224 0=some 0:=kf
@[go_sem] theorem Zor : Xf Tryz.prog 224 1=some 6:=kf
@[go_sem] theorem ZnR : Xf Tryz.prog 224 2=some 20:=kf
@[go_sem] theorem Zn5 : Xf Tryz.prog 224 3=some 24:=kf
@[go_sem] theorem Zxm : tpl Tryz.prog 224=some (plL [(0,6),(6,14),(20,4),(24,1)]):=kf
@[go_sem] theorem Zph : Z9 Tryz.prog 224=some [.list true [],.list true [],.list true [],.list true [],.list true [],.list true [],.str [],.int .i64 0,.int .i64 0,.int .i64 0,.list true [],.int .i64 0,.int .i64 0,.int .i64 0,.int .i64 0,.int .i64 0,.int .i64 0,.int .i64 0,.int .i64 0,.int .i64 0,.int .i64 0,.int .i64 0,.list true [],.list true [],.list true []]:=kf
@[go_sem] theorem Zza : tsz Tryz.prog 228=some 7:=kf
@[go_sem] theorem Zwi : XM Tryz.prog 228=some true:=kf
@[go_sem] theorem Zpz : Xf Tryz.prog 228 0=some 0:=kf
@[go_sem] theorem Zre : Xf Tryz.prog 228 1=some 1:=kf
@[go_sem] theorem Zm9 : Xf Tryz.prog 228 2=some 2:=kf
@[go_sem] theorem Zzh : tpl Tryz.prog 228=some (plL [(0,1),(1,1),(2,5)]):=kf
@[go_sem] theorem ZnJ : Z9 Tryz.prog 228=some [.int .i64 0,.int .i64 0,.bool false,.int .i64 0,.list true [],.int .i64 0,.int .i64 0]:=kf
@[go_sem] theorem Zyl : Tryz.prog.underlying 230=some (.slice 228):=kf
@[go_sem] theorem Zvr : YY Tryz.prog 230=some (none,7):=kf
@[go_sem] theorem ZwJ : JW Tryz.prog 230=some 7:=kf
@[go_sem] theorem Zkk : Zdh Tryz.prog 230=some (7,72):=kf
@[go_sem] theorem ZmA (H:List AM.Obj) (u:TypeId) (o n:Nat) (y:V):Ql Tryz.prog H 230 u (.sl o 0 n n) y=JU H (some (7,72)) (oat H o) o n (Wr (Tryz.prog.underlying u) H y):=Yn Zkk
@[go_sem] theorem Zx6 : Tryz.prog.underlying 235=some (.slice 240):=kf
@[go_sem] theorem Zzr : tsz Tryz.prog 235=some 1:=kf
@[go_sem] theorem ZuQ : XM Tryz.prog 235=some false:=kf
@[go_sem] theorem ZuR : YY Tryz.prog 235=some (none,2):=kf
@[go_sem] theorem ZyP : tsz Tryz.prog 237=some 6:=kf
@[go_sem] theorem Zwp : XM Tryz.prog 237=some true:=kf
@[go_sem] theorem Zqp : Xf Tryz.prog 237 0=some 0:=kf
@[go_sem] theorem Zqw : Xf Tryz.prog 237 1=some 1:=kf
@[go_sem] theorem ZoG : Xf Tryz.prog 237 2=some 2:=kf
@[go_sem] theorem ZnZ : Xf Tryz.prog 237 3=some 3:=kf
@[go_sem] theorem Zrc : Xf Tryz.prog 237 4=some 4:=kf
@[go_sem] theorem Zm8 : Xf Tryz.prog 237 5=some 5:=kf
@[go_sem] theorem ZyL : tpl Tryz.prog 237=some (plL [(0,1),(1,1),(2,1),(3,1),(4,1),(5,1)]):=kf
@[go_sem] theorem ZpE : Z9 Tryz.prog 237=some [.int .i64 0,.int .i64 0,.int .i64 0,.int .i64 0,.list true [],.list true []]:=kf
@[go_sem] theorem ZxM : tsz Tryz.prog 240=some 2:=kf
@[go_sem] theorem Zul : XM Tryz.prog 240=some true:=kf
@[go_sem] theorem Zmx : Xf Tryz.prog 240 0=some 0:=kf
@[go_sem] theorem Zoj : Xf Tryz.prog 240 1=some 1:=kf
@[go_sem] theorem ZoA : Z9 Tryz.prog 240=some [.int .i64 0,.int .i64 0]:=kf
@[go_sem] theorem ZxS : Tryz.prog.underlying 243=some (.slice 5):=kf
@[go_sem] theorem Zwd : JW Tryz.prog 243=some 1:=kf
@[go_sem] theorem Zy6 : tsz Tryz.prog 290=some 4:=kf
@[go_sem] theorem Zug : XM Tryz.prog 290=some true:=kf
@[go_sem] theorem ZqW : Xf Tryz.prog 290 0=some 0:=kf
@[go_sem] theorem ZoP : Xf Tryz.prog 290 1=some 1:=kf
@[go_sem] theorem ZmQ : Xf Tryz.prog 290 2=some 2:=kf
@[go_sem] theorem Zoz : Xf Tryz.prog 290 3=some 3:=kf
@[go_sem] theorem ZyH : tpl Tryz.prog 290=some (plL [(0,1),(1,1),(2,1),(3,1)]):=kf
@[go_sem] theorem ZrE : Z9 Tryz.prog 290=some [.int .i64 0,.int .i64 0,.int .i64 0,.int .i64 0]:=kf
@[go_sem] theorem Zw9 : tsz Tryz.prog 334=some 3:=kf
@[go_sem] theorem Zv2 : XM Tryz.prog 334=some true:=kf
@[go_sem] theorem ZhY : Tryz.prog.stoodInHeld 334=false:=kf
@[go_sem] theorem ZyJ : tpl Tryz.prog 334=some (plL [(0,1),(1,1),(2,1)]):=kf
@[go_sem] theorem ZyR (d:Nat) (a b:List PV):ZhT Tryz.prog d 334 (Tryz.prog.underlying 334) (.agg a) (.agg b)=Zdm (eqP (Ua Tryz.prog d 3) (apart Tryz.prog 3 a 0) (apart Tryz.prog 3 b 0)) (Zdm (eqP (Ua Tryz.prog d 3) (apart Tryz.prog 3 a 1) (apart Tryz.prog 3 b 1)) (Zdm (eqP (Ua Tryz.prog d 3) (apart Tryz.prog 3 a 2) (apart Tryz.prog 3 b 2)) (some true))):=by rw [Tryz.underlying334,WC ZhY];simp [U9,Jo]
@[go_sem] theorem Zxo : Tryz.prog.eqGuardType Tryz.prog.depth 334=false:=kf
@[go_sem] theorem Zml : Z9 Tryz.prog 334=some [.int .i64 0,.int .i64 0,.int .i64 0]:=kf
theorem ZAI : Zi Tryz.prog 4:=fun args w=>Tryz.call4 args w
theorem Zu1 : Zi Tryz.prog 10:=fun args w=>Tryz.call10 args w
theorem Zun : Zi Tryz.prog 11:=fun args w=>Tryz.call11 args w
theorem Zu3 : Zi Tryz.prog 13:=fun args w=>Tryz.call13 args w
theorem ZvT : Zi Tryz.prog 14:=fun args w=>Tryz.call14 args w
theorem ZuW : Zi Tryz.prog 15:=fun args w=>Tryz.call15 args w
theorem Zvm : Zi Tryz.prog 16:=fun args w=>Tryz.call16 args w
theorem Zwj : Zi Tryz.prog 17:=fun args w=>Tryz.call17 args w
theorem Zur : Zi Tryz.prog 18:=fun args w=>Tryz.call18 args w
theorem Zvu : Zi Tryz.prog 20:=fun args w=>Tryz.call20 args w
theorem ZuY : Zi Tryz.prog 24:=fun args w=>Tryz.call24 args w
theorem ZwX : Zi Tryz.prog 32:=fun args w=>Tryz.call32 args w
theorem Zvz : Zi Tryz.prog 33:=fun args w=>Tryz.call33 args w
theorem Zv1 : Zi Tryz.prog 34:=fun args w=>Tryz.call34 args w
theorem Zu0 : Zi Tryz.prog 35:=fun args w=>Tryz.call35 args w
theorem ZuP : Zi Tryz.prog 36:=fun args w=>Tryz.call36 args w
theorem ZuK : Zi Tryz.prog 37:=fun args w=>Tryz.call37 args w
theorem Zwz : Zi Tryz.prog 38:=fun args w=>Tryz.call38 args w
theorem ZvD : Zi Tryz.prog 39:=fun args w=>Tryz.call39 args w
theorem ZuS : Zi Tryz.prog 40:=fun args w=>Tryz.call40 args w
theorem ZuD : Zi Tryz.prog 41:=fun args w=>Tryz.call41 args w
theorem ZvM : Zi Tryz.prog 42:=fun args w=>Tryz.call42 args w
theorem Zuw : Zi Tryz.prog 43:=fun args w=>Tryz.call43 args w
theorem Zvs : Zi Tryz.prog 44:=fun args w=>Tryz.call44 args w
theorem Zv0 : Zi Tryz.prog 47:=fun args w=>Tryz.call47 args w
theorem Zut : Zi Tryz.prog 51:=fun args w=>Tryz.call51 args w
theorem ZvG : Zi Tryz.prog 52:=fun args w=>Tryz.call52 args w
theorem Zt9 : Zi Tryz.prog 53:=fun args w=>Tryz.call53 args w
theorem Zuz : Zi Tryz.prog 54:=fun args w=>Tryz.call54 args w
theorem Zva : Zi Tryz.prog 55:=fun args w=>Tryz.call55 args w
theorem Zvl : Zi Tryz.prog 56:=fun args w=>Tryz.call56 args w
theorem Zvf : Zi Tryz.prog 57:=fun args w=>Tryz.call57 args w
theorem Zu9 : Zi Tryz.prog 67:=fun args w=>Tryz.call67 args w
theorem ZwW : Zi Tryz.prog 68:=fun args w=>Tryz.call68 args w
theorem Zw2 : Zi Tryz.prog 69:=fun args w=>Tryz.call69 args w
theorem ZwA : Zi Tryz.prog 70:=fun args w=>Tryz.call70 args w
theorem ZwG : Zi Tryz.prog 71:=fun args w=>Tryz.call71 args w
theorem Zwu : Zi Tryz.prog 72:=fun args w=>Tryz.call72 args w
theorem Zvt : Zi Tryz.prog 73:=fun args w=>Tryz.call73 args w
theorem Zvb : Zi Tryz.prog 74:=fun args w=>Tryz.call74 args w
theorem ZwV : Zi Tryz.prog 75:=fun args w=>Tryz.call75 args w
theorem Zwy : Zi Tryz.prog 76:=fun args w=>Tryz.call76 args w
theorem ZvO : Zi Tryz.prog 77:=fun args w=>Tryz.call77 args w
theorem Zui : Zi Tryz.prog 78:=fun args w=>Tryz.call78 args w
theorem Zup : Zi Tryz.prog 79:=fun args w=>Tryz.call79 args w
theorem ZwB : Zi Tryz.prog 80:=fun args w=>Tryz.call80 args w
theorem ZwD : Zi Tryz.prog 81:=fun args w=>Tryz.call81 args w
theorem ZwR : Zi Tryz.prog 82:=fun args w=>Tryz.call82 args w
theorem Zvh : Zi Tryz.prog 83:=fun args w=>Tryz.call83 args w
theorem Zqg : Zi Tryz.prog 84:=fun args w=>Tryz.call84 args w
theorem Zwe : Zi Tryz.prog 85:=fun args w=>Tryz.call85 args w
theorem Zuk : Zi Tryz.prog 89:=fun args w=>Tryz.call89 args w
theorem ZuZ : Zi Tryz.prog 90:=fun args w=>Tryz.call90 args w
theorem ZnS : Zi Tryz.prog 105:=fun args w=>Tryz.call105 args w
theorem Znx : Zi Tryz.prog 110:=fun args w=>Tryz.call110 args w
theorem Znp : Zi Tryz.prog 111:=fun args w=>Tryz.call111 args w
theorem Zp5 : Zi Tryz.prog 112:=fun args w=>Tryz.call112 args w
theorem Zov : Zi Tryz.prog 113:=fun args w=>Tryz.call113 args w
theorem Zpk : Zi Tryz.prog 114:=fun args w=>Tryz.call114 args w
theorem ZqP : Zi Tryz.prog 115:=fun args w=>Tryz.call115 args w
theorem Zp8 : Zi Tryz.prog 116:=fun args w=>Tryz.call116 args w
theorem ZpQ : Zi Tryz.prog 117:=fun args w=>Tryz.call117 args w
theorem Zpj : Zi Tryz.prog 118:=fun args w=>Tryz.call118 args w
theorem ZnX : Zi Tryz.prog 119:=fun args w=>Tryz.call119 args w
theorem ZnY : Zi Tryz.prog 120:=fun args w=>Tryz.call120 args w
theorem ZoM : Zi Tryz.prog 121:=fun args w=>Tryz.call121 args w
theorem Zoy : Zi Tryz.prog 122:=fun args w=>Tryz.call122 args w
theorem Zny : Zi Tryz.prog 123:=fun args w=>Tryz.call123 args w
theorem ZoX : Zi Tryz.prog 124:=fun args w=>Tryz.call124 args w
theorem ZpX : Zi Tryz.prog 125:=fun args w=>Tryz.call125 args w
theorem Zo8 : Zi Tryz.prog 126:=fun args w=>Tryz.call126 args w
theorem ZnE : Zi Tryz.prog 127:=fun args w=>Tryz.call127 args w
theorem ZmU : Zi Tryz.prog 128:=fun args w=>Tryz.call128 args w
theorem ZmL : Zi Tryz.prog 129:=fun args w=>Tryz.call129 args w
theorem Zmp : Zi Tryz.prog 130:=fun args w=>Tryz.call130 args w
theorem Zon : Zi Tryz.prog 131:=fun args w=>Tryz.call131 args w
theorem ZnM : Zi Tryz.prog 134:=fun args w=>Tryz.call134 args w
theorem ZrC : Zi Tryz.prog 150:=fun args w=>Tryz.call150 args w
theorem Zqo : Zi Tryz.prog 154:=fun args w=>Tryz.call154 args w
theorem Zpb : Zi Tryz.prog 155:=fun args w=>Tryz.call155 args w
theorem ZnG : Zi Tryz.prog 156:=fun args w=>Tryz.call156 args w
theorem ZrF : Zi Tryz.prog 157:=fun args w=>Tryz.call157 args w
theorem Znk : Zi Tryz.prog 158:=fun args w=>Tryz.call158 args w
theorem ZnB : Zi Tryz.prog 159:=fun args w=>Tryz.call159 args w
theorem Znj : Zi Tryz.prog 160:=fun args w=>Tryz.call160 args w
theorem Zps : Zi Tryz.prog 161:=fun args w=>Tryz.call161 args w
theorem ZpU : Zi Tryz.prog 162:=fun args w=>Tryz.call162 args w
theorem ZqX : Zi Tryz.prog 163:=fun args w=>Tryz.call163 args w
theorem ZnN : Zi Tryz.prog 164:=fun args w=>Tryz.call164 args w
theorem Zip : Zi Tryz.prog 165:=fun args w=>Tryz.call165 args w
theorem ZoL : Zi Tryz.prog 166:=fun args w=>Tryz.call166 args w
theorem Zqa : Zi Tryz.prog 167:=fun args w=>Tryz.call167 args w
theorem ZmF : Zi Tryz.prog 168:=fun args w=>Tryz.call168 args w
theorem Zqm : Zi Tryz.prog 169:=fun args w=>Tryz.call169 args w
theorem ZnQ : Zi Tryz.prog 170:=fun args w=>Tryz.call170 args w
theorem Zo0 : Zi Tryz.prog 171:=fun args w=>Tryz.call171 args w
theorem Zqe : Zi Tryz.prog 172:=fun args w=>Tryz.call172 args w
theorem Zp4 : Zi Tryz.prog 173:=fun args w=>Tryz.call173 args w
theorem ZmJ : Zi Tryz.prog 174:=fun args w=>Tryz.call174 args w
theorem Zmy : Zi Tryz.prog 175:=fun args w=>Tryz.call175 args w
theorem Zqs : Zi Tryz.prog 176:=fun args w=>Tryz.call176 args w
theorem Zpx : Zi Tryz.prog 177:=fun args w=>Tryz.call177 args w
theorem ZqM : Zi Tryz.prog 178:=fun args w=>Tryz.call178 args w
theorem Zqc : Zi Tryz.prog 179:=fun args w=>Tryz.call179 args w
theorem ZnL : Zi Tryz.prog 180:=fun args w=>Tryz.call180 args w
theorem ZpK : Zi Tryz.prog 181:=fun args w=>Tryz.call181 args w
theorem Znc : Zi Tryz.prog 182:=fun args w=>Tryz.call182 args w
theorem Zqk : Zi Tryz.prog 183:=fun args w=>Tryz.call183 args w
theorem Zpl : Zi Tryz.prog 205:=fun args w=>Tryz.call205 args w
theorem ZmT : Zi Tryz.prog 208:=fun args w=>Tryz.call208 args w
theorem Zm6 : Zi Tryz.prog 209:=fun args w=>Tryz.call209 args w
theorem ZmV : Zi Tryz.prog 210:=fun args w=>Tryz.call210 args w
theorem Zrq : Zi Tryz.prog 211:=fun args w=>Tryz.call211 args w
theorem ZqI : Zi Tryz.prog 212:=fun args w=>Tryz.call212 args w
theorem Zrn : Zi Tryz.prog 213:=fun args w=>Tryz.call213 args w
theorem ZqH : Zi Tryz.prog 214:=fun args w=>Tryz.call214 args w
theorem Znm : Zi Tryz.prog 215:=fun args w=>Tryz.call215 args w
theorem Zok : Zi Tryz.prog 216:=fun args w=>Tryz.call216 args w
theorem Zm1 : Zi Tryz.prog 217:=fun args w=>Tryz.call217 args w
theorem Zod : Zi Tryz.prog 218:=fun args w=>Tryz.call218 args w
theorem Znw : Zi Tryz.prog 219:=fun args w=>Tryz.call219 args w
theorem Zrl : Zi Tryz.prog 220:=fun args w=>Tryz.call220 args w
theorem ZpN : Zi Tryz.prog 221:=fun args w=>Tryz.call221 args w
theorem Zq0 : Zi Tryz.prog 222:=fun args w=>Tryz.call222 args w
theorem ZqU : Zi Tryz.prog 223:=fun args w=>Tryz.call223 args w
theorem Zng : Zi Tryz.prog 224:=fun args w=>Tryz.call224 args w
theorem ZqR : Zi Tryz.prog 225:=fun args w=>Tryz.call225 args w
theorem Zp9 : Zi Tryz.prog 226:=fun args w=>Tryz.call226 args w
theorem ZnC : Zi Tryz.prog 227:=fun args w=>Tryz.call227 args w
theorem Zi9 : Zi Tryz.prog 238:=fun args w=>Tryz.call238 args w
theorem Zpr : Zi Tryz.prog 243:=fun args w=>Tryz.call243 args w
theorem Zrs : Zi Tryz.prog 244:=fun args w=>Tryz.call244 args w
theorem Zrg : Zi Tryz.prog 245:=fun args w=>Tryz.call245 args w
theorem ZqV : Zi Tryz.prog 246:=fun args w=>Tryz.call246 args w
theorem Znl : Zi Tryz.prog 247:=fun args w=>Tryz.call247 args w
theorem ZoJ : Zi Tryz.prog 248:=fun args w=>Tryz.call248 args w
theorem ZpB : Zi Tryz.prog 249:=fun args w=>Tryz.call249 args w
theorem ZpY : Zi Tryz.prog 250:=fun args w=>Tryz.call250 args w
theorem ZnK : Zi Tryz.prog 251:=fun args w=>Tryz.call251 args w
theorem Znz : Zi Tryz.prog 252:=fun args w=>Tryz.call252 args w
theorem ZoC : Zi Tryz.prog 253:=fun args w=>Tryz.call253 args w
theorem ZpR : Zi Tryz.prog 259:=fun args w=>Tryz.call259 args w
theorem Zpg : Zi Tryz.prog 260:=fun args w=>Tryz.call260 args w
theorem Zpq : Zi Tryz.prog 261:=fun args w=>Tryz.call261 args w
theorem Zqv : Zi Tryz.prog 262:=fun args w=>Tryz.call262 args w
theorem Zrz : Zi Tryz.prog 266:=fun args w=>Tryz.call266 args w
theorem Zm4 : Zi Tryz.prog 267:=fun args w=>Tryz.call267 args w
theorem ZpJ : Zi Tryz.prog 268:=fun args w=>Tryz.call268 args w
theorem ZmM : Zi Tryz.prog 269:=fun args w=>Tryz.call269 args w
theorem Zo5 : Zi Tryz.prog 270:=fun args w=>Tryz.call270 args w
theorem Zmz : Zi Tryz.prog 272:=fun args w=>Tryz.call272 args w
theorem Zob : Zi Tryz.prog 273:=fun args w=>Tryz.call273 args w
theorem Zqh : Zi Tryz.prog 274:=fun args w=>Tryz.call274 args w
theorem Zoa : Zi Tryz.prog 275:=fun args w=>Tryz.call275 args w
theorem Zo1 : Zi Tryz.prog 276:=fun args w=>Tryz.call276 args w
theorem Zof : Zi Tryz.prog 277:=fun args w=>Tryz.call277 args w
theorem Zrw : Zi Tryz.prog 278:=fun args w=>Tryz.call278 args w
theorem ZqC : Zi Tryz.prog 279:=fun args w=>Tryz.call279 args w
theorem ZqZ : Zi Tryz.prog 280:=fun args w=>Tryz.call280 args w
theorem ZmB : Zi Tryz.prog 281:=fun args w=>Tryz.call281 args w
theorem ZmE : Zi Tryz.prog 282:=fun args w=>Tryz.call282 args w
theorem Zm : Tryz.prog.follows .mixedOrders=true:=by kernel_rfl
end Go.Proofs.YtbdmjphjnniogaaGreatDoor.K
