/- Declarations that the closing texts need, part 5: joined by tools/slim.py. -/
import Derived.Test.YtcpmilhkineciaaGreatDoorZ4
import Derived.KernelRfl
import Derived.Test.YtcpmilhkineciaaGreatDoorProg
namespace Go.Proofs.YtcpmilhkineciaaGreatDoor.K
open Go Go.AM Go.Proofs
abbrev PC (f:FuncId) (a:List V) (y:PV):=ACalls Tryz.prog f a [] fun x H'=>x= .p y/\H'= []
abbrev PT (f:FuncId) (a:List V) (b:List V):=ACalls Tryz.prog f a [] fun x H'=>x= .tup b/\H'= []
theorem kf {α:Type} {a b:α} (h:a=b:=by kernel_rfl):a=b:=Eq.trans h rfl
@[go_sem] theorem ZAt : Tryz.prog.underlying 3=some (.int .i64):=kf
@[go_sem] theorem ZAv : tsz Tryz.prog 3=some 1:=kf
@[go_sem] theorem ZAc : XO Tryz.prog 3=some false:=kf
@[go_sem] theorem ZAx : Tryz.prog.underlying 4=some .bool:=kf
@[go_sem] theorem ZAu : tsz Tryz.prog 4=some 1:=kf
@[go_sem] theorem ZAg : XO Tryz.prog 4=some false:=kf
@[go_sem] theorem ZAs : Tryz.prog.underlying 5=some (.int .u8):=kf
@[go_sem] theorem ZAw : Tryz.prog.underlying 9=some .string:=kf
@[go_sem] theorem ZAr : tsz Tryz.prog 9=some 1:=kf
@[go_sem] theorem Zzx : XO Tryz.prog 9=some false:=kf
@[go_sem] theorem Zzz : tsz Tryz.prog 26=some 1:=kf
@[go_sem] theorem ZyB : XO Tryz.prog 26=some false:=kf
@[go_sem] theorem Zzd : Tryz.prog.underlying 30=some (.slice 49):=kf
@[go_sem] theorem ZzV : tsz Tryz.prog 30=some 1:=kf
@[go_sem] theorem ZyQ : XO Tryz.prog 30=some false:=kf
@[go_sem] theorem ZyD : We Tryz.prog 30=some (none,4):=kf
@[go_sem] theorem ZyX : Jd Tryz.prog 30=some 4:=kf
@[go_sem] theorem ZpJ : ZbR Tryz.prog 30=some (4,64):=kf
@[go_sem] theorem ZtZ (H:List AM.Obj) (u:TypeId) (o n:Nat) (y:V):VZ Tryz.prog H 30 u (.sl o 0 n n) y=Qp H (some (4,64)) (oat H o) o n (YL (Tryz.prog.underlying u) H y):=XQ ZpJ
@[go_sem] theorem Zzw : Tryz.prog.underlying 31=some (.slice 3):=kf
@[go_sem] theorem Zz3 : tsz Tryz.prog 31=some 1:=kf
@[go_sem] theorem ZyV : XO Tryz.prog 31=some false:=kf
@[go_sem] theorem Zw6 : We Tryz.prog 31=some (none,1):=kf
@[go_sem] theorem Zx6 : Jd Tryz.prog 31=some 1:=kf
@[go_sem] theorem Zn5 : ZbR Tryz.prog 31=some (1,8):=kf
@[go_sem] theorem Zsj (H:List AM.Obj) (u:TypeId) (o n:Nat) (y:V):VZ Tryz.prog H 31 u (.sl o 0 n n) y=Qp H (some (1,8)) (oat H o) o n (YL (Tryz.prog.underlying u) H y):=XQ Zn5
@[go_sem] theorem Zi5 : ZhF Tryz.prog 31=some (1,8,.int .i64 0):=kf
@[go_sem] theorem Zzn (H:List AM.Obj) (fr:List V) (x y:Operand):Wd Tryz.prog (.makeSlice 31 x y) fr H=Ww (some (1,8,.int .i64 0)) H (ev fr x) (ev fr y):=Qm Zi5
@[go_sem] theorem ZrL : Xb Tryz.prog 31=some [.list true []]:=kf
@[go_sem] theorem ZzL : tsz Tryz.prog 33=some 2:=kf
@[go_sem] theorem Zx2 : XO Tryz.prog 33=some true:=kf
@[go_sem] theorem Zue : Z7 Tryz.prog 33 0=some 0:=kf
@[go_sem] theorem Zt9 : Z7 Tryz.prog 33 1=some 1:=kf
@[go_sem] theorem ZAe : tpl Tryz.prog 33=some (plL [(0,1),(1,1)]):=kf
@[go_sem] theorem Zt4 : Xb Tryz.prog 33=some [.list true [],.list true []]:=kf
@[go_sem] theorem ZzR : Tryz.prog.underlying 35=some (.slice 9):=kf
@[go_sem] theorem Zzu : tsz Tryz.prog 35=some 1:=kf
@[go_sem] theorem Zy1 : XO Tryz.prog 35=some false:=kf
@[go_sem] theorem ZyI : We Tryz.prog 35=some (none,1):=kf
@[go_sem] theorem Zzh : Tryz.prog.underlying 36=some (.slice 129):=kf
@[go_sem] theorem ZzD : tsz Tryz.prog 36=some 1:=kf
@[go_sem] theorem ZxJ : XO Tryz.prog 36=some false:=kf
@[go_sem] theorem ZyU : We Tryz.prog 36=some (none,6):=kf
@[go_sem] theorem Zze : tsz Tryz.prog 38=some 2:=kf
@[go_sem] theorem Zyc : XO Tryz.prog 38=some true:=kf
@[go_sem] theorem ZrZ : Z7 Tryz.prog 38 0=some 0:=kf
@[go_sem] theorem Zty : Z7 Tryz.prog 38 1=some 1:=kf
@[go_sem] theorem ZzN : Tryz.prog.underlying 39=some (.slice 82):=kf
@[go_sem] theorem Zzi : tsz Tryz.prog 39=some 1:=kf
@[go_sem] theorem Zyp : XO Tryz.prog 39=some false:=kf
@[go_sem] theorem Zw4 : We Tryz.prog 39=some (none,14):=kf
@[go_sem] theorem ZzZ : Tryz.prog.underlying 40=some (.slice 59):=kf
@[go_sem] theorem ZzC : tsz Tryz.prog 40=some 1:=kf
@[go_sem] theorem Zyn : XO Tryz.prog 40=some false:=kf
@[go_sem] theorem Zxx : We Tryz.prog 40=some (none,16):=kf
@[go_sem] theorem ZAb : Tryz.prog.underlying 41=some (.slice 132):=kf
@[go_sem] theorem Zzf : tsz Tryz.prog 41=some 1:=kf
@[go_sem] theorem ZxU : XO Tryz.prog 41=some false:=kf
@[go_sem] theorem Zy5 : We Tryz.prog 41=some (none,2):=kf
@[go_sem] theorem Zz8 : tsz Tryz.prog 43=some 6:=kf
@[go_sem] theorem ZxV : XO Tryz.prog 43=some true:=kf
@[go_sem] theorem Zr4 : Z7 Tryz.prog 43 0=some 0:=kf
@[go_sem] theorem ZsP : Z7 Tryz.prog 43 1=some 2:=kf
@[go_sem] theorem ZsU : Z7 Tryz.prog 43 2=some 3:=kf
@[go_sem] theorem Zr8 : Z7 Tryz.prog 43 3=some 4:=kf
@[go_sem] theorem ZrI : Z7 Tryz.prog 43 4=some 5:=kf
@[go_sem] theorem Zzg : Tryz.prog.underlying 46=some (.slice 4):=kf
@[go_sem] theorem ZzS : tsz Tryz.prog 46=some 1:=kf
@[go_sem] theorem ZyM : XO Tryz.prog 46=some false:=kf
@[go_sem] theorem ZxO : We Tryz.prog 46=some (none,1):=kf
@[go_sem] theorem ZwV : Jd Tryz.prog 46=some 1:=kf
@[go_sem] theorem ZiA : ZbR Tryz.prog 46=some (1,1):=kf
@[go_sem] theorem Ztw (H:List AM.Obj) (u:TypeId) (y:V):VZ Tryz.prog H 46 u (.p (.list true [])) y=ZjS H (some (1,1)) (YL (Tryz.prog.underlying u) H y):=Q9 ZiA
@[go_sem] theorem Zs8 (H:List AM.Obj) (u:TypeId) (o n:Nat) (y:V):VZ Tryz.prog H 46 u (.sl o 0 n n) y=Qp H (some (1,1)) (oat H o) o n (YL (Tryz.prog.underlying u) H y):=XQ ZiA
@[go_sem] theorem ZkB : ZhF Tryz.prog 46=some (1,1,.bool false):=kf
@[go_sem] theorem Zzy (H:List AM.Obj) (fr:List V) (x y:Operand):Wd Tryz.prog (.makeSlice 46 x y) fr H=Ww (some (1,1,.bool false)) H (ev fr x) (ev fr y):=Qm ZkB
@[go_sem] theorem ZzX : Tryz.prog.underlying 47=some (.slice 126):=kf
@[go_sem] theorem ZAp : tsz Tryz.prog 47=some 1:=kf
@[go_sem] theorem Zy0 : XO Tryz.prog 47=some false:=kf
@[go_sem] theorem Zxf : We Tryz.prog 47=some (none,2):=kf
@[go_sem] theorem Zw0 : Jd Tryz.prog 47=some 2:=kf
@[go_sem] theorem Ziz : ZbR Tryz.prog 47=some (2,16):=kf
@[go_sem] theorem Zsi (H:List AM.Obj) (u:TypeId) (y:V):VZ Tryz.prog H 47 u (.p (.list true [])) y=ZjS H (some (2,16)) (YL (Tryz.prog.underlying u) H y):=Q9 Ziz
@[go_sem] theorem ZsO (H:List AM.Obj) (u:TypeId) (o n:Nat) (y:V):VZ Tryz.prog H 47 u (.sl o 0 n n) y=Qp H (some (2,16)) (oat H o) o n (YL (Tryz.prog.underlying u) H y):=XQ Ziz
@[go_sem] theorem Zzp : tsz Tryz.prog 49=some 4:=kf
@[go_sem] theorem Zxp : XO Tryz.prog 49=some true:=kf
@[go_sem] theorem Ztf : Z7 Tryz.prog 49 0=some 0:=kf
@[go_sem] theorem ZrK : Z7 Tryz.prog 49 1=some 1:=kf
@[go_sem] theorem ZsD : Z7 Tryz.prog 49 2=some 2:=kf
@[go_sem] theorem Zse : Z7 Tryz.prog 49 3=some 3:=kf
@[go_sem] theorem ZzY : tpl Tryz.prog 49=some (plL [(0,1),(1,1),(2,1),(3,1)]):=kf
@[go_sem] theorem Ztv : Xb Tryz.prog 49=some [.int .i64 0,.int .i64 0,.list true [],.list true []]:=kf
@[go_sem] theorem ZzI : tsz Tryz.prog 51=some 4:=kf
@[go_sem] theorem Zxi : XO Tryz.prog 51=some true:=kf
@[go_sem] theorem ZsX : Z7 Tryz.prog 51 1=some 1:=kf
@[go_sem] theorem Zsz : Z7 Tryz.prog 51 2=some 2:=kf
@[go_sem] theorem ZAd : tpl Tryz.prog 51=some (plL [(0,1),(1,1),(2,1),(3,1)]):=kf
@[go_sem] theorem Ztj : Xb Tryz.prog 51=some [.int .i64 0,.int .i64 0,.int .i64 0,.int .i64 0]:=kf
@[go_sem] theorem Zzt : tsz Tryz.prog 57=some 4:=kf
@[go_sem] theorem Zy3 : XO Tryz.prog 57=some true:=kf
@[go_sem] theorem ZtU : Z7 Tryz.prog 57 0=some 0:=kf
@[go_sem] theorem ZtS : Z7 Tryz.prog 57 1=some 1:=kf
@[go_sem] theorem Zsh : Z7 Tryz.prog 57 2=some 2:=kf
@[go_sem] theorem Ztr : Z7 Tryz.prog 57 3=some 3:=kf
@[go_sem] theorem Zz2 : tpl Tryz.prog 57=some (plL [(0,1),(1,1),(2,1),(3,1)]):=kf
@[go_sem] theorem Zsm : Xb Tryz.prog 57=some [.int .i64 0,.int .i64 0,.int .i64 0,.int .i64 0]:=kf
@[go_sem] theorem ZAa : tsz Tryz.prog 59=some 16:=kf
@[go_sem] theorem Zyx : XO Tryz.prog 59=some true:=kf
@[go_sem] theorem Zs5 : Z7 Tryz.prog 59 0=some 0:=kf
@[go_sem] theorem Zsn : Z7 Tryz.prog 59 1=some 1:=kf
@[go_sem] theorem Zr0 : Z7 Tryz.prog 59 2=some 2:=kf
@[go_sem] theorem ZrJ : Z7 Tryz.prog 59 3=some 6:=kf
@[go_sem] theorem Zta : Z7 Tryz.prog 59 4=some 10:=kf
@[go_sem] theorem ZsL : Z7 Tryz.prog 59 5=some 11:=kf
@[go_sem] theorem Zsq : Z7 Tryz.prog 59 6=some 12:=kf
@[go_sem] theorem ZsH : Z7 Tryz.prog 59 7=some 13:=kf
@[go_sem] theorem Zth : Z7 Tryz.prog 59 8=some 14:=kf
@[go_sem] theorem ZtN : Z7 Tryz.prog 59 9=some 15:=kf
@[go_sem] theorem ZsK : Xb Tryz.prog 59=some [.str [],.list true [],.int .i64 0,.int .i64 0,.int .i64 0,.int .i64 0,.int .i64 0,.int .i64 0,.int .i64 0,.int .i64 0,.int .i64 0,.int .i64 0,.int .i64 0,.int .i64 0,.int .i64 0,.bool false]:=kf
@[go_sem] theorem ZAf : tsz Tryz.prog 63=some 15:=kf
@[go_sem] theorem ZyP : XO Tryz.prog 63=some true:=kf
@[go_sem] theorem Ztm : Z7 Tryz.prog 63 0=some 0:=kf
@[go_sem] theorem Zt2 : Z7 Tryz.prog 63 1=some 6:=kf
@[go_sem] theorem Zua : Z7 Tryz.prog 63 2=some 8:=kf
@[go_sem] theorem Zto : Z7 Tryz.prog 63 3=some 9:=kf
@[go_sem] theorem Zz5 : tsz Tryz.prog 82=some 14:=kf
@[go_sem] theorem Zxe : XO Tryz.prog 82=some true:=kf
@[go_sem] theorem Zr7 : Z7 Tryz.prog 82 0=some 0:=kf
@[go_sem] theorem Zsg : Z7 Tryz.prog 82 1=some 1:=kf
@[go_sem] theorem ZtC : Z7 Tryz.prog 82 2=some 2:=kf
@[go_sem] theorem Zsf : Z7 Tryz.prog 82 3=some 3:=kf
@[go_sem] theorem Ztd : Z7 Tryz.prog 82 4=some 4:=kf
@[go_sem] theorem Zuc : Z7 Tryz.prog 82 5=some 5:=kf
@[go_sem] theorem Ztn : Z7 Tryz.prog 82 6=some 6:=kf
@[go_sem] theorem ZtE : Z7 Tryz.prog 82 7=some 7:=kf
@[go_sem] theorem Zsa : Z7 Tryz.prog 82 8=some 8:=kf
@[go_sem] theorem Zsw : Z7 Tryz.prog 82 9=some 9:=kf
@[go_sem] theorem Zmy : Z7 Tryz.prog 82 10=some 10:=kf
@[go_sem] theorem ZmW : Z7 Tryz.prog 82 11=some 11:=kf
@[go_sem] theorem ZnY : Z7 Tryz.prog 82 12=some 12:=kf
@[go_sem] theorem Znr : Z7 Tryz.prog 82 13=some 13:=kf
@[go_sem] theorem ZsY : Xb Tryz.prog 82=some [.str [],.int .i64 0,.int .i64 0,.int .i64 0,.list true [],.int .i64 0,.int .i64 0,.int .i64 0,.int .i64 0,.int .i64 0,.int .i64 0,.int .i64 0,.int .i64 0,.int .i64 0]:=kf
@[go_sem] theorem Zz9 : tsz Tryz.prog 90=some 1:=kf
@[go_sem] theorem Zw2 : XO Tryz.prog 90=some false:=kf
@[go_sem] theorem ZzF : Tryz.prog.underlying 93=some (.slice 178):=kf
@[go_sem] theorem ZAh : tsz Tryz.prog 93=some 1:=kf
@[go_sem] theorem Zy9 : XO Tryz.prog 93=some false:=kf
@[go_sem] theorem Zxq : We Tryz.prog 93=some (none,4):=kf
@[go_sem] theorem Zxn : Jd Tryz.prog 93=some 4:=kf
@[go_sem] theorem ZpS : ZbR Tryz.prog 93=some (4,32):=kf
@[go_sem] theorem ZsB (H:List AM.Obj) (u:TypeId) (o n:Nat) (y:V):VZ Tryz.prog H 93 u (.sl o 0 n n) y=Qp H (some (4,32)) (oat H o) o n (YL (Tryz.prog.underlying u) H y):=XQ ZpS
@[go_sem] theorem Zzk : tsz Tryz.prog 95=some 5:=kf
@[go_sem] theorem Zxc : XO Tryz.prog 95=some true:=kf
@[go_sem] theorem ZrP : Z7 Tryz.prog 95 0=some 0:=kf
@[go_sem] theorem ZrQ : Z7 Tryz.prog 95 1=some 1:=kf
@[go_sem] theorem Zs2 : Z7 Tryz.prog 95 2=some 2:=kf
@[go_sem] theorem Zss : Z7 Tryz.prog 95 3=some 3:=kf
@[go_sem] theorem Ztz : Z7 Tryz.prog 95 4=some 4:=kf
@[go_sem] theorem ZzM : tpl Tryz.prog 95=some (plL [(0,1),(1,1),(2,1),(3,1),(4,1)]):=kf
@[go_sem] theorem Ztt : Xb Tryz.prog 95=some [.bool false,.int .i64 0,.list true [],.int .i64 0,.int .i64 0]:=kf
@[go_sem] theorem Zy4 : Tryz.prog.underlying 121=some (.slice 229):=kf
@[go_sem] theorem Zun : We Tryz.prog 121=some (none,2):=kf
@[go_sem] theorem Zvi : Jd Tryz.prog 121=some 2:=kf
@[go_sem] theorem Zef : ZbR Tryz.prog 121=some (2,24):=kf
@[go_sem] theorem ZmV (H:List AM.Obj) (u:TypeId) (y:V):VZ Tryz.prog H 121 u (.p (.list true [])) y=ZjS H (some (2,24)) (YL (Tryz.prog.underlying u) H y):=Q9 Zef
@[go_sem] theorem ZrA (H:List AM.Obj) (u:TypeId) (o n:Nat) (y:V):VZ Tryz.prog H 121 u (.sl o 0 n n) y=Qp H (some (2,24)) (oat H o) o n (YL (Tryz.prog.underlying u) H y):=XQ Zef
@[go_sem] theorem Zxv : tsz Tryz.prog 126=some 2:=kf
@[go_sem] theorem ZuC : XO Tryz.prog 126=some true:=kf
@[go_sem] theorem ZqC : Z7 Tryz.prog 126 0=some 0:=kf
@[go_sem] theorem Zpm : Z7 Tryz.prog 126 1=some 1:=kf
@[go_sem] theorem ZgC : Tryz.prog.stoodInHeld 126=false:=kf
@[go_sem] theorem Zyd : tpl Tryz.prog 126=some (plL [(0,1),(1,1)]):=kf
@[go_sem] theorem Zw1 (d:Nat) (a b:List PV):Zh6 Tryz.prog d 126 (Tryz.prog.underlying 126) (.agg a) (.agg b)=Zh7 (eqP (UZ Tryz.prog d 3) (apart Tryz.prog 3 a 0) (apart Tryz.prog 3 b 0)) (Zh7 (eqP (UZ Tryz.prog d 4) (apart Tryz.prog 4 a 1) (apart Tryz.prog 4 b 1)) (some true)):=by rw [Tryz.underlying126,UT ZgC];simp [J3,Zbu]
@[go_sem] theorem Zyh : Tryz.prog.eqGuardType Tryz.prog.depth 126=false:=kf
@[go_sem] theorem Zod : Xb Tryz.prog 126=some [.int .i64 0,.bool false]:=kf
@[go_sem] theorem ZxR : Tryz.prog.underlying 127=some (.slice 188):=kf
@[go_sem] theorem Zxg : tsz Tryz.prog 127=some 1:=kf
@[go_sem] theorem ZvK : XO Tryz.prog 127=some false:=kf
@[go_sem] theorem ZuB : We Tryz.prog 127=some (none,2):=kf
@[go_sem] theorem Zxb : tsz Tryz.prog 129=some 6:=kf
@[go_sem] theorem Zu4 : XO Tryz.prog 129=some true:=kf
@[go_sem] theorem ZmJ : Z7 Tryz.prog 129 0=some 0:=kf
@[go_sem] theorem Zml : Z7 Tryz.prog 129 1=some 1:=kf
@[go_sem] theorem ZnS : Z7 Tryz.prog 129 2=some 2:=kf
@[go_sem] theorem Zp9 : Z7 Tryz.prog 129 3=some 3:=kf
@[go_sem] theorem ZmP : Z7 Tryz.prog 129 4=some 4:=kf
@[go_sem] theorem Zqs : Z7 Tryz.prog 129 5=some 5:=kf
@[go_sem] theorem Zx9 : tpl Tryz.prog 129=some (plL [(0,1),(1,1),(2,1),(3,1),(4,1),(5,1)]):=kf
@[go_sem] theorem ZoP : Xb Tryz.prog 129=some [.int .i64 0,.int .i64 0,.int .i64 0,.int .i64 0,.list true [],.list true []]:=kf
@[go_sem] theorem Zxt : tsz Tryz.prog 132=some 2:=kf
@[go_sem] theorem ZwF : XO Tryz.prog 132=some true:=kf
@[go_sem] theorem Zvb : We Tryz.prog 132=some ((some 2),1):=kf
@[go_sem] theorem Znm : Xb Tryz.prog 132=some [.int .i64 0,.int .i64 0]:=kf
@[go_sem] theorem Zxa : Tryz.prog.underlying 139=some (.int .u64):=kf
@[go_sem] theorem Zy6 : tsz Tryz.prog 178=some 4:=kf
@[go_sem] theorem ZvQ : XO Tryz.prog 178=some true:=kf
@[go_sem] theorem ZoR : Z7 Tryz.prog 178 1=some 1:=kf
@[go_sem] theorem Zm4 : Z7 Tryz.prog 178 2=some 2:=kf
@[go_sem] theorem ZqV : Z7 Tryz.prog 178 3=some 3:=kf
@[go_sem] theorem ZyZ : tpl Tryz.prog 178=some (plL [(0,1),(1,1),(2,1),(3,1)]):=kf
@[go_sem] theorem ZnN : Xb Tryz.prog 178=some [.int .i64 0,.int .i64 0,.int .i64 0,.bool false]:=kf
@[go_sem] theorem Zyl : tsz Tryz.prog 188=some 2:=kf
@[go_sem] theorem Zwj : XO Tryz.prog 188=some true:=kf
@[go_sem] theorem Zqc : Z7 Tryz.prog 188 0=some 0:=kf
@[go_sem] theorem Zpv : Z7 Tryz.prog 188 1=some 1:=kf
@[go_sem] theorem Zna : Xb Tryz.prog 188=some [.int .i64 0,.int .i64 0]:=kf
@[go_sem] theorem Zyu : Tryz.prog.underlying 192=some (.slice 31):=kf
@[go_sem] theorem Zwt : We Tryz.prog 192=some (none,1):=kf
@[go_sem] theorem Zwn : Jd Tryz.prog 192=some 1:=kf
@[go_sem] theorem Zkn : ZbR Tryz.prog 192=some (1,24):=kf
@[go_sem] theorem Zrf (H:List AM.Obj) (u:TypeId) (o n:Nat) (y:V):VZ Tryz.prog H 192 u (.sl o 0 n n) y=Qp H (some (1,24)) (oat H o) o n (YL (Tryz.prog.underlying u) H y):=XQ Zkn
@[go_sem] theorem ZrG : Z7 Tryz.prog 229 0=some 0:=kf
@[go_sem] theorem ZpX : Z7 Tryz.prog 229 1=some 1:=kf
@[go_sem] theorem ZxD : tpl Tryz.prog 229=some (plL [(0,1),(1,1)]):=kf
@[go_sem] theorem Zpj : Xb Tryz.prog 229=some [.int .i64 0,.str []]:=kf
@[go_sem] theorem ZyR : Tryz.prog.underlying 232=some (.slice 26):=kf
@[go_sem] theorem Zut : We Tryz.prog 232=some (none,1):=kf
@[go_sem] theorem Zux : Jd Tryz.prog 232=some 1:=kf
@[go_sem] theorem Zjl : ZbR Tryz.prog 232=some (1,8):=kf
@[go_sem] theorem Znt (H:List AM.Obj) (u:TypeId) (o n:Nat) (y:V):VZ Tryz.prog H 232 u (.sl o 0 n n) y=Qp H (some (1,8)) (oat H o) o n (YL (Tryz.prog.underlying u) H y):=XQ Zjl
@[go_sem] theorem ZyC : Tryz.prog.underlying 286=some (.slice 90):=kf
@[go_sem] theorem Zvy : We Tryz.prog 286=some (none,1):=kf
@[go_sem] theorem Zwl : Jd Tryz.prog 286=some 1:=kf
@[go_sem] theorem ZyE : Tryz.prog.underlying 292=some (.slice 5):=kf
@[go_sem] theorem ZuV : Jd Tryz.prog 292=some 1:=kf
@[go_sem] theorem Zzc : tsz Tryz.prog 307=some 4:=kf
@[go_sem] theorem ZvX : XO Tryz.prog 307=some true:=kf
@[go_sem] theorem Zrc : Z7 Tryz.prog 307 0=some 0:=kf
@[go_sem] theorem Zqo : Z7 Tryz.prog 307 1=some 1:=kf
@[go_sem] theorem Zrw : Z7 Tryz.prog 307 2=some 2:=kf
@[go_sem] theorem Zoi : Z7 Tryz.prog 307 3=some 3:=kf
@[go_sem] theorem Zxr : tpl Tryz.prog 307=some (plL [(0,1),(1,1),(2,1),(3,1)]):=kf
@[go_sem] theorem ZmB : Xb Tryz.prog 307=some [.int .i64 0,.int .i64 0,.int .i64 0,.int .i64 0]:=kf
@[go_sem] theorem Zxk : Tryz.prog.underlying 323=some (.slice 57):=kf
@[go_sem] theorem ZxS : tsz Tryz.prog 323=some 1:=kf
@[go_sem] theorem Zup : XO Tryz.prog 323=some false:=kf
@[go_sem] theorem ZwJ : We Tryz.prog 323=some (none,4):=kf
@[go_sem] theorem ZvM : Jd Tryz.prog 323=some 4:=kf
@[go_sem] theorem ZjR : ZbR Tryz.prog 323=some (4,32):=kf
@[go_sem] theorem Zmm (H:List AM.Obj) (u:TypeId) (o n:Nat) (y:V):VZ Tryz.prog H 323 u (.sl o 0 n n) y=Qp H (some (4,32)) (oat H o) o n (YL (Tryz.prog.underlying u) H y):=XQ ZjR
@[go_sem] theorem Zye : tsz Tryz.prog 325=some 25:=kf
@[go_sem] theorem Zvg : XO Tryz.prog 325=some true:=kf
@[go_sem] theorem Zpd : Z7 Tryz.prog 325 0=some 0:=kf
@[go_sem] theorem ZpY : Z7 Tryz.prog 325 1=some 6:=kf
@[go_sem] theorem ZlW : Z7 Tryz.prog 325 2=some 20:=kf
@[go_sem] theorem ZmO : Z7 Tryz.prog 325 3=some 24:=kf
@[go_sem] theorem Zxd : tpl Tryz.prog 325=some (plL [(0,6),(6,14),(20,4),(24,1)]):=kf
@[go_sem] theorem ZnO : Xb Tryz.prog 325=some [.list true [],.list true [],.list true [],.list true [],.list true [],.list true [],.str [],.int .i64 0,.int .i64 0,.int .i64 0,.list true [],.int .i64 0,.int .i64 0,.int .i64 0,.int .i64 0,.int .i64 0,.int .i64 0,.int .i64 0,.int .i64 0,.int .i64 0,.int .i64 0,.int .i64 0,.list true [],.list true [],.list true []]:=kf
@[go_sem] theorem Zx5 : tsz Tryz.prog 329=some 7:=kf
@[go_sem] theorem ZwM : XO Tryz.prog 329=some true:=kf
@[go_sem] theorem Zo5 : Z7 Tryz.prog 329 0=some 0:=kf
@[go_sem] theorem Zl7 : Z7 Tryz.prog 329 1=some 1:=kf
@[go_sem] theorem Zn8 : Z7 Tryz.prog 329 2=some 2:=kf
@[go_sem] theorem Zyo : tpl Tryz.prog 329=some (plL [(0,1),(1,1),(2,5)]):=kf
@[go_sem] theorem Znw : Xb Tryz.prog 329=some [.int .i64 0,.int .i64 0,.bool false,.int .i64 0,.list true [],.int .i64 0,.int .i64 0]:=kf
@[go_sem] theorem Zxh : Tryz.prog.underlying 331=some (.slice 329):=kf
@[go_sem] theorem ZuK : We Tryz.prog 331=some (none,7):=kf
@[go_sem] theorem ZvD : Jd Tryz.prog 331=some 7:=kf
@[go_sem] theorem Zjp : ZbR Tryz.prog 331=some (7,72):=kf
@[go_sem] theorem ZqJ (H:List AM.Obj) (u:TypeId) (o n:Nat) (y:V):VZ Tryz.prog H 331 u (.sl o 0 n n) y=Qp H (some (7,72)) (oat H o) o n (YL (Tryz.prog.underlying u) H y):=XQ Zjp
@[go_sem] theorem Zx4 : tsz Tryz.prog 366=some 3:=kf
@[go_sem] theorem ZuO : XO Tryz.prog 366=some true:=kf
@[go_sem] theorem ZgV : Tryz.prog.stoodInHeld 366=false:=kf
@[go_sem] theorem Zx1 : tpl Tryz.prog 366=some (plL [(0,1),(1,1),(2,1)]):=kf
@[go_sem] theorem ZyS (d:Nat) (a b:List PV):Zh6 Tryz.prog d 366 (Tryz.prog.underlying 366) (.agg a) (.agg b)=Zh7 (eqP (UZ Tryz.prog d 3) (apart Tryz.prog 3 a 0) (apart Tryz.prog 3 b 0)) (Zh7 (eqP (UZ Tryz.prog d 3) (apart Tryz.prog 3 a 1) (apart Tryz.prog 3 b 1)) (Zh7 (eqP (UZ Tryz.prog d 3) (apart Tryz.prog 3 a 2) (apart Tryz.prog 3 b 2)) (some true))):=by rw [Tryz.underlying366,UT ZgV];simp [J3,Zbu]
@[go_sem] theorem ZxX : Tryz.prog.eqGuardType Tryz.prog.depth 366=false:=kf
@[go_sem] theorem Zm8 : Xb Tryz.prog 366=some [.int .i64 0,.int .i64 0,.int .i64 0]:=kf
theorem Zzq : Zi Tryz.prog 7:=fun args w=>Tryz.call7 args w
theorem ZuI : Zi Tryz.prog 17:=fun args w=>Tryz.call17 args w
theorem ZwP : Zi Tryz.prog 21:=fun args w=>Tryz.call21 args w
theorem Zu0 : Zi Tryz.prog 28:=fun args w=>Tryz.call28 args w
theorem Zwq : Zi Tryz.prog 29:=fun args w=>Tryz.call29 args w
theorem Zwz : Zi Tryz.prog 30:=fun args w=>Tryz.call30 args w
theorem ZvW : Zi Tryz.prog 31:=fun args w=>Tryz.call31 args w
theorem ZvY : Zi Tryz.prog 33:=fun args w=>Tryz.call33 args w
theorem Zwy : Zi Tryz.prog 35:=fun args w=>Tryz.call35 args w
theorem ZuQ : Zi Tryz.prog 47:=fun args w=>Tryz.call47 args w
theorem Zwm : Zi Tryz.prog 48:=fun args w=>Tryz.call48 args w
theorem ZwB : Zi Tryz.prog 49:=fun args w=>Tryz.call49 args w
theorem Zwr : Zi Tryz.prog 56:=fun args w=>Tryz.call56 args w
theorem ZwR : Zi Tryz.prog 57:=fun args w=>Tryz.call57 args w
theorem Zuw : Zi Tryz.prog 60:=fun args w=>Tryz.call60 args w
theorem Zuk : Zi Tryz.prog 61:=fun args w=>Tryz.call61 args w
theorem Zwp : Zi Tryz.prog 63:=fun args w=>Tryz.call63 args w
theorem Zwv : Zi Tryz.prog 68:=fun args w=>Tryz.call68 args w
theorem ZuF : Zi Tryz.prog 69:=fun args w=>Tryz.call69 args w
theorem ZwC : Zi Tryz.prog 70:=fun args w=>Tryz.call70 args w
theorem ZuD : Zi Tryz.prog 71:=fun args w=>Tryz.call71 args w
theorem ZvJ : Zi Tryz.prog 72:=fun args w=>Tryz.call72 args w
theorem Zu6 : Zi Tryz.prog 73:=fun args w=>Tryz.call73 args w
theorem Zwu : Zi Tryz.prog 74:=fun args w=>Tryz.call74 args w
theorem Zvo : Zi Tryz.prog 76:=fun args w=>Tryz.call76 args w
theorem Zuv : Zi Tryz.prog 77:=fun args w=>Tryz.call77 args w
theorem ZvG : Zi Tryz.prog 79:=fun args w=>Tryz.call79 args w
theorem Zv7 : Zi Tryz.prog 87:=fun args w=>Tryz.call87 args w
theorem ZwK : Zi Tryz.prog 88:=fun args w=>Tryz.call88 args w
theorem Zvm : Zi Tryz.prog 89:=fun args w=>Tryz.call89 args w
theorem Zp4 : Zi Tryz.prog 90:=fun args w=>Tryz.call90 args w
theorem Zvh : Zi Tryz.prog 91:=fun args w=>Tryz.call91 args w
theorem Zws : Zi Tryz.prog 93:=fun args w=>Tryz.call93 args w
theorem Zve : Zi Tryz.prog 96:=fun args w=>Tryz.call96 args w
theorem ZoJ : Zi Tryz.prog 113:=fun args w=>Tryz.call113 args w
theorem Zqq : Zi Tryz.prog 114:=fun args w=>Tryz.call114 args w
theorem ZpM : Zi Tryz.prog 115:=fun args w=>Tryz.call115 args w
theorem ZmA : Zi Tryz.prog 116:=fun args w=>Tryz.call116 args w
theorem Zl6 : Zi Tryz.prog 117:=fun args w=>Tryz.call117 args w
theorem Zm0 : Zi Tryz.prog 118:=fun args w=>Tryz.call118 args w
theorem ZqX : Zi Tryz.prog 119:=fun args w=>Tryz.call119 args w
theorem Zoj : Zi Tryz.prog 120:=fun args w=>Tryz.call120 args w
theorem Zre : Zi Tryz.prog 121:=fun args w=>Tryz.call121 args w
theorem Znq : Zi Tryz.prog 122:=fun args w=>Tryz.call122 args w
theorem ZmX : Zi Tryz.prog 123:=fun args w=>Tryz.call123 args w
theorem Zpz : Zi Tryz.prog 125:=fun args w=>Tryz.call125 args w
theorem ZpU : Zi Tryz.prog 126:=fun args w=>Tryz.call126 args w
theorem Zmg : Zi Tryz.prog 127:=fun args w=>Tryz.call127 args w
theorem ZpQ : Zi Tryz.prog 128:=fun args w=>Tryz.call128 args w
theorem Zmi : Zi Tryz.prog 129:=fun args w=>Tryz.call129 args w
theorem ZqK : Zi Tryz.prog 130:=fun args w=>Tryz.call130 args w
theorem Zom : Zi Tryz.prog 131:=fun args w=>Tryz.call131 args w
theorem Zn0 : Zi Tryz.prog 136:=fun args w=>Tryz.call136 args w
theorem ZqE : Zi Tryz.prog 137:=fun args w=>Tryz.call137 args w
theorem Zrv : Zi Tryz.prog 138:=fun args w=>Tryz.call138 args w
theorem Zmk : Zi Tryz.prog 139:=fun args w=>Tryz.call139 args w
theorem Zrq : Zi Tryz.prog 140:=fun args w=>Tryz.call140 args w
theorem Zl3 : Zi Tryz.prog 141:=fun args w=>Tryz.call141 args w
theorem ZnI : Zi Tryz.prog 142:=fun args w=>Tryz.call142 args w
theorem ZmF : Zi Tryz.prog 143:=fun args w=>Tryz.call143 args w
theorem ZmL : Zi Tryz.prog 144:=fun args w=>Tryz.call144 args w
theorem Zpl : Zi Tryz.prog 145:=fun args w=>Tryz.call145 args w
theorem Zpa : Zi Tryz.prog 165:=fun args w=>Tryz.call165 args w
theorem Zoo : Zi Tryz.prog 166:=fun args w=>Tryz.call166 args w
theorem ZoM : Zi Tryz.prog 167:=fun args w=>Tryz.call167 args w
theorem ZpE : Zi Tryz.prog 168:=fun args w=>Tryz.call168 args w
theorem ZqR : Zi Tryz.prog 169:=fun args w=>Tryz.call169 args w
theorem ZpK : Zi Tryz.prog 170:=fun args w=>Tryz.call170 args w
theorem Zqk : Zi Tryz.prog 171:=fun args w=>Tryz.call171 args w
theorem Zq6 : Zi Tryz.prog 172:=fun args w=>Tryz.call172 args w
theorem Zmt : Zi Tryz.prog 173:=fun args w=>Tryz.call173 args w
theorem Zrb : Zi Tryz.prog 174:=fun args w=>Tryz.call174 args w
theorem Zog : Zi Tryz.prog 175:=fun args w=>Tryz.call175 args w
theorem ZoU : Zi Tryz.prog 176:=fun args w=>Tryz.call176 args w
theorem Zns : Zi Tryz.prog 177:=fun args w=>Tryz.call177 args w
theorem ZnR : Zi Tryz.prog 179:=fun args w=>Tryz.call179 args w
theorem ZoF : Zi Tryz.prog 184:=fun args w=>Tryz.call184 args w
theorem Zl0 : Zi Tryz.prog 185:=fun args w=>Tryz.call185 args w
theorem Znk : Zi Tryz.prog 186:=fun args w=>Tryz.call186 args w
theorem Zmv : Zi Tryz.prog 187:=fun args w=>Tryz.call187 args w
theorem ZmT : Zi Tryz.prog 188:=fun args w=>Tryz.call188 args w
theorem ZnL : Zi Tryz.prog 219:=fun args w=>Tryz.call219 args w
theorem Zrt : Zi Tryz.prog 220:=fun args w=>Tryz.call220 args w
theorem Zn7 : Zi Tryz.prog 221:=fun args w=>Tryz.call221 args w
theorem Znn : Zi Tryz.prog 222:=fun args w=>Tryz.call222 args w
theorem ZoT : Zi Tryz.prog 223:=fun args w=>Tryz.call223 args w
theorem Zou : Zi Tryz.prog 224:=fun args w=>Tryz.call224 args w
theorem ZlX : Zi Tryz.prog 225:=fun args w=>Tryz.call225 args w
theorem ZpW : Zi Tryz.prog 226:=fun args w=>Tryz.call226 args w
theorem ZoH : Zi Tryz.prog 227:=fun args w=>Tryz.call227 args w
theorem ZqM : Zi Tryz.prog 228:=fun args w=>Tryz.call228 args w
theorem Zot : Zi Tryz.prog 229:=fun args w=>Tryz.call229 args w
theorem Zni : Zi Tryz.prog 230:=fun args w=>Tryz.call230 args w
theorem Znf : Zi Tryz.prog 231:=fun args w=>Tryz.call231 args w
theorem Zrl : Zi Tryz.prog 232:=fun args w=>Tryz.call232 args w
theorem ZlY : Zi Tryz.prog 233:=fun args w=>Tryz.call233 args w
theorem ZoC : Zi Tryz.prog 234:=fun args w=>Tryz.call234 args w
theorem ZoG : Zi Tryz.prog 235:=fun args w=>Tryz.call235 args w
theorem ZhU : Zi Tryz.prog 237:=fun args w=>Tryz.call237 args w
theorem Zq5 : Zi Tryz.prog 242:=fun args w=>Tryz.call242 args w
theorem ZmD : Zi Tryz.prog 248:=fun args w=>Tryz.call248 args w
theorem Zmw : Zi Tryz.prog 249:=fun args w=>Tryz.call249 args w
theorem Zru : Zi Tryz.prog 250:=fun args w=>Tryz.call250 args w
theorem Zqx : Zi Tryz.prog 251:=fun args w=>Tryz.call251 args w
theorem Zo7 : Zi Tryz.prog 259:=fun args w=>Tryz.call259 args w
theorem Zpb : Zi Tryz.prog 260:=fun args w=>Tryz.call260 args w
theorem Zmc : Zi Tryz.prog 261:=fun args w=>Tryz.call261 args w
theorem Zmf : Zi Tryz.prog 262:=fun args w=>Tryz.call262 args w
theorem Zmh : Zi Tryz.prog 263:=fun args w=>Tryz.call263 args w
theorem Zq9 : Zi Tryz.prog 264:=fun args w=>Tryz.call264 args w
theorem Zqh : Zi Tryz.prog 265:=fun args w=>Tryz.call265 args w
theorem Zqf : Zi Tryz.prog 266:=fun args w=>Tryz.call266 args w
theorem ZlZ : Zi Tryz.prog 267:=fun args w=>Tryz.call267 args w
theorem ZoY : Zi Tryz.prog 268:=fun args w=>Tryz.call268 args w
theorem ZpI : Zi Tryz.prog 269:=fun args w=>Tryz.call269 args w
theorem ZhZ : Zi Tryz.prog 270:=fun args w=>Tryz.call270 args w
theorem Zno : Zi Tryz.prog 271:=fun args w=>Tryz.call271 args w
theorem ZmI : Zi Tryz.prog 272:=fun args w=>Tryz.call272 args w
theorem ZnE : Zi Tryz.prog 273:=fun args w=>Tryz.call273 args w
theorem ZnK : Zi Tryz.prog 274:=fun args w=>Tryz.call274 args w
theorem ZoA : Zi Tryz.prog 275:=fun args w=>Tryz.call275 args w
theorem Znp : Zi Tryz.prog 276:=fun args w=>Tryz.call276 args w
theorem Zoc : Zi Tryz.prog 279:=fun args w=>Tryz.call279 args w
theorem Zrp : Zi Tryz.prog 284:=fun args w=>Tryz.call284 args w
theorem Zqu : Zi Tryz.prog 285:=fun args w=>Tryz.call285 args w
theorem Zpg : Zi Tryz.prog 287:=fun args w=>Tryz.call287 args w
theorem Zq0 : Zi Tryz.prog 288:=fun args w=>Tryz.call288 args w
theorem Zl2 : Zi Tryz.prog 289:=fun args w=>Tryz.call289 args w
theorem Znl : Zi Tryz.prog 290:=fun args w=>Tryz.call290 args w
theorem ZqT : Zi Tryz.prog 291:=fun args w=>Tryz.call291 args w
theorem Zpk : Zi Tryz.prog 292:=fun args w=>Tryz.call292 args w
theorem Zpr : Zi Tryz.prog 293:=fun args w=>Tryz.call293 args w
theorem ZqA : Zi Tryz.prog 294:=fun args w=>Tryz.call294 args w
theorem ZpH : Zi Tryz.prog 295:=fun args w=>Tryz.call295 args w
theorem Zl5 : Zi Tryz.prog 296:=fun args w=>Tryz.call296 args w
theorem ZmQ : Zi Tryz.prog 297:=fun args w=>Tryz.call297 args w
theorem Zqt : Zi Tryz.prog 298:=fun args w=>Tryz.call298 args w
theorem Zql : Zi Tryz.prog 299:=fun args w=>Tryz.call299 args w
theorem Zpy : Zi Tryz.prog 302:=fun args w=>Tryz.call302 args w
theorem Zo8 : Zi Tryz.prog 303:=fun args w=>Tryz.call303 args w
theorem Zm2 : Zi Tryz.prog 304:=fun args w=>Tryz.call304 args w
theorem ZrB : Zi Tryz.prog 305:=fun args w=>Tryz.call305 args w
theorem ZpO : Zi Tryz.prog 308:=fun args w=>Tryz.call308 args w
theorem ZnT : Zi Tryz.prog 309:=fun args w=>Tryz.call309 args w
theorem Zol : Zi Tryz.prog 310:=fun args w=>Tryz.call310 args w
theorem Zrd : Zi Tryz.prog 311:=fun args w=>Tryz.call311 args w
theorem Zoe : Zi Tryz.prog 312:=fun args w=>Tryz.call312 args w
theorem Zny : Zi Tryz.prog 313:=fun args w=>Tryz.call313 args w
theorem ZpL : Zi Tryz.prog 314:=fun args w=>Tryz.call314 args w
theorem Zn3 : Zi Tryz.prog 315:=fun args w=>Tryz.call315 args w
theorem Zq7 : Zi Tryz.prog 317:=fun args w=>Tryz.call317 args w
theorem ZmE : Zi Tryz.prog 318:=fun args w=>Tryz.call318 args w
theorem ZpN : Zi Tryz.prog 319:=fun args w=>Tryz.call319 args w
theorem ZqH : Zi Tryz.prog 320:=fun args w=>Tryz.call320 args w
theorem ZoW : Zi Tryz.prog 321:=fun args w=>Tryz.call321 args w
theorem ZoZ : Zi Tryz.prog 322:=fun args w=>Tryz.call322 args w
theorem Zqg : Zi Tryz.prog 323:=fun args w=>Tryz.call323 args w
theorem Zmn : Zi Tryz.prog 324:=fun args w=>Tryz.call324 args w
theorem Zox : Zi Tryz.prog 325:=fun args w=>Tryz.call325 args w
theorem ZnQ : Zi Tryz.prog 326:=fun args w=>Tryz.call326 args w
theorem Zqa : Zi Tryz.prog 327:=fun args w=>Tryz.call327 args w
theorem Zrg : Zi Tryz.prog 328:=fun args w=>Tryz.call328 args w
theorem ZoX : Zi Tryz.prog 329:=fun args w=>Tryz.call329 args w
theorem Znz : Zi Tryz.prog 330:=fun args w=>Tryz.call330 args w
theorem ZrC : Zi Tryz.prog 331:=fun args w=>Tryz.call331 args w
theorem ZnM : Zi Tryz.prog 332:=fun args w=>Tryz.call332 args w
theorem Zp : Tryz.prog.follows .mixedOrders=true:=by kernel_rfl
end Go.Proofs.YtcpmilhkineciaaGreatDoor.K
