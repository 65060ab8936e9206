/- Declarations that the closing texts need, part 5: joined by tools/slim.py. -/
import Derived.Test.YtgknhiknjimdpaaGreatDoorZ4
import Derived.KernelRfl
import Derived.Test.YtgknhiknjimdpaaGreatDoorProg
namespace Go.Proofs.YtgknhiknjimdpaaGreatDoor.K
open Go Go.AM Go.Proofs
abbrev PC (f:FuncId) (a:List V) (y:PV):=ACalls Tryz.prog f a [] fun x H'=>x= .p y/\H'= []
abbrev PT (f:FuncId) (a:List V) (b:List V):=ACalls Tryz.prog f a [] fun x H'=>x= .tup b/\H'= []
theorem kf {α:Type} {a b:α} (h:a=b:=by kernel_rfl):a=b:=Eq.trans h rfl
@[go_sem] theorem ZlS : Tryz.prog.underlying 3=some (.int .i64):=kf
@[go_sem] theorem ZlP : tsz Tryz.prog 3=some 1:=kf
@[go_sem] theorem Zk4 : Xv Tryz.prog 3=some false:=kf
@[go_sem] theorem Zi1 : Z4 Tryz.prog 3=some [.int .i64 0]:=kf
@[go_sem] theorem ZlM : Tryz.prog.underlying 4=some .bool:=kf
@[go_sem] theorem ZlR : tsz Tryz.prog 4=some 1:=kf
@[go_sem] theorem Zlq : Xv Tryz.prog 4=some false:=kf
@[go_sem] theorem ZlN : Tryz.prog.underlying 5=some (.int .u8):=kf
@[go_sem] theorem ZlL : Tryz.prog.underlying 9=some .string:=kf
@[go_sem] theorem ZlQ : tsz Tryz.prog 9=some 1:=kf
@[go_sem] theorem ZlE : Xv Tryz.prog 9=some false:=kf
@[go_sem] theorem ZkV : Tryz.prog.underlying 22=some (.slice 9):=kf
@[go_sem] theorem Zly : tsz Tryz.prog 22=some 1:=kf
@[go_sem] theorem Zkh : Xv Tryz.prog 22=some false:=kf
@[go_sem] theorem ZkI : Y7 Tryz.prog 22=some (none,1):=kf
@[go_sem] theorem ZjL : U7 Tryz.prog 22=some 1:=kf
@[go_sem] theorem Zd3 : Za4 Tryz.prog 22=some (1,16):=kf
@[go_sem] theorem ZhI (H:List AM.Obj) (u:TypeId) (o n:Nat) (y:V):UJ Tryz.prog H 22 u (.sl o 0 n n) y=UZ H (some (1,16)) (oat H o) o n (Vg (Tryz.prog.underlying u) H y):=Yn Zd3
@[go_sem] theorem ZlD : Tryz.prog.underlying 23=some (.slice 91):=kf
@[go_sem] theorem Zld : tsz Tryz.prog 23=some 1:=kf
@[go_sem] theorem ZjQ : Xv Tryz.prog 23=some false:=kf
@[go_sem] theorem Zj9 : Y7 Tryz.prog 23=some (none,6):=kf
@[go_sem] theorem ZkW : tsz Tryz.prog 25=some 2:=kf
@[go_sem] theorem ZjX : Xv Tryz.prog 25=some true:=kf
@[go_sem] theorem Zgt : Z6 Tryz.prog 25 0=some 0:=kf
@[go_sem] theorem Zhl : Z6 Tryz.prog 25 1=some 1:=kf
@[go_sem] theorem Zlb : Tryz.prog.underlying 26=some (.slice 54):=kf
@[go_sem] theorem Zlh : tsz Tryz.prog 26=some 1:=kf
@[go_sem] theorem Zkq : Xv Tryz.prog 26=some false:=kf
@[go_sem] theorem Zko : Y7 Tryz.prog 26=some (none,14):=kf
@[go_sem] theorem Zln : Tryz.prog.underlying 27=some (.slice 58):=kf
@[go_sem] theorem Zlc : tsz Tryz.prog 27=some 1:=kf
@[go_sem] theorem Zkk : Xv Tryz.prog 27=some false:=kf
@[go_sem] theorem Zj8 : Y7 Tryz.prog 27=some (none,16):=kf
@[go_sem] theorem ZkX : Tryz.prog.underlying 28=some (.slice 94):=kf
@[go_sem] theorem Zk7 : tsz Tryz.prog 28=some 1:=kf
@[go_sem] theorem Zj6 : Xv Tryz.prog 28=some false:=kf
@[go_sem] theorem Zj3 : Y7 Tryz.prog 28=some (none,2):=kf
@[go_sem] theorem ZkQ : tsz Tryz.prog 30=some 6:=kf
@[go_sem] theorem ZjU : Xv Tryz.prog 30=some true:=kf
@[go_sem] theorem Zgf : Z6 Tryz.prog 30 0=some 0:=kf
@[go_sem] theorem Zhj : Z6 Tryz.prog 30 1=some 2:=kf
@[go_sem] theorem ZgG : Z6 Tryz.prog 30 2=some 3:=kf
@[go_sem] theorem Zhg : Z6 Tryz.prog 30 3=some 4:=kf
@[go_sem] theorem Zhm : Z6 Tryz.prog 30 4=some 5:=kf
@[go_sem] theorem Zlp : Tryz.prog.underlying 32=some (.slice 3):=kf
@[go_sem] theorem Zlg : tsz Tryz.prog 32=some 1:=kf
@[go_sem] theorem ZjG : Xv Tryz.prog 32=some false:=kf
@[go_sem] theorem Zkl : Y7 Tryz.prog 32=some (none,1):=kf
@[go_sem] theorem ZkC : U7 Tryz.prog 32=some 1:=kf
@[go_sem] theorem Zlm : tsz Tryz.prog 39=some 1:=kf
@[go_sem] theorem ZjF : Xv Tryz.prog 39=some false:=kf
@[go_sem] theorem ZlF : Tryz.prog.underlying 43=some (.slice 96):=kf
@[go_sem] theorem ZjD : Y7 Tryz.prog 43=some (none,2):=kf
@[go_sem] theorem Zkg : U7 Tryz.prog 43=some 2:=kf
@[go_sem] theorem Ze8 : Za4 Tryz.prog 43=some (2,24):=kf
@[go_sem] theorem Zhh (H:List AM.Obj) (u:TypeId) (o n:Nat) (y:V):UJ Tryz.prog H 43 u (.sl o 0 n n) y=UZ H (some (2,24)) (oat H o) o n (Vg (Tryz.prog.underlying u) H y):=Yn Ze8
@[go_sem] theorem Zli : Tryz.prog.underlying 46=some (.slice 79):=kf
@[go_sem] theorem ZkR : tsz Tryz.prog 46=some 1:=kf
@[go_sem] theorem Zky : Xv Tryz.prog 46=some false:=kf
@[go_sem] theorem Zj7 : Y7 Tryz.prog 46=some (none,2):=kf
@[go_sem] theorem ZkB : U7 Tryz.prog 46=some 2:=kf
@[go_sem] theorem ZeX : Za4 Tryz.prog 46=some (2,16):=kf
@[go_sem] theorem Zg1 (H:List AM.Obj) (u:TypeId) (o n:Nat) (y:V):UJ Tryz.prog H 46 u (.sl o 0 n n) y=UZ H (some (2,16)) (oat H o) o n (Vg (Tryz.prog.underlying u) H y):=Yn ZeX
@[go_sem] theorem Zhv : Z4 Tryz.prog 46=some [.list true []]:=kf
@[go_sem] theorem ZlH : Tryz.prog.underlying 50=some (.slice 86):=kf
@[go_sem] theorem ZkT : tsz Tryz.prog 50=some 1:=kf
@[go_sem] theorem ZkD : Xv Tryz.prog 50=some false:=kf
@[go_sem] theorem ZjI : Y7 Tryz.prog 50=some (none,2):=kf
@[go_sem] theorem ZkE : U7 Tryz.prog 50=some 2:=kf
@[go_sem] theorem Ze3 : Za4 Tryz.prog 50=some (2,16):=kf
@[go_sem] theorem Zgy (H:List AM.Obj) (u:TypeId) (o n:Nat) (y:V):UJ Tryz.prog H 50 u (.sl o 0 n n) y=UZ H (some (2,16)) (oat H o) o n (Vg (Tryz.prog.underlying u) H y):=Yn Ze3
@[go_sem] theorem ZhK : Z6 Tryz.prog 52 3=some 3:=kf
@[go_sem] theorem Zlv : tsz Tryz.prog 54=some 14:=kf
@[go_sem] theorem Zj4 : Xv Tryz.prog 54=some true:=kf
@[go_sem] theorem ZgR : Z6 Tryz.prog 54 0=some 0:=kf
@[go_sem] theorem ZfU : Z6 Tryz.prog 54 1=some 1:=kf
@[go_sem] theorem ZhF : Z6 Tryz.prog 54 2=some 2:=kf
@[go_sem] theorem Zf8 : Z6 Tryz.prog 54 3=some 3:=kf
@[go_sem] theorem Zhi : Z6 Tryz.prog 54 4=some 4:=kf
@[go_sem] theorem Zgc : Z6 Tryz.prog 54 5=some 5:=kf
@[go_sem] theorem Zhs : Z6 Tryz.prog 54 6=some 6:=kf
@[go_sem] theorem ZfV : Z6 Tryz.prog 54 7=some 7:=kf
@[go_sem] theorem ZgN : Z6 Tryz.prog 54 8=some 8:=kf
@[go_sem] theorem Zgg : Z6 Tryz.prog 54 9=some 9:=kf
@[go_sem] theorem ZdT : Z6 Tryz.prog 54 10=some 10:=kf
@[go_sem] theorem Zfn : Z6 Tryz.prog 54 11=some 11:=kf
@[go_sem] theorem Zeb : Z6 Tryz.prog 54 12=some 12:=kf
@[go_sem] theorem ZfB : Z6 Tryz.prog 54 13=some 13:=kf
@[go_sem] theorem ZgH : Z4 Tryz.prog 54=some [.str [],.int .i64 0,.int .i64 0,.int .i64 0,.list true [],.int .i64 0,.int .i64 0,.int .i64 0,.int .i64 0,.int .i64 0,.int .i64 0,.int .i64 0,.int .i64 0,.int .i64 0]:=kf
@[go_sem] theorem Zlo : tsz Tryz.prog 56=some 4:=kf
@[go_sem] theorem Zkj : Xv Tryz.prog 56=some true:=kf
@[go_sem] theorem Zgs : Z6 Tryz.prog 56 0=some 0:=kf
@[go_sem] theorem Zhc : Z6 Tryz.prog 56 1=some 1:=kf
@[go_sem] theorem ZhD : Z6 Tryz.prog 56 2=some 2:=kf
@[go_sem] theorem ZfH : Z6 Tryz.prog 56 3=some 3:=kf
@[go_sem] theorem ZkP : tsz Tryz.prog 58=some 16:=kf
@[go_sem] theorem ZjM : Xv Tryz.prog 58=some true:=kf
@[go_sem] theorem ZfW : Z6 Tryz.prog 58 0=some 0:=kf
@[go_sem] theorem Zg7 : Z6 Tryz.prog 58 1=some 1:=kf
@[go_sem] theorem Zf1 : Z6 Tryz.prog 58 2=some 2:=kf
@[go_sem] theorem Zg2 : Z6 Tryz.prog 58 3=some 6:=kf
@[go_sem] theorem ZgQ : Z6 Tryz.prog 58 4=some 10:=kf
@[go_sem] theorem Zg6 : Z6 Tryz.prog 58 5=some 11:=kf
@[go_sem] theorem ZfR : Z6 Tryz.prog 58 6=some 12:=kf
@[go_sem] theorem Zgo : Z6 Tryz.prog 58 7=some 13:=kf
@[go_sem] theorem ZhG : Z6 Tryz.prog 58 8=some 14:=kf
@[go_sem] theorem Zhw : Z6 Tryz.prog 58 9=some 15:=kf
@[go_sem] theorem ZfG : Z4 Tryz.prog 58=some [.str [],.list true [],.int .i64 0,.int .i64 0,.int .i64 0,.int .i64 0,.int .i64 0,.int .i64 0,.int .i64 0,.int .i64 0,.int .i64 0,.int .i64 0,.int .i64 0,.int .i64 0,.int .i64 0,.bool false]:=kf
@[go_sem] theorem ZkY : tsz Tryz.prog 79=some 2:=kf
@[go_sem] theorem Zkw : Xv Tryz.prog 79=some true:=kf
@[go_sem] theorem ZgX : Z6 Tryz.prog 79 0=some 0:=kf
@[go_sem] theorem ZfI : Z6 Tryz.prog 79 1=some 1:=kf
@[go_sem] theorem ZbJ : Tryz.prog.stoodInHeld 79=false:=kf
@[go_sem] theorem ZlB : tpl Tryz.prog 79=some (plL [(0,1),(1,1)]):=kf
@[go_sem] theorem Zlz (d:Nat) (a b:List PV):Za9 Tryz.prog d 79 (Tryz.prog.underlying 79) (.agg a) (.agg b)=ZcP (eqP (WS Tryz.prog d 3) (apart Tryz.prog 3 a 0) (apart Tryz.prog 3 b 0)) (ZcP (eqP (WS Tryz.prog d 3) (apart Tryz.prog 3 a 1) (apart Tryz.prog 3 b 1)) (some true)):=by rw [Tryz.underlying79,Wa ZbJ];simp [Uc,Qo]
@[go_sem] theorem ZlI : Tryz.prog.eqGuardType Tryz.prog.depth 79=false:=kf
@[go_sem] theorem Zgq : Z4 Tryz.prog 79=some [.int .i64 0,.int .i64 0]:=kf
@[go_sem] theorem Zll : tsz Tryz.prog 86=some 2:=kf
@[go_sem] theorem Zkt : Xv Tryz.prog 86=some true:=kf
@[go_sem] theorem ZgT : Z6 Tryz.prog 86 0=some 0:=kf
@[go_sem] theorem ZcS : Tryz.prog.stoodInHeld 86=false:=kf
@[go_sem] theorem Zlu : tpl Tryz.prog 86=some (plL [(0,1),(1,1)]):=kf
@[go_sem] theorem Zlx (d:Nat) (a b:List PV):Za9 Tryz.prog d 86 (Tryz.prog.underlying 86) (.agg a) (.agg b)=ZcP (eqP (WS Tryz.prog d 3) (apart Tryz.prog 3 a 0) (apart Tryz.prog 3 b 0)) (ZcP (eqP (WS Tryz.prog d 4) (apart Tryz.prog 4 a 1) (apart Tryz.prog 4 b 1)) (some true)):=by rw [Tryz.underlying86,Wa ZcS];simp [Uc,Qo]
@[go_sem] theorem Zlj : Tryz.prog.eqGuardType Tryz.prog.depth 86=false:=kf
@[go_sem] theorem Zhu : Z4 Tryz.prog 86=some [.int .i64 0,.bool false]:=kf
@[go_sem] theorem ZkZ : Tryz.prog.underlying 89=some (.slice 118):=kf
@[go_sem] theorem ZlG : tsz Tryz.prog 89=some 1:=kf
@[go_sem] theorem Zj2 : Xv Tryz.prog 89=some false:=kf
@[go_sem] theorem Zkc : Y7 Tryz.prog 89=some (none,2):=kf
@[go_sem] theorem Zlf : tsz Tryz.prog 91=some 6:=kf
@[go_sem] theorem ZkF : Xv Tryz.prog 91=some true:=kf
@[go_sem] theorem Zf7 : Z6 Tryz.prog 91 0=some 0:=kf
@[go_sem] theorem ZfS : Z6 Tryz.prog 91 1=some 1:=kf
@[go_sem] theorem Zg0 : Z6 Tryz.prog 91 2=some 2:=kf
@[go_sem] theorem Zf0 : Z6 Tryz.prog 91 3=some 3:=kf
@[go_sem] theorem Zhx : Z6 Tryz.prog 91 4=some 4:=kf
@[go_sem] theorem Zf9 : Z6 Tryz.prog 91 5=some 5:=kf
@[go_sem] theorem ZhE : Z4 Tryz.prog 91=some [.int .i64 0,.int .i64 0,.int .i64 0,.int .i64 0,.list true [],.list true []]:=kf
@[go_sem] theorem Zlw : tsz Tryz.prog 94=some 2:=kf
@[go_sem] theorem Zkx : Xv Tryz.prog 94=some true:=kf
@[go_sem] theorem ZkJ : Y7 Tryz.prog 94=some ((some 2),1):=kf
@[go_sem] theorem Zgp : Z4 Tryz.prog 94=some [.int .i64 0,.int .i64 0]:=kf
@[go_sem] theorem Zhy : Z6 Tryz.prog 96 0=some 0:=kf
@[go_sem] theorem ZfK : Z6 Tryz.prog 96 1=some 1:=kf
@[go_sem] theorem Zle : tpl Tryz.prog 96=some (plL [(0,1),(1,1)]):=kf
@[go_sem] theorem ZfJ : Z4 Tryz.prog 96=some [.int .i64 0,.str []]:=kf
@[go_sem] theorem Zk2 : Tryz.prog.underlying 99=some (.slice 39):=kf
@[go_sem] theorem ZjJ : Y7 Tryz.prog 99=some (none,1):=kf
@[go_sem] theorem ZjO : U7 Tryz.prog 99=some 1:=kf
@[go_sem] theorem ZdI : Za4 Tryz.prog 99=some (1,8):=kf
@[go_sem] theorem ZgK (H:List AM.Obj) (u:TypeId) (o n:Nat) (y:V):UJ Tryz.prog H 99 u (.sl o 0 n n) y=UZ H (some (1,8)) (oat H o) o n (Vg (Tryz.prog.underlying u) H y):=Yn ZdI
@[go_sem] theorem Zkz : tsz Tryz.prog 118=some 2:=kf
@[go_sem] theorem Ziy : Xv Tryz.prog 118=some true:=kf
@[go_sem] theorem ZdG : Z6 Tryz.prog 118 0=some 0:=kf
@[go_sem] theorem ZeB : Z6 Tryz.prog 118 1=some 1:=kf
@[go_sem] theorem Zfd : Z4 Tryz.prog 118=some [.int .i64 0,.int .i64 0]:=kf
@[go_sem] theorem Zkm : Tryz.prog.underlying 124=some (.slice 5):=kf
@[go_sem] theorem Zja : U7 Tryz.prog 124=some 1:=kf
theorem ZlA : Zq Tryz.prog 4:=fun args w=>Tryz.call4 args w
theorem ZlC : Zq Tryz.prog 5:=fun args w=>Tryz.call5 args w
theorem Zjt : Zq Tryz.prog 11:=fun args w=>Tryz.call11 args w
theorem ZhX : Zq Tryz.prog 13:=fun args w=>Tryz.call13 args w
theorem Zih : Zq Tryz.prog 14:=fun args w=>Tryz.call14 args w
theorem ZiH : Zq Tryz.prog 25:=fun args w=>Tryz.call25 args w
theorem Ziv : Zq Tryz.prog 26:=fun args w=>Tryz.call26 args w
theorem ZiW : Zq Tryz.prog 27:=fun args w=>Tryz.call27 args w
theorem ZiA : Zq Tryz.prog 28:=fun args w=>Tryz.call28 args w
theorem Zjj : Zq Tryz.prog 29:=fun args w=>Tryz.call29 args w
theorem Zi5 : Zq Tryz.prog 30:=fun args w=>Tryz.call30 args w
theorem Zif : Zq Tryz.prog 32:=fun args w=>Tryz.call32 args w
theorem Zh0 : Zq Tryz.prog 33:=fun args w=>Tryz.call33 args w
theorem Zje : Zq Tryz.prog 34:=fun args w=>Tryz.call34 args w
theorem Zjq : Zq Tryz.prog 41:=fun args w=>Tryz.call41 args w
theorem Zjv : Zq Tryz.prog 42:=fun args w=>Tryz.call42 args w
theorem Zix : Zq Tryz.prog 43:=fun args w=>Tryz.call43 args w
theorem ZiR : Zq Tryz.prog 44:=fun args w=>Tryz.call44 args w
theorem ZiT : Zq Tryz.prog 45:=fun args w=>Tryz.call45 args w
theorem Zik : Zq Tryz.prog 46:=fun args w=>Tryz.call46 args w
theorem Zil : Zq Tryz.prog 47:=fun args w=>Tryz.call47 args w
theorem Zh7 : Zq Tryz.prog 51:=fun args w=>Tryz.call51 args w
theorem Zh9 : Zq Tryz.prog 52:=fun args w=>Tryz.call52 args w
theorem Zh2 : Zq Tryz.prog 53:=fun args w=>Tryz.call53 args w
theorem ZiV : Zq Tryz.prog 54:=fun args w=>Tryz.call54 args w
theorem ZiC : Zq Tryz.prog 58:=fun args w=>Tryz.call58 args w
theorem ZiN : Zq Tryz.prog 59:=fun args w=>Tryz.call59 args w
theorem ZhO : Zq Tryz.prog 60:=fun args w=>Tryz.call60 args w
theorem Zi0 : Zq Tryz.prog 61:=fun args w=>Tryz.call61 args w
theorem ZhQ : Zq Tryz.prog 62:=fun args w=>Tryz.call62 args w
theorem Zjp : Zq Tryz.prog 63:=fun args w=>Tryz.call63 args w
theorem Zjy : Zq Tryz.prog 64:=fun args w=>Tryz.call64 args w
theorem ZhR : Zq Tryz.prog 65:=fun args w=>Tryz.call65 args w
theorem Zio : Zq Tryz.prog 66:=fun args w=>Tryz.call66 args w
theorem ZjA : Zq Tryz.prog 70:=fun args w=>Tryz.call70 args w
theorem Zir : Zq Tryz.prog 71:=fun args w=>Tryz.call71 args w
theorem Zis : Zq Tryz.prog 72:=fun args w=>Tryz.call72 args w
theorem ZhW : Zq Tryz.prog 73:=fun args w=>Tryz.call73 args w
theorem Zjh : Zq Tryz.prog 74:=fun args w=>Tryz.call74 args w
theorem Zjr : Zq Tryz.prog 75:=fun args w=>Tryz.call75 args w
theorem Zjz : Zq Tryz.prog 76:=fun args w=>Tryz.call76 args w
theorem ZiK : Zq Tryz.prog 84:=fun args w=>Tryz.call84 args w
theorem Zid : Zq Tryz.prog 85:=fun args w=>Tryz.call85 args w
theorem Zjg : Zq Tryz.prog 89:=fun args w=>Tryz.call89 args w
theorem ZiE : Zq Tryz.prog 90:=fun args w=>Tryz.call90 args w
theorem Zh1 : Zq Tryz.prog 92:=fun args w=>Tryz.call92 args w
theorem Zi7 : Zq Tryz.prog 97:=fun args w=>Tryz.call97 args w
theorem ZeT : Zq Tryz.prog 110:=fun args w=>Tryz.call110 args w
theorem ZeU : Zq Tryz.prog 125:=fun args w=>Tryz.call125 args w
theorem ZdS : Zq Tryz.prog 202:=fun args w=>Tryz.call202 args w
theorem ZdF : Zq Tryz.prog 209:=fun args w=>Tryz.call209 args w
theorem mixed : Tryz.prog.follows .mixedOrders=true:=by kernel_rfl
end Go.Proofs.YtgknhiknjimdpaaGreatDoor.K
