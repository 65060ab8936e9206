/- Declarations that the closing texts need, part 5: joined by tools/slim.py. -/
import Derived.Test.YtkhgmjdijnmhbaaDoorZ4
import Derived.KernelRfl
import Derived.Test.YtkhgmjdijnmhbaaDoorProg
namespace Go.Proofs.YtkhgmjdijnmhbaaDoor.K
open Go Go.AM Go.Proofs
abbrev PC (f : FuncId) (a : List V) (y : PV) := ACalls Tryd.prog f a [] fun x H' => x = .p y /\ H' = []
abbrev PT (f : FuncId) (a : List V) (b : List V) := ACalls Tryd.prog f a [] fun x H' => x = .tup b /\ H' = []
theorem kf {α : Type} {a b : α} (h : a = b := by kernel_rfl) : a = b := Eq.trans h rfl
@[go_sem] theorem Zn8 : Tryd.prog.underlying 3 = some (.int .i64) := kf
@[go_sem] theorem Zoe : tsz Tryd.prog 3 = some 1 := kf
@[go_sem] theorem Zn6 : Xr Tryd.prog 3 = some false := kf
@[go_sem] theorem Zk4 : ZR Tryd.prog 3 = some [.int .i64 0] := kf
@[go_sem] theorem Zn7 : tsz Tryd.prog 4 = some 1 := kf
@[go_sem] theorem Zne : Xr Tryd.prog 4 = some false := kf
@[go_sem] theorem Zob : Tryd.prog.underlying 5 = some (.int .u8) := kf
@[go_sem] theorem Zoa : tsz Tryd.prog 5 = some 1 := kf
@[go_sem] theorem ZnX : Xr Tryd.prog 5 = some false := kf
@[go_sem] theorem Zof : Tryd.prog.underlying 9 = some .string := kf
@[go_sem] theorem Zod : tsz Tryd.prog 9 = some 1 := kf
@[go_sem] theorem ZnA : Xr Tryd.prog 9 = some false := kf
@[go_sem] theorem Zn0 : Tryd.prog.underlying 22 = some (.slice 9) := kf
@[go_sem] theorem ZnV : tsz Tryd.prog 22 = some 1 := kf
@[go_sem] theorem Zmy : Xr Tryd.prog 22 = some false := kf
@[go_sem] theorem ZmV : YP Tryd.prog 22 = some (none, 1) := kf
@[go_sem] theorem Zmo : Qd Tryd.prog 22 = some 1 := kf
@[go_sem] theorem ZnD : Tryd.prog.underlying 23 = some (.slice 125) := kf
@[go_sem] theorem Znz : tsz Tryd.prog 23 = some 1 := kf
@[go_sem] theorem ZmR : Xr Tryd.prog 23 = some false := kf
@[go_sem] theorem Zmq : YP Tryd.prog 23 = some (none, 6) := kf
@[go_sem] theorem Znv : tsz Tryd.prog 25 = some 2 := kf
@[go_sem] theorem Zmk : Xr Tryd.prog 25 = some true := kf
@[go_sem] theorem Zhl : ZY Tryd.prog 25 0 = some 0 := kf
@[go_sem] theorem Ziy : ZY Tryd.prog 25 1 = some 1 := kf
@[go_sem] theorem ZnT : tpl Tryd.prog 25 = some (plL [(0, 1), (1, 1)]) := kf
@[go_sem] theorem ZiH : ZR Tryd.prog 25 = some [.list true [], .list true []] := kf
@[go_sem] theorem ZnU : Tryd.prog.underlying 26 = some (.slice 93) := kf
@[go_sem] theorem Zm5 : tsz Tryd.prog 26 = some 1 := kf
@[go_sem] theorem ZlI : Xr Tryd.prog 26 = some false := kf
@[go_sem] theorem ZmY : YP Tryd.prog 26 = some (none, 14) := kf
@[go_sem] theorem Zlz : Qd Tryd.prog 26 = some 14 := kf
@[go_sem] theorem ZnW : Tryd.prog.underlying 27 = some (.slice 83) := kf
@[go_sem] theorem ZnM : tsz Tryd.prog 27 = some 1 := kf
@[go_sem] theorem ZmH : Xr Tryd.prog 27 = some false := kf
@[go_sem] theorem Zls : YP Tryd.prog 27 = some (none, 16) := kf
@[go_sem] theorem Zl5 : Qd Tryd.prog 27 = some 16 := kf
@[go_sem] theorem Zgi : Za1 Tryd.prog 27 = some (16, 152) := kf
@[go_sem] theorem ZhA (H : List AM.Obj) (u : TypeId) (o n : Nat) (y : V) : U9 Tryd.prog H 27 u (.sl o 0 n n) y = UT H (some (16, 152)) (oat H o) o n (Va (Tryd.prog.underlying u) H y) := Yd Zgi
@[go_sem] theorem Zm3 : Tryd.prog.underlying 28 = some (.slice 133) := kf
@[go_sem] theorem ZnN : tsz Tryd.prog 28 = some 1 := kf
@[go_sem] theorem ZlT : Xr Tryd.prog 28 = some false := kf
@[go_sem] theorem ZlL : YP Tryd.prog 28 = some (none, 2) := kf
@[go_sem] theorem Znd : tsz Tryd.prog 30 = some 6 := kf
@[go_sem] theorem ZmZ : Xr Tryd.prog 30 = some true := kf
@[go_sem] theorem Zii : ZY Tryd.prog 30 0 = some 0 := kf
@[go_sem] theorem ZhY : ZY Tryd.prog 30 1 = some 2 := kf
@[go_sem] theorem ZgQ : ZY Tryd.prog 30 2 = some 3 := kf
@[go_sem] theorem ZhV : ZY Tryd.prog 30 3 = some 4 := kf
@[go_sem] theorem Zg2 : ZY Tryd.prog 30 4 = some 5 := kf
@[go_sem] theorem Zn4 : tpl Tryd.prog 30 = some (plL [(0, 2), (2, 1), (3, 1), (4, 1), (5, 1)]) := kf
@[go_sem] theorem Zh1 : ZR Tryd.prog 30 = some [.list true [], .list true [], .list true [], .list true [], .list true [], .list true []] := kf
@[go_sem] theorem Zn5 : Tryd.prog.underlying 31 = some (.slice 51) := kf
@[go_sem] theorem ZnZ : tsz Tryd.prog 31 = some 1 := kf
@[go_sem] theorem Zmx : Xr Tryd.prog 31 = some false := kf
@[go_sem] theorem Zme : YP Tryd.prog 31 = some (none, 7) := kf
@[go_sem] theorem Zmd : Qd Tryd.prog 31 = some 7 := kf
@[go_sem] theorem Ze5 : Za1 Tryd.prog 31 = some (7, 88) := kf
@[go_sem] theorem Zh6 (H : List AM.Obj) (u : TypeId) (o n : Nat) (y : V) : U9 Tryd.prog H 31 u (.sl o 0 n n) y = UT H (some (7, 88)) (oat H o) o n (Va (Tryd.prog.underlying u) H y) := Yd Ze5
@[go_sem] theorem Zm8 : Tryd.prog.underlying 32 = some (.slice 85) := kf
@[go_sem] theorem ZlO : YP Tryd.prog 32 = some (none, 2) := kf
@[go_sem] theorem ZlZ : Qd Tryd.prog 32 = some 2 := kf
@[go_sem] theorem Zfj : Za1 Tryd.prog 32 = some (2, 24) := kf
@[go_sem] theorem ZhC (H : List AM.Obj) (u : TypeId) (o n : Nat) (y : V) : U9 Tryd.prog H 32 u (.sl o 0 n n) y = UT H (some (2, 24)) (oat H o) o n (Va (Tryd.prog.underlying u) H y) := Yd Zfj
@[go_sem] theorem Znf : tsz Tryd.prog 35 = some 1 := kf
@[go_sem] theorem ZlP : Xr Tryd.prog 35 = some false := kf
@[go_sem] theorem Znq : Tryd.prog.underlying 38 = some (.slice 49) := kf
@[go_sem] theorem Znl : tsz Tryd.prog 38 = some 1 := kf
@[go_sem] theorem Zmi : Xr Tryd.prog 38 = some false := kf
@[go_sem] theorem ZlN : YP Tryd.prog 38 = some (none, 4) := kf
@[go_sem] theorem Zmf : Qd Tryd.prog 38 = some 4 := kf
@[go_sem] theorem Zf7 : Za1 Tryd.prog 38 = some (4, 64) := kf
@[go_sem] theorem Zh5 (H : List AM.Obj) (u : TypeId) (o n : Nat) (y : V) : U9 Tryd.prog H 38 u (.sl o 0 n n) y = UT H (some (4, 64)) (oat H o) o n (Va (Tryd.prog.underlying u) H y) := Yd Zf7
@[go_sem] theorem Zm2 : Tryd.prog.underlying 39 = some (.slice 3) := kf
@[go_sem] theorem Znk : tsz Tryd.prog 39 = some 1 := kf
@[go_sem] theorem ZlS : Xr Tryd.prog 39 = some false := kf
@[go_sem] theorem Zl4 : YP Tryd.prog 39 = some (none, 1) := kf
@[go_sem] theorem Zmc : Qd Tryd.prog 39 = some 1 := kf
@[go_sem] theorem Zfp : Za1 Tryd.prog 39 = some (1, 8) := kf
@[go_sem] theorem ZiJ (H : List AM.Obj) (u : TypeId) (o n : Nat) (y : V) : U9 Tryd.prog H 39 u (.sl o 0 n n) y = UT H (some (1, 8)) (oat H o) o n (Va (Tryd.prog.underlying u) H y) := Yd Zfp
@[go_sem] theorem ZnY : tsz Tryd.prog 41 = some 2 := kf
@[go_sem] theorem ZlY : Xr Tryd.prog 41 = some true := kf
@[go_sem] theorem ZhM : ZY Tryd.prog 41 0 = some 0 := kf
@[go_sem] theorem ZnS : tpl Tryd.prog 41 = some (plL [(0, 1), (1, 1)]) := kf
@[go_sem] theorem Ziu : ZR Tryd.prog 41 = some [.list true [], .list true []] := kf
@[go_sem] theorem Zm9 : tsz Tryd.prog 49 = some 4 := kf
@[go_sem] theorem Zl8 : Xr Tryd.prog 49 = some true := kf
@[go_sem] theorem Zin : ZY Tryd.prog 49 1 = some 1 := kf
@[go_sem] theorem Zm6 : tsz Tryd.prog 51 = some 7 := kf
@[go_sem] theorem ZlU : Xr Tryd.prog 51 = some true := kf
@[go_sem] theorem Zib : ZY Tryd.prog 51 0 = some 0 := kf
@[go_sem] theorem ZhR : ZY Tryd.prog 51 1 = some 1 := kf
@[go_sem] theorem ZhG : ZY Tryd.prog 51 2 = some 2 := kf
@[go_sem] theorem ZgR : ZY Tryd.prog 51 3 = some 3 := kf
@[go_sem] theorem ZnL : tpl Tryd.prog 51 = some (plL [(0, 1), (1, 1), (2, 1), (3, 4)]) := kf
@[go_sem] theorem Ziz : ZR Tryd.prog 51 = some [.int .i64 0, .int .i64 0, .int .i64 0, .int .i64 0, .int .i64 0, .list true [], .list true []] := kf
@[go_sem] theorem ZlG : YP Tryd.prog 65 = some ((some 6), 1) := kf
@[go_sem] theorem ZnH : tsz Tryd.prog 67 = some 8 := kf
@[go_sem] theorem Zl3 : Xr Tryd.prog 67 = some true := kf
@[go_sem] theorem Zhu : ZY Tryd.prog 67 0 = some 0 := kf
@[go_sem] theorem Zh0 : ZY Tryd.prog 67 1 = some 1 := kf
@[go_sem] theorem Zi0 : ZY Tryd.prog 67 2 = some 2 := kf
@[go_sem] theorem Znp : tpl Tryd.prog 67 = some (plL [(0, 1), (1, 1), (2, 6)]) := kf
@[go_sem] theorem Ziv : ZR Tryd.prog 67 = some [.int .i64 0, .int .i64 0, .int .i64 0, .int .i64 0, .int .i64 0, .int .i64 0, .int .i64 0, .int .i64 0] := kf
@[go_sem] theorem Zna : tsz Tryd.prog 81 = some 4 := kf
@[go_sem] theorem Zmr : Xr Tryd.prog 81 = some true := kf
@[go_sem] theorem Zhw : ZY Tryd.prog 81 0 = some 0 := kf
@[go_sem] theorem Zg3 : ZY Tryd.prog 81 1 = some 1 := kf
@[go_sem] theorem Zhv : ZY Tryd.prog 81 2 = some 2 := kf
@[go_sem] theorem Zi6 : ZY Tryd.prog 81 3 = some 3 := kf
@[go_sem] theorem ZnG : tpl Tryd.prog 81 = some (plL [(0, 1), (1, 1), (2, 1), (3, 1)]) := kf
@[go_sem] theorem ZgW : ZR Tryd.prog 81 = some [.int .i64 0, .int .i64 0, .int .i64 0, .int .i64 0] := kf
@[go_sem] theorem Zm4 : tsz Tryd.prog 83 = some 16 := kf
@[go_sem] theorem ZmO : Xr Tryd.prog 83 = some true := kf
@[go_sem] theorem Zh7 : ZY Tryd.prog 83 0 = some 0 := kf
@[go_sem] theorem Zhz : ZY Tryd.prog 83 1 = some 1 := kf
@[go_sem] theorem ZhD : ZY Tryd.prog 83 2 = some 2 := kf
@[go_sem] theorem Zg9 : ZY Tryd.prog 83 3 = some 6 := kf
@[go_sem] theorem Zha : ZY Tryd.prog 83 4 = some 10 := kf
@[go_sem] theorem ZgX : ZY Tryd.prog 83 5 = some 11 := kf
@[go_sem] theorem ZiL : ZY Tryd.prog 83 6 = some 12 := kf
@[go_sem] theorem ZhZ : ZY Tryd.prog 83 7 = some 13 := kf
@[go_sem] theorem Zis : ZY Tryd.prog 83 8 = some 14 := kf
@[go_sem] theorem Zhn : ZY Tryd.prog 83 9 = some 15 := kf
@[go_sem] theorem ZnC : tpl Tryd.prog 83 = some (plL [(0, 1), (1, 1), (2, 4), (6, 4), (10, 1), (11, 1), (12, 1), (13, 1), (14, 1), (15, 1)]) := kf
@[go_sem] theorem Zg6 : ZR Tryd.prog 83 = some [.str [], .list true [], .int .i64 0, .int .i64 0, .int .i64 0, .int .i64 0, .int .i64 0, .int .i64 0, .int .i64 0, .int .i64 0, .int .i64 0, .int .i64 0, .int .i64 0, .int .i64 0, .int .i64 0, .bool false] := kf
@[go_sem] theorem Zg7 : ZY Tryd.prog 85 0 = some 0 := kf
@[go_sem] theorem Zh8 : ZY Tryd.prog 85 1 = some 1 := kf
@[go_sem] theorem ZnE : tpl Tryd.prog 85 = some (plL [(0, 1), (1, 1)]) := kf
@[go_sem] theorem ZhH : ZR Tryd.prog 85 = some [.int .i64 0, .str []] := kf
@[go_sem] theorem ZnO : Tryd.prog.underlying 88 = some (.slice 35) := kf
@[go_sem] theorem Zlr : YP Tryd.prog 88 = some (none, 1) := kf
@[go_sem] theorem Zmj : Qd Tryd.prog 88 = some 1 := kf
@[go_sem] theorem ZgI : Za1 Tryd.prog 88 = some (1, 8) := kf
@[go_sem] theorem ZiF (H : List AM.Obj) (u : TypeId) (o n : Nat) (y : V) : U9 Tryd.prog H 88 u (.sl o 0 n n) y = UT H (some (1, 8)) (oat H o) o n (Va (Tryd.prog.underlying u) H y) := Yd ZgI
@[go_sem] theorem Znw : tsz Tryd.prog 93 = some 14 := kf
@[go_sem] theorem ZmS : Xr Tryd.prog 93 = some true := kf
@[go_sem] theorem Zi4 : ZY Tryd.prog 93 0 = some 0 := kf
@[go_sem] theorem ZhJ : ZY Tryd.prog 93 1 = some 1 := kf
@[go_sem] theorem ZgT : ZY Tryd.prog 93 2 = some 2 := kf
@[go_sem] theorem Zip : ZY Tryd.prog 93 3 = some 3 := kf
@[go_sem] theorem Ziw : ZY Tryd.prog 93 4 = some 4 := kf
@[go_sem] theorem ZhW : ZY Tryd.prog 93 5 = some 5 := kf
@[go_sem] theorem Zio : ZY Tryd.prog 93 6 = some 6 := kf
@[go_sem] theorem ZiB : ZY Tryd.prog 93 7 = some 7 := kf
@[go_sem] theorem Zhb : ZY Tryd.prog 93 8 = some 8 := kf
@[go_sem] theorem ZiQ : ZY Tryd.prog 93 9 = some 9 := kf
@[go_sem] theorem Zfe : ZY Tryd.prog 93 10 = some 10 := kf
@[go_sem] theorem Zfx : ZY Tryd.prog 93 11 = some 11 := kf
@[go_sem] theorem ZgH : ZY Tryd.prog 93 12 = some 12 := kf
@[go_sem] theorem ZeM : ZY Tryd.prog 93 13 = some 13 := kf
@[go_sem] theorem ZnF : tpl Tryd.prog 93 = some (plL [(0, 1), (1, 1), (2, 1), (3, 1), (4, 1), (5, 1), (6, 1), (7, 1), (8, 1), (9, 1), (10, 1), (11, 1), (12, 1), (13, 1)]) := kf
@[go_sem] theorem ZiM : ZR Tryd.prog 93 = some [.str [], .int .i64 0, .int .i64 0, .int .i64 0, .list true [], .int .i64 0, .int .i64 0, .int .i64 0, .int .i64 0, .int .i64 0, .int .i64 0, .int .i64 0, .int .i64 0, .int .i64 0] := kf
@[go_sem] theorem Znb : tsz Tryd.prog 95 = some 1 := kf
@[go_sem] theorem Zmh : Xr Tryd.prog 95 = some false := kf
@[go_sem] theorem Zng : tsz Tryd.prog 97 = some 1 := kf
@[go_sem] theorem Zlv : Xr Tryd.prog 97 = some false := kf
@[go_sem] theorem Zlq : YP Tryd.prog 97 = some (none, 1) := kf
@[go_sem] theorem ZiY : ZY Tryd.prog 99 0 = some 0 := kf
@[go_sem] theorem ZiN : ZY Tryd.prog 99 1 = some 6 := kf
@[go_sem] theorem ZhX : ZY Tryd.prog 99 2 = some 7 := kf
@[go_sem] theorem Zi1 : ZY Tryd.prog 99 3 = some 8 := kf
@[go_sem] theorem ZhQ : ZY Tryd.prog 99 4 = some 9 := kf
@[go_sem] theorem Znm : tpl Tryd.prog 99 = some (plL [(0, 6), (6, 1), (7, 1), (8, 1), (9, 1)]) := kf
@[go_sem] theorem Zix : ZR Tryd.prog 99 = some [.list true [], .list true [], .list true [], .list true [], .list true [], .list true [], .list true [], .list true [], .nilm, .int .i64 0] := kf
@[go_sem] theorem ZlK : tsz Tryd.prog 103 = some 4 := kf
@[go_sem] theorem Zk8 : Xr Tryd.prog 103 = some true := kf
@[go_sem] theorem Zge : ZY Tryd.prog 103 0 = some 0 := kf
@[go_sem] theorem ZeA : ZY Tryd.prog 103 1 = some 1 := kf
@[go_sem] theorem ZfZ : ZY Tryd.prog 103 2 = some 2 := kf
@[go_sem] theorem Zfs : ZY Tryd.prog 103 3 = some 3 := kf
@[go_sem] theorem Zmm : tpl Tryd.prog 103 = some (plL [(0, 1), (1, 1), (2, 1), (3, 1)]) := kf
@[go_sem] theorem Zgc : ZR Tryd.prog 103 = some [.int .i64 0, .int .i64 0, .int .i64 0, .int .i64 0] := kf
@[go_sem] theorem Zlp : Tryd.prog.underlying 119 = some (.int .u64) := kf
@[go_sem] theorem ZmC : Tryd.prog.underlying 123 = some (.slice 128) := kf
@[go_sem] theorem ZmD : tsz Tryd.prog 123 = some 1 := kf
@[go_sem] theorem ZkW : Xr Tryd.prog 123 = some false := kf
@[go_sem] theorem Zk2 : YP Tryd.prog 123 = some (none, 2) := kf
@[go_sem] theorem ZmL : tsz Tryd.prog 125 = some 6 := kf
@[go_sem] theorem ZkF : Xr Tryd.prog 125 = some true := kf
@[go_sem] theorem ZfU : ZY Tryd.prog 125 0 = some 0 := kf
@[go_sem] theorem Zgq : ZY Tryd.prog 125 1 = some 1 := kf
@[go_sem] theorem ZeH : ZY Tryd.prog 125 2 = some 2 := kf
@[go_sem] theorem Zfm : ZY Tryd.prog 125 3 = some 3 := kf
@[go_sem] theorem Zfg : ZY Tryd.prog 125 4 = some 4 := kf
@[go_sem] theorem Zgj : ZY Tryd.prog 125 5 = some 5 := kf
@[go_sem] theorem Zfd : ZR Tryd.prog 125 = some [.int .i64 0, .int .i64 0, .int .i64 0, .int .i64 0, .list true [], .list true []] := kf
@[go_sem] theorem Zmn : tsz Tryd.prog 128 = some 2 := kf
@[go_sem] theorem ZjP : Xr Tryd.prog 128 = some true := kf
@[go_sem] theorem ZfE : ZY Tryd.prog 128 0 = some 0 := kf
@[go_sem] theorem ZeR : ZY Tryd.prog 128 1 = some 1 := kf
@[go_sem] theorem Ze7 : ZR Tryd.prog 128 = some [.int .i64 0, .int .i64 0] := kf
@[go_sem] theorem ZlV : Tryd.prog.underlying 131 = some (.slice 5) := kf
@[go_sem] theorem ZjA : Qd Tryd.prog 131 = some 1 := kf
@[go_sem] theorem Zlm : YP Tryd.prog 133 = some ((some 2), 1) := kf
@[go_sem] theorem ZlC : tsz Tryd.prog 138 = some 2 := kf
@[go_sem] theorem Zll : Xr Tryd.prog 138 = some true := kf
@[go_sem] theorem ZmI : tpl Tryd.prog 138 = some (plL [(0, 1), (1, 1)]) := kf
@[go_sem] theorem ZgB : ZR Tryd.prog 138 = some [.int .i64 0, .int .i64 0] := kf
@[go_sem] theorem ZmQ : Tryd.prog.underlying 139 = some (.array 4 3) := kf
@[go_sem] theorem Zmw : tsz Tryd.prog 139 = some 4 := kf
@[go_sem] theorem Zjf : Xr Tryd.prog 139 = some true := kf
@[go_sem] theorem ZmM : tpl Tryd.prog 139 = some (plA 1) := kf
@[go_sem] theorem Zf0 : ZR Tryd.prog 139 = some [.int .i64 0, .int .i64 0, .int .i64 0, .int .i64 0] := kf
@[go_sem] theorem Zjw : YP Tryd.prog 167 = some ((some 64), 1) := kf
theorem Zno : Zl Tryd.prog 4 := fun args w => Tryd.call4 args w
theorem Zn2 : Zl Tryd.prog 5 := fun args w => Tryd.call5 args w
theorem Znn : Zl Tryd.prog 6 := fun args w => Tryd.call6 args w
theorem Znj : Zl Tryd.prog 7 := fun args w => Tryd.call7 args w
theorem Zn1 : Zl Tryd.prog 9 := fun args w => Tryd.call9 args w
theorem ZkE : Zl Tryd.prog 12 := fun args w => Tryd.call12 args w
theorem ZkM : Zl Tryd.prog 13 := fun args w => Tryd.call13 args w
theorem Zjk : Zl Tryd.prog 14 := fun args w => Tryd.call14 args w
theorem Zjz : Zl Tryd.prog 15 := fun args w => Tryd.call15 args w
theorem ZkY : Zl Tryd.prog 16 := fun args w => Tryd.call16 args w
theorem ZkP : Zl Tryd.prog 17 := fun args w => Tryd.call17 args w
theorem ZkB : Zl Tryd.prog 18 := fun args w => Tryd.call18 args w
theorem ZkS : Zl Tryd.prog 19 := fun args w => Tryd.call19 args w
theorem Zkj : Zl Tryd.prog 20 := fun args w => Tryd.call20 args w
theorem Zks : Zl Tryd.prog 21 := fun args w => Tryd.call21 args w
theorem ZjC : Zl Tryd.prog 23 := fun args w => Tryd.call23 args w
theorem Zf1 : Zl Tryd.prog 24 := fun args w => Tryd.call24 args w
theorem Zjo : Zl Tryd.prog 25 := fun args w => Tryd.call25 args w
theorem Zjx : Zl Tryd.prog 26 := fun args w => Tryd.call26 args w
theorem Zjh : Zl Tryd.prog 27 := fun args w => Tryd.call27 args w
theorem Zk5 : Zl Tryd.prog 28 := fun args w => Tryd.call28 args w
theorem Zjm : Zl Tryd.prog 31 := fun args w => Tryd.call31 args w
theorem ZjR : Zl Tryd.prog 32 := fun args w => Tryd.call32 args w
theorem Zlk : Zl Tryd.prog 33 := fun args w => Tryd.call33 args w
theorem ZkZ : Zl Tryd.prog 34 := fun args w => Tryd.call34 args w
theorem Zkt : Zl Tryd.prog 35 := fun args w => Tryd.call35 args w
theorem Zjd : Zl Tryd.prog 36 := fun args w => Tryd.call36 args w
theorem ZjG : Zl Tryd.prog 37 := fun args w => Tryd.call37 args w
theorem ZkJ : Zl Tryd.prog 38 := fun args w => Tryd.call38 args w
theorem ZjQ : Zl Tryd.prog 39 := fun args w => Tryd.call39 args w
theorem Zkp : Zl Tryd.prog 40 := fun args w => Tryd.call40 args w
theorem Zj3 : Zl Tryd.prog 41 := fun args w => Tryd.call41 args w
theorem Zlf : Zl Tryd.prog 42 := fun args w => Tryd.call42 args w
theorem Zkn : Zl Tryd.prog 43 := fun args w => Tryd.call43 args w
theorem Zk6 : Zl Tryd.prog 44 := fun args w => Tryd.call44 args w
theorem ZjT : Zl Tryd.prog 45 := fun args w => Tryd.call45 args w
theorem Zi8 : Zl Tryd.prog 46 := fun args w => Tryd.call46 args w
theorem ZkN : Zl Tryd.prog 51 := fun args w => Tryd.call51 args w
theorem ZjU : Zl Tryd.prog 52 := fun args w => Tryd.call52 args w
theorem ZjX : Zl Tryd.prog 54 := fun args w => Tryd.call54 args w
theorem ZkR : Zl Tryd.prog 55 := fun args w => Tryd.call55 args w
theorem ZjZ : Zl Tryd.prog 56 := fun args w => Tryd.call56 args w
theorem ZjB : Zl Tryd.prog 57 := fun args w => Tryd.call57 args w
theorem Zk3 : Zl Tryd.prog 58 := fun args w => Tryd.call58 args w
theorem Zjg : Zl Tryd.prog 59 := fun args w => Tryd.call59 args w
theorem ZkU : Zl Tryd.prog 60 := fun args w => Tryd.call60 args w
theorem Zjn : Zl Tryd.prog 61 := fun args w => Tryd.call61 args w
theorem Zlj : Zl Tryd.prog 62 := fun args w => Tryd.call62 args w
theorem Zj4 : Zl Tryd.prog 63 := fun args w => Tryd.call63 args w
theorem Zkm : Zl Tryd.prog 64 := fun args w => Tryd.call64 args w
theorem ZjN : Zl Tryd.prog 65 := fun args w => Tryd.call65 args w
theorem Zj6 : Zl Tryd.prog 66 := fun args w => Tryd.call66 args w
theorem Zkf : Zl Tryd.prog 67 := fun args w => Tryd.call67 args w
theorem Yu : Zl Tryd.prog 85 := fun args w => Tryd.call85 args w
theorem ZkD : Zl Tryd.prog 86 := fun args w => Tryd.call86 args w
theorem Zj1 : Zl Tryd.prog 87 := fun args w => Tryd.call87 args w
theorem mixed : Tryd.prog.follows .mixedOrders = true := by kernel_rfl
end Go.Proofs.YtkhgmjdijnmhbaaDoor.K
