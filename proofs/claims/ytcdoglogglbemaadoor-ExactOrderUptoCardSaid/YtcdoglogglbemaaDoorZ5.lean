/- Declarations that the closing texts need, part 5: joined by tools/slim.py. -/
import Derived.Test.YtcdoglogglbemaaDoorZ4
import Derived.KernelRfl
import Derived.Test.YtcdoglogglbemaaDoorProg
namespace Go.Proofs.YtcdoglogglbemaaDoor.K
open Go Go.AM Go.Proofs
abbrev PC (f : FuncId) (a : List V) (y : PV) := ACalls Tryd.prog f a [] fun x H' => x = .p y /\ H' = []
abbrev PT (f : FuncId) (a : List V) (b : List V) := ACalls Tryd.prog f a [] fun x H' => x = .tup b /\ H' = []
theorem kf {α : Type} {a b : α} (h : a = b := by kernel_rfl) : a = b := Eq.trans h rfl
@[go_sem] theorem Zoa : Tryd.prog.underlying 3 = some (.int .i64) := kf
@[go_sem] theorem Zn8 : tsz Tryd.prog 3 = some 1 := kf
@[go_sem] theorem Zny : Xs Tryd.prog 3 = some false := kf
@[go_sem] theorem Zi8 : ZR Tryd.prog 3 = some [.int .i64 0] := kf
@[go_sem] theorem Zoc : tsz Tryd.prog 4 = some 1 := kf
@[go_sem] theorem ZnQ : Xs Tryd.prog 4 = some false := kf
@[go_sem] theorem Zog : Tryd.prog.underlying 5 = some (.int .u8) := kf
@[go_sem] theorem Zn7 : tsz Tryd.prog 5 = some 1 := kf
@[go_sem] theorem Zna : Xs Tryd.prog 5 = some false := kf
@[go_sem] theorem Zoe : Tryd.prog.underlying 9 = some .string := kf
@[go_sem] theorem Zn9 : tsz Tryd.prog 9 = some 1 := kf
@[go_sem] theorem Znq : Xs Tryd.prog 9 = some false := kf
@[go_sem] theorem ZnG : Tryd.prog.underlying 22 = some (.slice 9) := kf
@[go_sem] theorem ZnN : tsz Tryd.prog 22 = some 1 := kf
@[go_sem] theorem ZmY : Xs Tryd.prog 22 = some false := kf
@[go_sem] theorem ZlI : YJ Tryd.prog 22 = some (none, 1) := kf
@[go_sem] theorem Zmm : UW Tryd.prog 22 = some 1 := kf
@[go_sem] theorem Znk : Tryd.prog.underlying 23 = some (.slice 125) := kf
@[go_sem] theorem Zn3 : tsz Tryd.prog 23 = some 1 := kf
@[go_sem] theorem ZmN : Xs Tryd.prog 23 = some false := kf
@[go_sem] theorem ZlO : YJ Tryd.prog 23 = some (none, 6) := kf
@[go_sem] theorem ZnM : tsz Tryd.prog 25 = some 2 := kf
@[go_sem] theorem ZlW : Xs Tryd.prog 25 = some true := kf
@[go_sem] theorem ZiN : ZY Tryd.prog 25 0 = some 0 := kf
@[go_sem] theorem Zif : ZY Tryd.prog 25 1 = some 1 := kf
@[go_sem] theorem ZnI : tpl Tryd.prog 25 = some (plL [(0, 1), (1, 1)]) := kf
@[go_sem] theorem Zhz : ZR Tryd.prog 25 = some [.list true [], .list true []] := kf
@[go_sem] theorem ZnO : Tryd.prog.underlying 26 = some (.slice 93) := kf
@[go_sem] theorem ZnD : tsz Tryd.prog 26 = some 1 := kf
@[go_sem] theorem ZmJ : Xs Tryd.prog 26 = some false := kf
@[go_sem] theorem ZmZ : YJ Tryd.prog 26 = some (none, 14) := kf
@[go_sem] theorem ZmK : UW Tryd.prog 26 = some 14 := kf
@[go_sem] theorem ZnT : Tryd.prog.underlying 27 = some (.slice 83) := kf
@[go_sem] theorem Zne : tsz Tryd.prog 27 = some 1 := kf
@[go_sem] theorem ZmW : Xs Tryd.prog 27 = some false := kf
@[go_sem] theorem ZlR : YJ Tryd.prog 27 = some (none, 16) := kf
@[go_sem] theorem Zls : UW Tryd.prog 27 = some 16 := kf
@[go_sem] theorem Zga : Zbh Tryd.prog 27 = some (16, 152) := kf
@[go_sem] theorem ZiD (H : List AM.Obj) (u : TypeId) (o n : Nat) (y : V) : Qt Tryd.prog H 27 u (.sl o 0 n n) y = UU H (some (16, 152)) (oat H o) o n (W7 (Tryd.prog.underlying u) H y) := Yc Zga
@[go_sem] theorem Zm8 : Tryd.prog.underlying 28 = some (.slice 133) := kf
@[go_sem] theorem Zn6 : tsz Tryd.prog 28 = some 1 := kf
@[go_sem] theorem Zmp : Xs Tryd.prog 28 = some false := kf
@[go_sem] theorem ZmM : YJ Tryd.prog 28 = some (none, 2) := kf
@[go_sem] theorem ZnS : tsz Tryd.prog 30 = some 6 := kf
@[go_sem] theorem Zma : Xs Tryd.prog 30 = some true := kf
@[go_sem] theorem Zhk : ZY Tryd.prog 30 0 = some 0 := kf
@[go_sem] theorem Zh6 : ZY Tryd.prog 30 1 = some 2 := kf
@[go_sem] theorem ZiT : ZY Tryd.prog 30 2 = some 3 := kf
@[go_sem] theorem Zhm : ZY Tryd.prog 30 3 = some 4 := kf
@[go_sem] theorem ZhI : ZY Tryd.prog 30 4 = some 5 := kf
@[go_sem] theorem ZnB : tpl Tryd.prog 30 = some (plL [(0, 2), (2, 1), (3, 1), (4, 1), (5, 1)]) := kf
@[go_sem] theorem ZgP : ZR Tryd.prog 30 = some [.list true [], .list true [], .list true [], .list true [], .list true [], .list true []] := kf
@[go_sem] theorem ZnL : Tryd.prog.underlying 31 = some (.slice 51) := kf
@[go_sem] theorem Znm : tsz Tryd.prog 31 = some 1 := kf
@[go_sem] theorem Zl9 : Xs Tryd.prog 31 = some false := kf
@[go_sem] theorem Zl4 : YJ Tryd.prog 31 = some (none, 7) := kf
@[go_sem] theorem Zmn : UW Tryd.prog 31 = some 7 := kf
@[go_sem] theorem Zez : Zbh Tryd.prog 31 = some (7, 88) := kf
@[go_sem] theorem Zhd (H : List AM.Obj) (u : TypeId) (o n : Nat) (y : V) : Qt Tryd.prog H 31 u (.sl o 0 n n) y = UU H (some (7, 88)) (oat H o) o n (W7 (Tryd.prog.underlying u) H y) := Yc Zez
@[go_sem] theorem Zm5 : Tryd.prog.underlying 32 = some (.slice 85) := kf
@[go_sem] theorem ZmL : YJ Tryd.prog 32 = some (none, 2) := kf
@[go_sem] theorem ZlZ : UW Tryd.prog 32 = some 2 := kf
@[go_sem] theorem ZfA : Zbh Tryd.prog 32 = some (2, 24) := kf
@[go_sem] theorem ZhB (H : List AM.Obj) (u : TypeId) (o n : Nat) (y : V) : Qt Tryd.prog H 32 u (.sl o 0 n n) y = UU H (some (2, 24)) (oat H o) o n (W7 (Tryd.prog.underlying u) H y) := Yc ZfA
@[go_sem] theorem Znv : tsz Tryd.prog 35 = some 1 := kf
@[go_sem] theorem Zmx : Xs Tryd.prog 35 = some false := kf
@[go_sem] theorem ZnY : Tryd.prog.underlying 38 = some (.slice 49) := kf
@[go_sem] theorem ZnR : tsz Tryd.prog 38 = some 1 := kf
@[go_sem] theorem ZmR : Xs Tryd.prog 38 = some false := kf
@[go_sem] theorem Zmv : YJ Tryd.prog 38 = some (none, 4) := kf
@[go_sem] theorem ZmA : UW Tryd.prog 38 = some 4 := kf
@[go_sem] theorem Zgm : Zbh Tryd.prog 38 = some (4, 64) := kf
@[go_sem] theorem Zi2 (H : List AM.Obj) (u : TypeId) (o n : Nat) (y : V) : Qt Tryd.prog H 38 u (.sl o 0 n n) y = UU H (some (4, 64)) (oat H o) o n (W7 (Tryd.prog.underlying u) H y) := Yc Zgm
@[go_sem] theorem ZnV : Tryd.prog.underlying 39 = some (.slice 3) := kf
@[go_sem] theorem Zm1 : tsz Tryd.prog 39 = some 1 := kf
@[go_sem] theorem Zlq : Xs Tryd.prog 39 = some false := kf
@[go_sem] theorem Zme : YJ Tryd.prog 39 = some (none, 1) := kf
@[go_sem] theorem ZlU : UW Tryd.prog 39 = some 1 := kf
@[go_sem] theorem Zes : Zbh Tryd.prog 39 = some (1, 8) := kf
@[go_sem] theorem ZgW (H : List AM.Obj) (u : TypeId) (o n : Nat) (y : V) : Qt Tryd.prog H 39 u (.sl o 0 n n) y = UU H (some (1, 8)) (oat H o) o n (W7 (Tryd.prog.underlying u) H y) := Yc Zes
@[go_sem] theorem Znl : tsz Tryd.prog 41 = some 2 := kf
@[go_sem] theorem Zmt : Xs Tryd.prog 41 = some true := kf
@[go_sem] theorem ZgQ : ZY Tryd.prog 41 0 = some 0 := kf
@[go_sem] theorem Znx : tpl Tryd.prog 41 = some (plL [(0, 1), (1, 1)]) := kf
@[go_sem] theorem Zh2 : ZR Tryd.prog 41 = some [.list true [], .list true []] := kf
@[go_sem] theorem Zn4 : tsz Tryd.prog 49 = some 4 := kf
@[go_sem] theorem Zml : Xs Tryd.prog 49 = some true := kf
@[go_sem] theorem Zi4 : ZY Tryd.prog 49 1 = some 1 := kf
@[go_sem] theorem Zno : tsz Tryd.prog 51 = some 7 := kf
@[go_sem] theorem ZlC : Xs Tryd.prog 51 = some true := kf
@[go_sem] theorem Zij : ZY Tryd.prog 51 0 = some 0 := kf
@[go_sem] theorem ZhD : ZY Tryd.prog 51 1 = some 1 := kf
@[go_sem] theorem Zii : ZY Tryd.prog 51 2 = some 2 := kf
@[go_sem] theorem Zh7 : ZY Tryd.prog 51 3 = some 3 := kf
@[go_sem] theorem Zng : tpl Tryd.prog 51 = some (plL [(0, 1), (1, 1), (2, 1), (3, 4)]) := kf
@[go_sem] theorem ZiK : ZR Tryd.prog 51 = some [.int .i64 0, .int .i64 0, .int .i64 0, .int .i64 0, .int .i64 0, .list true [], .list true []] := kf
@[go_sem] theorem ZmO : YJ Tryd.prog 65 = some ((some 6), 1) := kf
@[go_sem] theorem Znw : tsz Tryd.prog 67 = some 8 := kf
@[go_sem] theorem Zmf : Xs Tryd.prog 67 = some true := kf
@[go_sem] theorem ZiM : ZY Tryd.prog 67 0 = some 0 := kf
@[go_sem] theorem Zin : ZY Tryd.prog 67 1 = some 1 := kf
@[go_sem] theorem Zid : ZY Tryd.prog 67 2 = some 2 := kf
@[go_sem] theorem ZnP : tpl Tryd.prog 67 = some (plL [(0, 1), (1, 1), (2, 6)]) := kf
@[go_sem] theorem Zh9 : ZR Tryd.prog 67 = some [.int .i64 0, .int .i64 0, .int .i64 0, .int .i64 0, .int .i64 0, .int .i64 0, .int .i64 0, .int .i64 0] := kf
@[go_sem] theorem Znf : tsz Tryd.prog 81 = some 4 := kf
@[go_sem] theorem ZlG : Xs Tryd.prog 81 = some true := kf
@[go_sem] theorem Zg3 : ZY Tryd.prog 81 0 = some 0 := kf
@[go_sem] theorem Zhe : ZY Tryd.prog 81 1 = some 1 := kf
@[go_sem] theorem Zi0 : ZY Tryd.prog 81 2 = some 2 := kf
@[go_sem] theorem ZiO : ZY Tryd.prog 81 3 = some 3 := kf
@[go_sem] theorem ZnZ : tpl Tryd.prog 81 = some (plL [(0, 1), (1, 1), (2, 1), (3, 1)]) := kf
@[go_sem] theorem ZhA : ZR Tryd.prog 81 = some [.int .i64 0, .int .i64 0, .int .i64 0, .int .i64 0] := kf
@[go_sem] theorem Znh : tsz Tryd.prog 83 = some 16 := kf
@[go_sem] theorem Zl0 : Xs Tryd.prog 83 = some true := kf
@[go_sem] theorem Zig : ZY Tryd.prog 83 0 = some 0 := kf
@[go_sem] theorem ZhX : ZY Tryd.prog 83 1 = some 1 := kf
@[go_sem] theorem Zhb : ZY Tryd.prog 83 2 = some 2 := kf
@[go_sem] theorem Zhl : ZY Tryd.prog 83 3 = some 6 := kf
@[go_sem] theorem Zir : ZY Tryd.prog 83 4 = some 10 := kf
@[go_sem] theorem Zh3 : ZY Tryd.prog 83 5 = some 11 := kf
@[go_sem] theorem Zi1 : ZY Tryd.prog 83 6 = some 12 := kf
@[go_sem] theorem Zhs : ZY Tryd.prog 83 7 = some 13 := kf
@[go_sem] theorem Zhx : ZY Tryd.prog 83 8 = some 14 := kf
@[go_sem] theorem Zht : ZY Tryd.prog 83 9 = some 15 := kf
@[go_sem] theorem Znj : tpl Tryd.prog 83 = some (plL [(0, 1), (1, 1), (2, 4), (6, 4), (10, 1), (11, 1), (12, 1), (13, 1), (14, 1), (15, 1)]) := kf
@[go_sem] theorem ZhG : ZR Tryd.prog 83 = some [.str [], .list true [], .int .i64 0, .int .i64 0, .int .i64 0, .int .i64 0, .int .i64 0, .int .i64 0, .int .i64 0, .int .i64 0, .int .i64 0, .int .i64 0, .int .i64 0, .int .i64 0, .int .i64 0, .bool false] := kf
@[go_sem] theorem ZhN : ZY Tryd.prog 85 0 = some 0 := kf
@[go_sem] theorem Zhu : ZY Tryd.prog 85 1 = some 1 := kf
@[go_sem] theorem Zn5 : tpl Tryd.prog 85 = some (plL [(0, 1), (1, 1)]) := kf
@[go_sem] theorem Ziw : ZR Tryd.prog 85 = some [.int .i64 0, .str []] := kf
@[go_sem] theorem Zn2 : Tryd.prog.underlying 88 = some (.slice 35) := kf
@[go_sem] theorem ZlB : YJ Tryd.prog 88 = some (none, 1) := kf
@[go_sem] theorem Zlv : UW Tryd.prog 88 = some 1 := kf
@[go_sem] theorem Zfh : Zbh Tryd.prog 88 = some (1, 8) := kf
@[go_sem] theorem Ziy (H : List AM.Obj) (u : TypeId) (o n : Nat) (y : V) : Qt Tryd.prog H 88 u (.sl o 0 n n) y = UU H (some (1, 8)) (oat H o) o n (W7 (Tryd.prog.underlying u) H y) := Yc Zfh
@[go_sem] theorem Znc : tsz Tryd.prog 93 = some 14 := kf
@[go_sem] theorem Zlo : Xs Tryd.prog 93 = some true := kf
@[go_sem] theorem Zg7 : ZY Tryd.prog 93 0 = some 0 := kf
@[go_sem] theorem Zip : ZY Tryd.prog 93 1 = some 1 := kf
@[go_sem] theorem Zi6 : ZY Tryd.prog 93 2 = some 2 := kf
@[go_sem] theorem Zg4 : ZY Tryd.prog 93 3 = some 3 := kf
@[go_sem] theorem ZgZ : ZY Tryd.prog 93 4 = some 4 := kf
@[go_sem] theorem Zih : ZY Tryd.prog 93 5 = some 5 := kf
@[go_sem] theorem ZhS : ZY Tryd.prog 93 6 = some 6 := kf
@[go_sem] theorem Zhh : ZY Tryd.prog 93 7 = some 7 := kf
@[go_sem] theorem ZiX : ZY Tryd.prog 93 8 = some 8 := kf
@[go_sem] theorem Zg0 : ZY Tryd.prog 93 9 = some 9 := kf
@[go_sem] theorem Zf5 : ZY Tryd.prog 93 10 = some 10 := kf
@[go_sem] theorem Ze5 : ZY Tryd.prog 93 11 = some 11 := kf
@[go_sem] theorem ZeK : ZY Tryd.prog 93 12 = some 12 := kf
@[go_sem] theorem Zgx : ZY Tryd.prog 93 13 = some 13 := kf
@[go_sem] theorem Znp : tpl Tryd.prog 93 = some (plL [(0, 1), (1, 1), (2, 1), (3, 1), (4, 1), (5, 1), (6, 1), (7, 1), (8, 1), (9, 1), (10, 1), (11, 1), (12, 1), (13, 1)]) := kf
@[go_sem] theorem Zia : ZR Tryd.prog 93 = some [.str [], .int .i64 0, .int .i64 0, .int .i64 0, .list true [], .int .i64 0, .int .i64 0, .int .i64 0, .int .i64 0, .int .i64 0, .int .i64 0, .int .i64 0, .int .i64 0, .int .i64 0] := kf
@[go_sem] theorem Zm2 : tsz Tryd.prog 95 = some 1 := kf
@[go_sem] theorem Zmr : Xs Tryd.prog 95 = some false := kf
@[go_sem] theorem Zm3 : tsz Tryd.prog 97 = some 1 := kf
@[go_sem] theorem ZmF : Xs Tryd.prog 97 = some false := kf
@[go_sem] theorem Zmz : YJ Tryd.prog 97 = some (none, 1) := kf
@[go_sem] theorem Zim : ZY Tryd.prog 99 0 = some 0 := kf
@[go_sem] theorem ZiV : ZY Tryd.prog 99 1 = some 6 := kf
@[go_sem] theorem ZhZ : ZY Tryd.prog 99 2 = some 7 := kf
@[go_sem] theorem Zib : ZY Tryd.prog 99 3 = some 8 := kf
@[go_sem] theorem ZhK : ZY Tryd.prog 99 4 = some 9 := kf
@[go_sem] theorem Zm4 : tpl Tryd.prog 99 = some (plL [(0, 6), (6, 1), (7, 1), (8, 1), (9, 1)]) := kf
@[go_sem] theorem ZhM : ZR Tryd.prog 99 = some [.list true [], .list true [], .list true [], .list true [], .list true [], .list true [], .list true [], .list true [], .nilm, .int .i64 0] := kf
@[go_sem] theorem ZmH : tsz Tryd.prog 103 = some 4 := kf
@[go_sem] theorem Zkz : Xs Tryd.prog 103 = some true := kf
@[go_sem] theorem Zf1 : ZY Tryd.prog 103 0 = some 0 := kf
@[go_sem] theorem Ze8 : ZY Tryd.prog 103 1 = some 1 := kf
@[go_sem] theorem ZgI : ZY Tryd.prog 103 2 = some 2 := kf
@[go_sem] theorem Zgw : ZY Tryd.prog 103 3 = some 3 := kf
@[go_sem] theorem ZmU : tpl Tryd.prog 103 = some (plL [(0, 1), (1, 1), (2, 1), (3, 1)]) := kf
@[go_sem] theorem ZeT : ZR Tryd.prog 103 = some [.int .i64 0, .int .i64 0, .int .i64 0, .int .i64 0] := kf
@[go_sem] theorem Zl2 : Tryd.prog.underlying 119 = some (.int .u64) := kf
@[go_sem] theorem Zmq : Tryd.prog.underlying 123 = some (.slice 128) := kf
@[go_sem] theorem Zlt : tsz Tryd.prog 123 = some 1 := kf
@[go_sem] theorem ZjT : Xs Tryd.prog 123 = some false := kf
@[go_sem] theorem Zkd : YJ Tryd.prog 123 = some (none, 2) := kf
@[go_sem] theorem Zl8 : tsz Tryd.prog 125 = some 6 := kf
@[go_sem] theorem Zkg : Xs Tryd.prog 125 = some true := kf
@[go_sem] theorem Zgd : ZY Tryd.prog 125 0 = some 0 := kf
@[go_sem] theorem Zfv : ZY Tryd.prog 125 1 = some 1 := kf
@[go_sem] theorem ZeX : ZY Tryd.prog 125 2 = some 2 := kf
@[go_sem] theorem ZeE : ZY Tryd.prog 125 3 = some 3 := kf
@[go_sem] theorem Zfd : ZY Tryd.prog 125 4 = some 4 := kf
@[go_sem] theorem Zfa : ZY Tryd.prog 125 5 = some 5 := kf
@[go_sem] theorem ZeC : ZR Tryd.prog 125 = some [.int .i64 0, .int .i64 0, .int .i64 0, .int .i64 0, .list true [], .list true []] := kf
@[go_sem] theorem Zmo : tsz Tryd.prog 128 = some 2 := kf
@[go_sem] theorem Zkw : Xs Tryd.prog 128 = some true := kf
@[go_sem] theorem ZeA : ZY Tryd.prog 128 0 = some 0 := kf
@[go_sem] theorem ZgD : ZY Tryd.prog 128 1 = some 1 := kf
@[go_sem] theorem Zfr : ZR Tryd.prog 128 = some [.int .i64 0, .int .i64 0] := kf
@[go_sem] theorem Zlw : Tryd.prog.underlying 131 = some (.slice 5) := kf
@[go_sem] theorem Zjz : UW Tryd.prog 131 = some 1 := kf
@[go_sem] theorem ZjP : YJ Tryd.prog 133 = some ((some 2), 1) := kf
@[go_sem] theorem ZlP : tsz Tryd.prog 138 = some 2 := kf
@[go_sem] theorem Zjk : Xs Tryd.prog 138 = some true := kf
@[go_sem] theorem ZlK : tpl Tryd.prog 138 = some (plL [(0, 1), (1, 1)]) := kf
@[go_sem] theorem Zgg : ZR Tryd.prog 138 = some [.int .i64 0, .int .i64 0] := kf
@[go_sem] theorem ZlV : Tryd.prog.underlying 139 = some (.array 4 3) := kf
@[go_sem] theorem ZmI : tsz Tryd.prog 139 = some 4 := kf
@[go_sem] theorem Zkl : Xs Tryd.prog 139 = some true := kf
@[go_sem] theorem ZmD : tpl Tryd.prog 139 = some (plA 1) := kf
@[go_sem] theorem ZfN : ZR Tryd.prog 139 = some [.int .i64 0, .int .i64 0, .int .i64 0, .int .i64 0] := kf
@[go_sem] theorem Zkv : YJ Tryd.prog 167 = some ((some 64), 1) := kf
theorem Zn1 : Zl Tryd.prog 4 := fun args w => Tryd.call4 args w
theorem Znz : Zl Tryd.prog 5 := fun args w => Tryd.call5 args w
theorem Znn : Zl Tryd.prog 6 := fun args w => Tryd.call6 args w
theorem ZnU : Zl Tryd.prog 7 := fun args w => Tryd.call7 args w
theorem ZnX : Zl Tryd.prog 9 := fun args w => Tryd.call9 args w
theorem ZkU : Zl Tryd.prog 12 := fun args w => Tryd.call12 args w
theorem Zkh : Zl Tryd.prog 13 := fun args w => Tryd.call13 args w
theorem Zjr : Zl Tryd.prog 14 := fun args w => Tryd.call14 args w
theorem Zkb : Zl Tryd.prog 15 := fun args w => Tryd.call15 args w
theorem Zjy : Zl Tryd.prog 16 := fun args w => Tryd.call16 args w
theorem Zj6 : Zl Tryd.prog 17 := fun args w => Tryd.call17 args w
theorem Zjw : Zl Tryd.prog 18 := fun args w => Tryd.call18 args w
theorem Zj0 : Zl Tryd.prog 19 := fun args w => Tryd.call19 args w
theorem ZkB : Zl Tryd.prog 20 := fun args w => Tryd.call20 args w
theorem Zj5 : Zl Tryd.prog 21 := fun args w => Tryd.call21 args w
theorem ZkK : Zl Tryd.prog 23 := fun args w => Tryd.call23 args w
theorem Zf9 : Zl Tryd.prog 24 := fun args w => Tryd.call24 args w
theorem ZjQ : Zl Tryd.prog 25 := fun args w => Tryd.call25 args w
theorem ZjY : Zl Tryd.prog 26 := fun args w => Tryd.call26 args w
theorem Zj9 : Zl Tryd.prog 27 := fun args w => Tryd.call27 args w
theorem Zjh : Zl Tryd.prog 28 := fun args w => Tryd.call28 args w
theorem Zje : Zl Tryd.prog 31 := fun args w => Tryd.call31 args w
theorem ZkD : Zl Tryd.prog 32 := fun args w => Tryd.call32 args w
theorem Zk6 : Zl Tryd.prog 33 := fun args w => Tryd.call33 args w
theorem Zkj : Zl Tryd.prog 34 := fun args w => Tryd.call34 args w
theorem Zli : Zl Tryd.prog 35 := fun args w => Tryd.call35 args w
theorem ZkL : Zl Tryd.prog 36 := fun args w => Tryd.call36 args w
theorem Zku : Zl Tryd.prog 37 := fun args w => Tryd.call37 args w
theorem ZjS : Zl Tryd.prog 38 := fun args w => Tryd.call38 args w
theorem Zjs : Zl Tryd.prog 39 := fun args w => Tryd.call39 args w
theorem Zke : Zl Tryd.prog 40 := fun args w => Tryd.call40 args w
theorem ZkT : Zl Tryd.prog 41 := fun args w => Tryd.call41 args w
theorem ZkY : Zl Tryd.prog 42 := fun args w => Tryd.call42 args w
theorem Zk1 : Zl Tryd.prog 43 := fun args w => Tryd.call43 args w
theorem Zk0 : Zl Tryd.prog 44 := fun args w => Tryd.call44 args w
theorem ZjK : Zl Tryd.prog 45 := fun args w => Tryd.call45 args w
theorem Zka : Zl Tryd.prog 46 := fun args w => Tryd.call46 args w
theorem ZjW : Zl Tryd.prog 51 := fun args w => Tryd.call51 args w
theorem Zjx : Zl Tryd.prog 52 := fun args w => Tryd.call52 args w
theorem ZjV : Zl Tryd.prog 54 := fun args w => Tryd.call54 args w
theorem Zkk : Zl Tryd.prog 55 := fun args w => Tryd.call55 args w
theorem ZkV : Zl Tryd.prog 56 := fun args w => Tryd.call56 args w
theorem Zlm : Zl Tryd.prog 57 := fun args w => Tryd.call57 args w
theorem Zlk : Zl Tryd.prog 58 := fun args w => Tryd.call58 args w
theorem Zjb : Zl Tryd.prog 59 := fun args w => Tryd.call59 args w
theorem Zkx : Zl Tryd.prog 60 := fun args w => Tryd.call60 args w
theorem Zk8 : Zl Tryd.prog 61 := fun args w => Tryd.call61 args w
theorem Zjm : Zl Tryd.prog 62 := fun args w => Tryd.call62 args w
theorem Zjf : Zl Tryd.prog 63 := fun args w => Tryd.call63 args w
theorem Zld : Zl Tryd.prog 64 := fun args w => Tryd.call64 args w
theorem Zjv : Zl Tryd.prog 65 := fun args w => Tryd.call65 args w
theorem Zja : Zl Tryd.prog 66 := fun args w => Tryd.call66 args w
theorem Zlc : Zl Tryd.prog 67 := fun args w => Tryd.call67 args w
theorem Yu : Zl Tryd.prog 85 := fun args w => Tryd.call85 args w
theorem ZjI : Zl Tryd.prog 86 := fun args w => Tryd.call86 args w
theorem ZjJ : Zl Tryd.prog 87 := fun args w => Tryd.call87 args w
theorem mixed : Tryd.prog.follows .mixedOrders = true := by kernel_rfl
end Go.Proofs.YtcdoglogglbemaaDoor.K
