/- Declarations that the closing texts need, part 5: joined by tools/slim.py. -/
import Derived.Test.YtkhgmjdijnmhbaaDoorZ4
import Derived.KernelRfl
import Derived.Test.YtkhgmjdijnmhbaaDoorProg
namespace Go.Proofs.YtkhgmjdijnmhbaaDoor.K
open Go Go.AM Go.Proofs
abbrev PC (f : FuncId) (a : List V) (y : PV) := ACalls Tryd.prog f a [] fun x H' => x = .p y /\ H' = []
abbrev PT (f : FuncId) (a : List V) (b : List V) := ACalls Tryd.prog f a [] fun x H' => x = .tup b /\ H' = []
theorem kf {α : Type} {a b : α} (h : a = b := by kernel_rfl) : a = b := Eq.trans h rfl
@[go_sem] theorem ZrE : Tryd.prog.underlying 3 = some (.int .i64) := kf
@[go_sem] theorem ZrF : tsz Tryd.prog 3 = some 1 := kf
@[go_sem] theorem Zrg : Xj Tryd.prog 3 = some false := kf
@[go_sem] theorem Zmr : ZR Tryd.prog 3 = some [.int .i64 0] := kf
@[go_sem] theorem ZrD : Tryd.prog.underlying 4 = some .bool := kf
@[go_sem] theorem ZrB : tsz Tryd.prog 4 = some 1 := kf
@[go_sem] theorem Zrm : Xj Tryd.prog 4 = some false := kf
@[go_sem] theorem Zrz : Tryd.prog.underlying 5 = some (.int .u8) := kf
@[go_sem] theorem ZrA : tsz Tryd.prog 5 = some 1 := kf
@[go_sem] theorem ZqY : Xj Tryd.prog 5 = some false := kf
@[go_sem] theorem ZrG : Tryd.prog.underlying 9 = some .string := kf
@[go_sem] theorem ZrC : tsz Tryd.prog 9 = some 1 := kf
@[go_sem] theorem ZqD : Xj Tryd.prog 9 = some false := kf
@[go_sem] theorem Zqp : Tryd.prog.underlying 22 = some (.slice 9) := kf
@[go_sem] theorem Zqx : tsz Tryd.prog 22 = some 1 := kf
@[go_sem] theorem Zqi : Xj Tryd.prog 22 = some false := kf
@[go_sem] theorem Zqd : YR Tryd.prog 22 = some (none, 1) := kf
@[go_sem] theorem ZpK : Jo Tryd.prog 22 = some 1 := kf
@[go_sem] theorem Zrl : Tryd.prog.underlying 23 = some (.slice 125) := kf
@[go_sem] theorem Zq7 : tsz Tryd.prog 23 = some 1 := kf
@[go_sem] theorem ZoK : Xj Tryd.prog 23 = some false := kf
@[go_sem] theorem Zpj : YR Tryd.prog 23 = some (none, 6) := kf
@[go_sem] theorem Zra : tsz Tryd.prog 25 = some 2 := kf
@[go_sem] theorem ZoJ : Xj Tryd.prog 25 = some true := kf
@[go_sem] theorem Zls : ZT Tryd.prog 25 0 = some 0 := kf
@[go_sem] theorem ZlJ : ZT Tryd.prog 25 1 = some 1 := kf
@[go_sem] theorem Zq9 : tpl Tryd.prog 25 = some (plL [(0, 1), (1, 1)]) := kf
@[go_sem] theorem ZkA : ZR Tryd.prog 25 = some [.list true [], .list true []] := kf
@[go_sem] theorem Zrc : Tryd.prog.underlying 26 = some (.slice 93) := kf
@[go_sem] theorem ZqO : tsz Tryd.prog 26 = some 1 := kf
@[go_sem] theorem ZpE : Xj Tryd.prog 26 = some false := kf
@[go_sem] theorem Zo5 : YR Tryd.prog 26 = some (none, 14) := kf
@[go_sem] theorem ZpW : Jo Tryd.prog 26 = some 14 := kf
@[go_sem] theorem Zro : Tryd.prog.underlying 27 = some (.slice 83) := kf
@[go_sem] theorem ZqU : tsz Tryd.prog 27 = some 1 := kf
@[go_sem] theorem Zo9 : Xj Tryd.prog 27 = some false := kf
@[go_sem] theorem Zpl : YR Tryd.prog 27 = some (none, 16) := kf
@[go_sem] theorem ZpC : Jo Tryd.prog 27 = some 16 := kf
@[go_sem] theorem Zjd : Zb3 Tryd.prog 27 = some (16, 152) := kf
@[go_sem] theorem Zkv (H : List AM.Obj) (u : TypeId) (o n : Nat) (y : V) : UG Tryd.prog H 27 u (.sl o 0 n n) y = QL H (some (16, 152)) (oat H o) o n (Wv (Tryd.prog.underlying u) H y) := Yq Zjd
@[go_sem] theorem Zrv : Tryd.prog.underlying 28 = some (.slice 133) := kf
@[go_sem] theorem Zqo : tsz Tryd.prog 28 = some 1 := kf
@[go_sem] theorem ZoI : Xj Tryd.prog 28 = some false := kf
@[go_sem] theorem ZoS : YR Tryd.prog 28 = some (none, 2) := kf
@[go_sem] theorem ZqP : tsz Tryd.prog 30 = some 6 := kf
@[go_sem] theorem Zoz : Xj Tryd.prog 30 = some true := kf
@[go_sem] theorem ZjI : ZT Tryd.prog 30 0 = some 0 := kf
@[go_sem] theorem Zjx : ZT Tryd.prog 30 1 = some 2 := kf
@[go_sem] theorem Zjw : ZT Tryd.prog 30 2 = some 3 := kf
@[go_sem] theorem Zjv : ZT Tryd.prog 30 3 = some 4 := kf
@[go_sem] theorem Zlx : ZT Tryd.prog 30 4 = some 5 := kf
@[go_sem] theorem ZqZ : tpl Tryd.prog 30 = some (plL [(0, 2), (2, 1), (3, 1), (4, 1), (5, 1)]) := kf
@[go_sem] theorem ZjG : ZR Tryd.prog 30 = some [.list true [], .list true [], .list true [], .list true [], .list true [], .list true []] := kf
@[go_sem] theorem ZqL : Tryd.prog.underlying 31 = some (.slice 51) := kf
@[go_sem] theorem Zrb : tsz Tryd.prog 31 = some 1 := kf
@[go_sem] theorem Zo7 : Xj Tryd.prog 31 = some false := kf
@[go_sem] theorem Zpd : YR Tryd.prog 31 = some (none, 7) := kf
@[go_sem] theorem ZoY : Jo Tryd.prog 31 = some 7 := kf
@[go_sem] theorem Zg9 : Zb3 Tryd.prog 31 = some (7, 88) := kf
@[go_sem] theorem ZlR (H : List AM.Obj) (u : TypeId) (o n : Nat) (y : V) : UG Tryd.prog H 31 u (.sl o 0 n n) y = QL H (some (7, 88)) (oat H o) o n (Wv (Tryd.prog.underlying u) H y) := Yq Zg9
@[go_sem] theorem Zqm : Tryd.prog.underlying 32 = some (.slice 85) := kf
@[go_sem] theorem Zqc : YR Tryd.prog 32 = some (none, 2) := kf
@[go_sem] theorem Zps : Jo Tryd.prog 32 = some 2 := kf
@[go_sem] theorem ZhY : Zb3 Tryd.prog 32 = some (2, 24) := kf
@[go_sem] theorem Zkd (H : List AM.Obj) (u : TypeId) (o n : Nat) (y : V) : UG Tryd.prog H 32 u (.sl o 0 n n) y = QL H (some (2, 24)) (oat H o) o n (Wv (Tryd.prog.underlying u) H y) := Yq ZhY
@[go_sem] theorem Zqy : tsz Tryd.prog 35 = some 1 := kf
@[go_sem] theorem ZpN : Xj Tryd.prog 35 = some false := kf
@[go_sem] theorem Zqu : Tryd.prog.underlying 38 = some (.slice 49) := kf
@[go_sem] theorem Zqt : tsz Tryd.prog 38 = some 1 := kf
@[go_sem] theorem Zos : Xj Tryd.prog 38 = some false := kf
@[go_sem] theorem Zqg : YR Tryd.prog 38 = some (none, 4) := kf
@[go_sem] theorem ZpT : Jo Tryd.prog 38 = some 4 := kf
@[go_sem] theorem Zjc : Zb3 Tryd.prog 38 = some (4, 64) := kf
@[go_sem] theorem ZlQ (H : List AM.Obj) (u : TypeId) (o n : Nat) (y : V) : UG Tryd.prog H 38 u (.sl o 0 n n) y = QL H (some (4, 64)) (oat H o) o n (Wv (Tryd.prog.underlying u) H y) := Yq Zjc
@[go_sem] theorem ZqE : Tryd.prog.underlying 39 = some (.slice 3) := kf
@[go_sem] theorem ZqF : tsz Tryd.prog 39 = some 1 := kf
@[go_sem] theorem Zo6 : Xj Tryd.prog 39 = some false := kf
@[go_sem] theorem Zqj : YR Tryd.prog 39 = some (none, 1) := kf
@[go_sem] theorem Zpk : Jo Tryd.prog 39 = some 1 := kf
@[go_sem] theorem Zdw : Zb3 Tryd.prog 39 = some (1, 8) := kf
@[go_sem] theorem ZlE (H : List AM.Obj) (u : TypeId) (y : V) : UG Tryd.prog H 39 u (.p (.list true [])) y = ZgB H (some (1, 8)) (Wv (Tryd.prog.underlying u) H y) := Zdh Zdw
@[go_sem] theorem Zkx (H : List AM.Obj) (u : TypeId) (o n : Nat) (y : V) : UG Tryd.prog H 39 u (.sl o 0 n n) y = QL H (some (1, 8)) (oat H o) o n (Wv (Tryd.prog.underlying u) H y) := Yq Zdw
@[go_sem] theorem ZqS : tsz Tryd.prog 41 = some 2 := kf
@[go_sem] theorem ZoF : Xj Tryd.prog 41 = some true := kf
@[go_sem] theorem ZkV : ZT Tryd.prog 41 0 = some 0 := kf
@[go_sem] theorem ZkL : ZT Tryd.prog 41 1 = some 1 := kf
@[go_sem] theorem ZqV : tpl Tryd.prog 41 = some (plL [(0, 1), (1, 1)]) := kf
@[go_sem] theorem ZjR : ZR Tryd.prog 41 = some [.list true [], .list true []] := kf
@[go_sem] theorem Zrw : Tryd.prog.underlying 46 = some (.slice 4) := kf
@[go_sem] theorem ZqX : tsz Tryd.prog 46 = some 1 := kf
@[go_sem] theorem Zqe : Xj Tryd.prog 46 = some false := kf
@[go_sem] theorem Zow : YR Tryd.prog 46 = some (none, 1) := kf
@[go_sem] theorem Zrs : Tryd.prog.underlying 47 = some (.slice 157) := kf
@[go_sem] theorem Zq2 : tsz Tryd.prog 47 = some 1 := kf
@[go_sem] theorem Zo1 : Xj Tryd.prog 47 = some false := kf
@[go_sem] theorem Zqf : YR Tryd.prog 47 = some (none, 2) := kf
@[go_sem] theorem ZqQ : tsz Tryd.prog 49 = some 4 := kf
@[go_sem] theorem Zpo : Xj Tryd.prog 49 = some true := kf
@[go_sem] theorem Zj9 : ZT Tryd.prog 49 0 = some 0 := kf
@[go_sem] theorem ZjB : ZT Tryd.prog 49 1 = some 1 := kf
@[go_sem] theorem ZkE : ZT Tryd.prog 49 2 = some 2 := kf
@[go_sem] theorem ZkP : ZT Tryd.prog 49 3 = some 3 := kf
@[go_sem] theorem ZqI : tsz Tryd.prog 51 = some 7 := kf
@[go_sem] theorem ZoM : Xj Tryd.prog 51 = some true := kf
@[go_sem] theorem Zk1 : ZT Tryd.prog 51 0 = some 0 := kf
@[go_sem] theorem Zjo : ZT Tryd.prog 51 1 = some 1 := kf
@[go_sem] theorem ZkQ : ZT Tryd.prog 51 2 = some 2 := kf
@[go_sem] theorem Zjz : ZT Tryd.prog 51 3 = some 3 := kf
@[go_sem] theorem ZqN : tpl Tryd.prog 51 = some (plL [(0, 1), (1, 1), (2, 1), (3, 4)]) := kf
@[go_sem] theorem Zlz : ZR Tryd.prog 51 = some [.int .i64 0, .int .i64 0, .int .i64 0, .int .i64 0, .int .i64 0, .list true [], .list true []] := kf
@[go_sem] theorem ZpQ : YR Tryd.prog 65 = some ((some 6), 1) := kf
@[go_sem] theorem Zqq : tsz Tryd.prog 67 = some 8 := kf
@[go_sem] theorem ZpM : Xj Tryd.prog 67 = some true := kf
@[go_sem] theorem Zll : ZT Tryd.prog 67 0 = some 0 := kf
@[go_sem] theorem ZlH : ZT Tryd.prog 67 1 = some 1 := kf
@[go_sem] theorem Zkp : ZT Tryd.prog 67 2 = some 2 := kf
@[go_sem] theorem Zq3 : tpl Tryd.prog 67 = some (plL [(0, 1), (1, 1), (2, 6)]) := kf
@[go_sem] theorem ZjE : ZR Tryd.prog 67 = some [.int .i64 0, .int .i64 0, .int .i64 0, .int .i64 0, .int .i64 0, .int .i64 0, .int .i64 0, .int .i64 0] := kf
@[go_sem] theorem Zrt : tsz Tryd.prog 70 = some 3 := kf
@[go_sem] theorem ZpO : Xj Tryd.prog 70 = some true := kf
@[go_sem] theorem ZkW : ZT Tryd.prog 70 0 = some 0 := kf
@[go_sem] theorem ZlD : ZT Tryd.prog 70 1 = some 1 := kf
@[go_sem] theorem ZlL : ZT Tryd.prog 70 2 = some 2 := kf
@[go_sem] theorem ZqB : tpl Tryd.prog 70 = some (plL [(0, 1), (1, 1), (2, 1)]) := kf
@[go_sem] theorem ZjW : ZR Tryd.prog 70 = some [.bool false, .list true [], .int .i64 0] := kf
@[go_sem] theorem Zq4 : tsz Tryd.prog 81 = some 4 := kf
@[go_sem] theorem ZpJ : Xj Tryd.prog 81 = some true := kf
@[go_sem] theorem Zkf : ZT Tryd.prog 81 0 = some 0 := kf
@[go_sem] theorem Zjn : ZT Tryd.prog 81 1 = some 1 := kf
@[go_sem] theorem ZkF : ZT Tryd.prog 81 2 = some 2 := kf
@[go_sem] theorem Zk0 : ZT Tryd.prog 81 3 = some 3 := kf
@[go_sem] theorem Zrh : tpl Tryd.prog 81 = some (plL [(0, 1), (1, 1), (2, 1), (3, 1)]) := kf
@[go_sem] theorem Zkm : ZR Tryd.prog 81 = some [.int .i64 0, .int .i64 0, .int .i64 0, .int .i64 0] := kf
@[go_sem] theorem Zq0 : tsz Tryd.prog 83 = some 16 := kf
@[go_sem] theorem Zpx : Xj Tryd.prog 83 = some true := kf
@[go_sem] theorem Zkn : ZT Tryd.prog 83 0 = some 0 := kf
@[go_sem] theorem Zld : ZT Tryd.prog 83 1 = some 1 := kf
@[go_sem] theorem ZlC : ZT Tryd.prog 83 2 = some 2 := kf
@[go_sem] theorem ZjZ : ZT Tryd.prog 83 3 = some 6 := kf
@[go_sem] theorem Zlt : ZT Tryd.prog 83 4 = some 10 := kf
@[go_sem] theorem ZjL : ZT Tryd.prog 83 5 = some 11 := kf
@[go_sem] theorem Zk7 : ZT Tryd.prog 83 6 = some 12 := kf
@[go_sem] theorem ZkU : ZT Tryd.prog 83 7 = some 13 := kf
@[go_sem] theorem Zju : ZT Tryd.prog 83 8 = some 14 := kf
@[go_sem] theorem Zlo : ZT Tryd.prog 83 9 = some 15 := kf
@[go_sem] theorem ZqA : tpl Tryd.prog 83 = some (plL [(0, 1), (1, 1), (2, 4), (6, 4), (10, 1), (11, 1), (12, 1), (13, 1), (14, 1), (15, 1)]) := kf
@[go_sem] theorem ZkI : ZR Tryd.prog 83 = some [.str [], .list true [], .int .i64 0, .int .i64 0, .int .i64 0, .int .i64 0, .int .i64 0, .int .i64 0, .int .i64 0, .int .i64 0, .int .i64 0, .int .i64 0, .int .i64 0, .int .i64 0, .int .i64 0, .bool false] := kf
@[go_sem] theorem ZjD : ZT Tryd.prog 85 0 = some 0 := kf
@[go_sem] theorem ZjT : ZT Tryd.prog 85 1 = some 1 := kf
@[go_sem] theorem Zrj : tpl Tryd.prog 85 = some (plL [(0, 1), (1, 1)]) := kf
@[go_sem] theorem Zk4 : ZR Tryd.prog 85 = some [.int .i64 0, .str []] := kf
@[go_sem] theorem Zqs : Tryd.prog.underlying 88 = some (.slice 35) := kf
@[go_sem] theorem ZpU : YR Tryd.prog 88 = some (none, 1) := kf
@[go_sem] theorem ZoG : Jo Tryd.prog 88 = some 1 := kf
@[go_sem] theorem Zhk : Zb3 Tryd.prog 88 = some (1, 8) := kf
@[go_sem] theorem Zlk (H : List AM.Obj) (u : TypeId) (o n : Nat) (y : V) : UG Tryd.prog H 88 u (.sl o 0 n n) y = QL H (some (1, 8)) (oat H o) o n (Wv (Tryd.prog.underlying u) H y) := Yq Zhk
@[go_sem] theorem Zqv : tsz Tryd.prog 93 = some 14 := kf
@[go_sem] theorem Zpq : Xj Tryd.prog 93 = some true := kf
@[go_sem] theorem Zki : ZT Tryd.prog 93 0 = some 0 := kf
@[go_sem] theorem Zly : ZT Tryd.prog 93 1 = some 1 := kf
@[go_sem] theorem ZjP : ZT Tryd.prog 93 2 = some 2 := kf
@[go_sem] theorem ZjM : ZT Tryd.prog 93 3 = some 3 := kf
@[go_sem] theorem ZkS : ZT Tryd.prog 93 4 = some 4 := kf
@[go_sem] theorem ZkZ : ZT Tryd.prog 93 5 = some 5 := kf
@[go_sem] theorem Zko : ZT Tryd.prog 93 6 = some 6 := kf
@[go_sem] theorem Zj0 : ZT Tryd.prog 93 7 = some 7 := kf
@[go_sem] theorem ZjU : ZT Tryd.prog 93 8 = some 8 := kf
@[go_sem] theorem ZjJ : ZT Tryd.prog 93 9 = some 9 := kf
@[go_sem] theorem Zh7 : ZT Tryd.prog 93 10 = some 10 := kf
@[go_sem] theorem Ziu : ZT Tryd.prog 93 11 = some 11 := kf
@[go_sem] theorem Zhy : ZT Tryd.prog 93 12 = some 12 := kf
@[go_sem] theorem Zhl : ZT Tryd.prog 93 13 = some 13 := kf
@[go_sem] theorem Zqn : tpl Tryd.prog 93 = some (plL [(0, 1), (1, 1), (2, 1), (3, 1), (4, 1), (5, 1), (6, 1), (7, 1), (8, 1), (9, 1), (10, 1), (11, 1), (12, 1), (13, 1)]) := kf
@[go_sem] theorem ZkX : ZR Tryd.prog 93 = some [.str [], .int .i64 0, .int .i64 0, .int .i64 0, .list true [], .int .i64 0, .int .i64 0, .int .i64 0, .int .i64 0, .int .i64 0, .int .i64 0, .int .i64 0, .int .i64 0, .int .i64 0] := kf
@[go_sem] theorem Zqz : tsz Tryd.prog 95 = some 1 := kf
@[go_sem] theorem ZoX : Xj Tryd.prog 95 = some false := kf
@[go_sem] theorem ZqG : tsz Tryd.prog 97 = some 1 := kf
@[go_sem] theorem Zp9 : Xj Tryd.prog 97 = some false := kf
@[go_sem] theorem Zpv : YR Tryd.prog 97 = some (none, 1) := kf
@[go_sem] theorem Zjq : ZT Tryd.prog 99 0 = some 0 := kf
@[go_sem] theorem Zks : ZT Tryd.prog 99 1 = some 6 := kf
@[go_sem] theorem Zkj : ZT Tryd.prog 99 2 = some 7 := kf
@[go_sem] theorem Zjt : ZT Tryd.prog 99 3 = some 8 := kf
@[go_sem] theorem Zku : ZT Tryd.prog 99 4 = some 9 := kf
@[go_sem] theorem ZqM : tpl Tryd.prog 99 = some (plL [(0, 6), (6, 1), (7, 1), (8, 1), (9, 1)]) := kf
@[go_sem] theorem Zk6 : ZR Tryd.prog 99 = some [.list true [], .list true [], .list true [], .list true [], .list true [], .list true [], .list true [], .list true [], .nilm, .int .i64 0] := kf
@[go_sem] theorem Zo4 : tsz Tryd.prog 103 = some 4 := kf
@[go_sem] theorem Zm9 : Xj Tryd.prog 103 = some true := kf
@[go_sem] theorem Zio : ZT Tryd.prog 103 0 = some 0 := kf
@[go_sem] theorem ZhA : ZT Tryd.prog 103 1 = some 1 := kf
@[go_sem] theorem ZiZ : ZT Tryd.prog 103 2 = some 2 := kf
@[go_sem] theorem ZgI : ZT Tryd.prog 103 3 = some 3 := kf
@[go_sem] theorem Zpz : tpl Tryd.prog 103 = some (plL [(0, 1), (1, 1), (2, 1), (3, 1)]) := kf
@[go_sem] theorem ZiD : ZR Tryd.prog 103 = some [.int .i64 0, .int .i64 0, .int .i64 0, .int .i64 0] := kf
@[go_sem] theorem Zi4 : ZT Tryd.prog 115 0 = some 0 := kf
@[go_sem] theorem Zi3 : ZT Tryd.prog 115 1 = some 6 := kf
@[go_sem] theorem ZiF : ZT Tryd.prog 115 2 = some 7 := kf
@[go_sem] theorem Zpc : tpl Tryd.prog 115 = some (plL [(0, 6), (6, 1), (7, 3)]) := kf
@[go_sem] theorem Zh5 : ZR Tryd.prog 115 = some [.list true [], .list true [], .list true [], .list true [], .list true [], .list true [], .list true [], .bool false, .list true [], .int .i64 0] := kf
@[go_sem] theorem ZoZ : Tryd.prog.underlying 119 = some (.int .u64) := kf
@[go_sem] theorem Zpi : Tryd.prog.underlying 123 = some (.slice 128) := kf
@[go_sem] theorem ZoB : tsz Tryd.prog 123 = some 1 := kf
@[go_sem] theorem Zmi : Xj Tryd.prog 123 = some false := kf
@[go_sem] theorem Znq : YR Tryd.prog 123 = some (none, 2) := kf
@[go_sem] theorem Zqb : tsz Tryd.prog 125 = some 6 := kf
@[go_sem] theorem Zmg : Xj Tryd.prog 125 = some true := kf
@[go_sem] theorem ZiK : ZT Tryd.prog 125 0 = some 0 := kf
@[go_sem] theorem ZiX : ZT Tryd.prog 125 1 = some 1 := kf
@[go_sem] theorem ZgV : ZT Tryd.prog 125 2 = some 2 := kf
@[go_sem] theorem Zho : ZT Tryd.prog 125 3 = some 3 := kf
@[go_sem] theorem ZhZ : ZT Tryd.prog 125 4 = some 4 := kf
@[go_sem] theorem Zie : ZT Tryd.prog 125 5 = some 5 := kf
@[go_sem] theorem Zi6 : ZR Tryd.prog 125 = some [.int .i64 0, .int .i64 0, .int .i64 0, .int .i64 0, .list true [], .list true []] := kf
@[go_sem] theorem Zp3 : tsz Tryd.prog 128 = some 2 := kf
@[go_sem] theorem ZmR : Xj Tryd.prog 128 = some true := kf
@[go_sem] theorem Zi2 : ZT Tryd.prog 128 0 = some 0 := kf
@[go_sem] theorem Zin : ZT Tryd.prog 128 1 = some 1 := kf
@[go_sem] theorem Zg1 : ZR Tryd.prog 128 = some [.int .i64 0, .int .i64 0] := kf
@[go_sem] theorem ZpS : Tryd.prog.underlying 131 = some (.slice 5) := kf
@[go_sem] theorem ZnO : Jo Tryd.prog 131 = some 1 := kf
@[go_sem] theorem Zme : YR Tryd.prog 133 = some ((some 2), 1) := kf
@[go_sem] theorem Zp6 : tsz Tryd.prog 138 = some 2 := kf
@[go_sem] theorem Zni : Xj Tryd.prog 138 = some true := kf
@[go_sem] theorem Zo0 : tpl Tryd.prog 138 = some (plL [(0, 1), (1, 1)]) := kf
@[go_sem] theorem Ziv : ZR Tryd.prog 138 = some [.int .i64 0, .int .i64 0] := kf
@[go_sem] theorem Zo2 : Tryd.prog.underlying 139 = some (.array 4 3) := kf
@[go_sem] theorem ZoH : tsz Tryd.prog 139 = some 4 := kf
@[go_sem] theorem Zno : Xj Tryd.prog 139 = some true := kf
@[go_sem] theorem ZoC : tpl Tryd.prog 139 = some (plA 1) := kf
@[go_sem] theorem Zjf : ZR Tryd.prog 139 = some [.int .i64 0, .int .i64 0, .int .i64 0, .int .i64 0] := kf
@[go_sem] theorem Zpu : tsz Tryd.prog 157 = some 2 := kf
@[go_sem] theorem ZlX : Xj Tryd.prog 157 = some true := kf
@[go_sem] theorem ZcJ : Tryd.prog.stoodInHeld 157 = false := kf
@[go_sem] theorem ZoQ (d : Nat) (a b : List PV) : ZfC Tryd.prog d 157 (Tryd.prog.underlying 157) (.agg a) (.agg b) = ZhN (eqP (VJ Tryd.prog d 3) (apart Tryd.prog 3 a 0) (apart Tryd.prog 3 b 0)) (ZhN (eqP (VJ Tryd.prog d 4) (apart Tryd.prog 4 a 1) (apart Tryd.prog 4 b 1)) (some true)) := by rw [Tryd.underlying157, Jh ZcJ]; simp [ZbB, Zcu]
@[go_sem] theorem Zpy : Tryd.prog.eqGuardType Tryd.prog.depth 157 = false := kf
@[go_sem] theorem Zn7 : YR Tryd.prog 167 = some ((some 64), 1) := kf
theorem ZqC : Zn Tryd.prog 3 := fun args w => Tryd.call3 args w
theorem Zq6 : Zn Tryd.prog 5 := fun args w => Tryd.call5 args w
theorem Zrf : Zn Tryd.prog 6 := fun args w => Tryd.call6 args w
theorem ZqH : Zn Tryd.prog 7 := fun args w => Tryd.call7 args w
theorem Zqr : Zn Tryd.prog 8 := fun args w => Tryd.call8 args w
theorem Zrn : Zn Tryd.prog 9 := fun args w => Tryd.call9 args w
theorem ZlV : Zn Tryd.prog 10 := fun args w => Tryd.call10 args w
theorem ZnK : Zn Tryd.prog 11 := fun args w => Tryd.call11 args w
theorem Zl0 : Zn Tryd.prog 12 := fun args w => Tryd.call12 args w
theorem ZnU : Zn Tryd.prog 13 := fun args w => Tryd.call13 args w
theorem Zmm : Zn Tryd.prog 14 := fun args w => Tryd.call14 args w
theorem ZnG : Zn Tryd.prog 15 := fun args w => Tryd.call15 args w
theorem ZnX : Zn Tryd.prog 16 := fun args w => Tryd.call16 args w
theorem ZnZ : Zn Tryd.prog 17 := fun args w => Tryd.call17 args w
theorem ZnQ : Zn Tryd.prog 18 := fun args w => Tryd.call18 args w
theorem Zob : Zn Tryd.prog 19 := fun args w => Tryd.call19 args w
theorem Znz : Zn Tryd.prog 20 := fun args w => Tryd.call20 args w
theorem Zok : Zn Tryd.prog 21 := fun args w => Tryd.call21 args w
theorem ZmA : Zn Tryd.prog 22 := fun args w => Tryd.call22 args w
theorem ZmJ : Zn Tryd.prog 23 := fun args w => Tryd.call23 args w
theorem Zji : Zn Tryd.prog 24 := fun args w => Tryd.call24 args w
theorem ZnR : Zn Tryd.prog 25 := fun args w => Tryd.call25 args w
theorem ZmB : Zn Tryd.prog 26 := fun args w => Tryd.call26 args w
theorem ZmT : Zn Tryd.prog 27 := fun args w => Tryd.call27 args w
theorem Znj : Zn Tryd.prog 28 := fun args w => Tryd.call28 args w
theorem Zms : Zn Tryd.prog 29 := fun args w => Tryd.call29 args w
theorem Zn6 : Zn Tryd.prog 30 := fun args w => Tryd.call30 args w
theorem Zmz : Zn Tryd.prog 31 := fun args w => Tryd.call31 args w
theorem ZnH : Zn Tryd.prog 32 := fun args w => Tryd.call32 args w
theorem ZmX : Zn Tryd.prog 33 := fun args w => Tryd.call33 args w
theorem Zoi : Zn Tryd.prog 34 := fun args w => Tryd.call34 args w
theorem Znv : Zn Tryd.prog 35 := fun args w => Tryd.call35 args w
theorem ZnM : Zn Tryd.prog 36 := fun args w => Tryd.call36 args w
theorem Znt : Zn Tryd.prog 37 := fun args w => Tryd.call37 args w
theorem ZmF : Zn Tryd.prog 38 := fun args w => Tryd.call38 args w
theorem Zmp : Zn Tryd.prog 39 := fun args w => Tryd.call39 args w
theorem Zmk : Zn Tryd.prog 40 := fun args w => Tryd.call40 args w
theorem Zmn : Zn Tryd.prog 41 := fun args w => Tryd.call41 args w
theorem Zl5 : Zn Tryd.prog 42 := fun args w => Tryd.call42 args w
theorem ZmH : Zn Tryd.prog 43 := fun args w => Tryd.call43 args w
theorem ZmI : Zn Tryd.prog 44 := fun args w => Tryd.call44 args w
theorem ZmO : Zn Tryd.prog 45 := fun args w => Tryd.call45 args w
theorem Zmo : Zn Tryd.prog 46 := fun args w => Tryd.call46 args w
theorem Zn5 : Zn Tryd.prog 47 := fun args w => Tryd.call47 args w
theorem ZhS : Zn Tryd.prog 48 := fun args w => Tryd.call48 args w
theorem ZnW : Zn Tryd.prog 51 := fun args w => Tryd.call51 args w
theorem Zns : Zn Tryd.prog 52 := fun args w => Tryd.call52 args w
theorem ZmL : Zn Tryd.prog 53 := fun args w => Tryd.call53 args w
theorem Zl8 : Zn Tryd.prog 54 := fun args w => Tryd.call54 args w
theorem Zmh : Zn Tryd.prog 55 := fun args w => Tryd.call55 args w
theorem Zng : Zn Tryd.prog 56 := fun args w => Tryd.call56 args w
theorem Zod : Zn Tryd.prog 57 := fun args w => Tryd.call57 args w
theorem Zmc : Zn Tryd.prog 58 := fun args w => Tryd.call58 args w
theorem ZnL : Zn Tryd.prog 59 := fun args w => Tryd.call59 args w
theorem ZnI : Zn Tryd.prog 60 := fun args w => Tryd.call60 args w
theorem Zm6 : Zn Tryd.prog 61 := fun args w => Tryd.call61 args w
theorem Zmw : Zn Tryd.prog 62 := fun args w => Tryd.call62 args w
theorem Znh : Zn Tryd.prog 63 := fun args w => Tryd.call63 args w
theorem Zl2 : Zn Tryd.prog 64 := fun args w => Tryd.call64 args w
theorem Zml : Zn Tryd.prog 65 := fun args w => Tryd.call65 args w
theorem Znu : Zn Tryd.prog 66 := fun args w => Tryd.call66 args w
theorem Zn2 : Zn Tryd.prog 67 := fun args w => Tryd.call67 args w
theorem Zof : Zn Tryd.prog 68 := fun args w => Tryd.call68 args w
theorem ZmV : Zn Tryd.prog 69 := fun args w => Tryd.call69 args w
theorem ZmW : Zn Tryd.prog 70 := fun args w => Tryd.call70 args w
theorem ZmE : Zn Tryd.prog 71 := fun args w => Tryd.call71 args w
theorem Zop : Zn Tryd.prog 72 := fun args w => Tryd.call72 args w
theorem Zol : Zn Tryd.prog 73 := fun args w => Tryd.call73 args w
theorem YK : Zn Tryd.prog 85 := fun args w => Tryd.call85 args w
theorem Zn1 : Zn Tryd.prog 86 := fun args w => Tryd.call86 args w
theorem Zmb : Zn Tryd.prog 87 := fun args w => Tryd.call87 args w
theorem Zmq : Zn Tryd.prog 88 := fun args w => Tryd.call88 args w
theorem mixed : Tryd.prog.follows .mixedOrders = true := by kernel_rfl
end Go.Proofs.YtkhgmjdijnmhbaaDoor.K
