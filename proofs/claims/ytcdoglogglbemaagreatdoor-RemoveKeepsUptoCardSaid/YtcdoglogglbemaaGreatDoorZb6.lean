/- Declarations that the closing texts need, part 6: joined by tools/slim.py. -/
import Derived.Test.YtcdoglogglbemaaGreatDoorZb5
import Derived.KernelRfl
namespace Go.Proofs.YtcdoglogglbemaaGreatDoor.K
open Go Go.AM Go.Proofs
abbrev PC (f : FuncId) (a : List V) (y : PV) := ACalls Tryz.prog f a [] fun x H' => x = .p y /\ H' = []
abbrev PT (f : FuncId) (a : List V) (b : List V) := ACalls Tryz.prog f a [] fun x H' => x = .tup b /\ H' = []
theorem kf {α : Type} {a b : α} (h : a = b := by kernel_rfl) : a = b := Eq.trans h rfl
@[go_sem] theorem ZCi : Tryz.prog.underlying 3 = some (.int .i64) := kf
@[go_sem] theorem ZCj : tsz Tryz.prog 3 = some 1 := kf
@[go_sem] theorem ZBw : XS Tryz.prog 3 = some false := kf
@[go_sem] theorem ZxP : ZU Tryz.prog 3 = some [.int .i64 0] := kf
@[go_sem] theorem ZCk : Tryz.prog.underlying 4 = some .bool := kf
@[go_sem] theorem ZCd : tsz Tryz.prog 4 = some 1 := kf
@[go_sem] theorem ZBr : XS Tryz.prog 4 = some false := kf
@[go_sem] theorem ZCg : Tryz.prog.underlying 5 = some (.int .u8) := kf
@[go_sem] theorem ZCc : Tryz.prog.underlying 9 = some .string := kf
@[go_sem] theorem ZCh : tsz Tryz.prog 9 = some 1 := kf
@[go_sem] theorem ZBN : XS Tryz.prog 9 = some false := kf
@[go_sem] theorem ZBk : Tryz.prog.underlying 22 = some (.slice 9) := kf
@[go_sem] theorem ZA8 : tsz Tryz.prog 22 = some 1 := kf
@[go_sem] theorem ZzJ : XS Tryz.prog 22 = some false := kf
@[go_sem] theorem ZAm : YF Tryz.prog 22 = some (none, 1) := kf
@[go_sem] theorem ZAo : U7 Tryz.prog 22 = some 1 := kf
@[go_sem] theorem ZBt : Tryz.prog.underlying 23 = some (.slice 136) := kf
@[go_sem] theorem ZBX : tsz Tryz.prog 23 = some 1 := kf
@[go_sem] theorem Zzf : XS Tryz.prog 23 = some false := kf
@[go_sem] theorem ZAA : YF Tryz.prog 23 = some (none, 6) := kf
@[go_sem] theorem Zzw : U7 Tryz.prog 23 = some 6 := kf
@[go_sem] theorem ZBE : tsz Tryz.prog 25 = some 2 := kf
@[go_sem] theorem ZAZ : XS Tryz.prog 25 = some true := kf
@[go_sem] theorem ZuI : Z8 Tryz.prog 25 0 = some 0 := kf
@[go_sem] theorem ZtU : Z8 Tryz.prog 25 1 = some 1 := kf
@[go_sem] theorem ZBC : tpl Tryz.prog 25 = some (plL [(0, 1), (1, 1)]) := kf
@[go_sem] theorem ZuQ : ZU Tryz.prog 25 = some [.list true [], .list true []] := kf
@[go_sem] theorem ZBM : Tryz.prog.underlying 26 = some (.slice 96) := kf
@[go_sem] theorem ZBF : tsz Tryz.prog 26 = some 1 := kf
@[go_sem] theorem ZzX : XS Tryz.prog 26 = some false := kf
@[go_sem] theorem ZzE : YF Tryz.prog 26 = some (none, 14) := kf
@[go_sem] theorem Zz7 : U7 Tryz.prog 26 = some 14 := kf
@[go_sem] theorem ZBl : Tryz.prog.underlying 27 = some (.slice 100) := kf
@[go_sem] theorem ZBq : tsz Tryz.prog 27 = some 1 := kf
@[go_sem] theorem Zy3 : XS Tryz.prog 27 = some false := kf
@[go_sem] theorem ZAM : YF Tryz.prog 27 = some (none, 16) := kf
@[go_sem] theorem ZAh : U7 Tryz.prog 27 = some 16 := kf
@[go_sem] theorem ZBy : Tryz.prog.underlying 28 = some (.slice 149) := kf
@[go_sem] theorem ZB2 : tsz Tryz.prog 28 = some 1 := kf
@[go_sem] theorem Zy2 : XS Tryz.prog 28 = some false := kf
@[go_sem] theorem Zz8 : YF Tryz.prog 28 = some (none, 2) := kf
@[go_sem] theorem ZBA : tsz Tryz.prog 30 = some 6 := kf
@[go_sem] theorem ZAN : XS Tryz.prog 30 = some true := kf
@[go_sem] theorem ZvB : Z8 Tryz.prog 30 0 = some 0 := kf
@[go_sem] theorem ZuY : Z8 Tryz.prog 30 1 = some 2 := kf
@[go_sem] theorem Zvj : Z8 Tryz.prog 30 2 = some 3 := kf
@[go_sem] theorem ZuH : Z8 Tryz.prog 30 3 = some 4 := kf
@[go_sem] theorem ZvQ : Z8 Tryz.prog 30 4 = some 5 := kf
@[go_sem] theorem ZBs : tpl Tryz.prog 30 = some (plL [(0, 2), (2, 1), (3, 1), (4, 1), (5, 1)]) := kf
@[go_sem] theorem Zvh : ZU Tryz.prog 30 = some [.list true [], .list true [], .list true [], .list true [], .list true [], .list true []] := kf
@[go_sem] theorem ZCa : Tryz.prog.underlying 31 = some (.slice 44) := kf
@[go_sem] theorem ZA7 : tsz Tryz.prog 31 = some 1 := kf
@[go_sem] theorem ZAD : XS Tryz.prog 31 = some false := kf
@[go_sem] theorem ZAY : YF Tryz.prog 31 = some (none, 4) := kf
@[go_sem] theorem Zy5 : U7 Tryz.prog 31 = some 4 := kf
@[go_sem] theorem Zs9 : Zcu Tryz.prog 31 = some (4, 64) := kf
@[go_sem] theorem ZtS (H : List AM.Obj) (u : TypeId) (o n : Nat) (y : V) : QB Tryz.prog H 31 u (.sl o 0 n n) y = JO H (some (4, 64)) (oat H o) o n (Wa (Tryz.prog.underlying u) H y) := X7 Zs9
@[go_sem] theorem ZA1 : Tryz.prog.underlying 32 = some (.slice 3) := kf
@[go_sem] theorem ZBo : tsz Tryz.prog 32 = some 1 := kf
@[go_sem] theorem ZAX : XS Tryz.prog 32 = some false := kf
@[go_sem] theorem ZtD : YF Tryz.prog 32 = some (none, 1) := kf
@[go_sem] theorem Zzc : U7 Tryz.prog 32 = some 1 := kf
@[go_sem] theorem Zpk : Zcu Tryz.prog 32 = some (1, 8) := kf
@[go_sem] theorem Zun (H : List AM.Obj) (u : TypeId) (o n : Nat) (y : V) : QB Tryz.prog H 32 u (.sl o 0 n n) y = JO H (some (1, 8)) (oat H o) o n (Wa (Tryz.prog.underlying u) H y) := X7 Zpk
@[go_sem] theorem Zly : Zib Tryz.prog 32 = some (1, 8, .int .i64 0) := kf
@[go_sem] theorem ZB6 (H : List AM.Obj) (fr : List V) (x y : Operand) : WQ Tryz.prog (.makeSlice 32 x y) fr H = WL (some (1, 8, .int .i64 0)) H (ev fr x) (ev fr y) := QT Zly
@[go_sem] theorem Zu9 : ZU Tryz.prog 32 = some [.list true []] := kf
@[go_sem] theorem ZA9 : tsz Tryz.prog 34 = some 2 := kf
@[go_sem] theorem ZAu : XS Tryz.prog 34 = some true := kf
@[go_sem] theorem Zt4 : Z8 Tryz.prog 34 0 = some 0 := kf
@[go_sem] theorem Zue : Z8 Tryz.prog 34 1 = some 1 := kf
@[go_sem] theorem ZB9 : tpl Tryz.prog 34 = some (plL [(0, 1), (1, 1)]) := kf
@[go_sem] theorem Zuc : ZU Tryz.prog 34 = some [.list true [], .list true []] := kf
@[go_sem] theorem ZBQ : tsz Tryz.prog 37 = some 1 := kf
@[go_sem] theorem Zzi : XS Tryz.prog 37 = some false := kf
@[go_sem] theorem ZBz : Tryz.prog.underlying 41 = some (.slice 4) := kf
@[go_sem] theorem ZB5 : tsz Tryz.prog 41 = some 1 := kf
@[go_sem] theorem ZAk : XS Tryz.prog 41 = some false := kf
@[go_sem] theorem ZAb : YF Tryz.prog 41 = some (none, 1) := kf
@[go_sem] theorem Zzq : U7 Tryz.prog 41 = some 1 := kf
@[go_sem] theorem Zqh : Zcu Tryz.prog 41 = some (1, 1) := kf
@[go_sem] theorem ZtZ (H : List AM.Obj) (u : TypeId) (y : V) : QB Tryz.prog H 41 u (.p (.list true [])) y = ZmO H (some (1, 1)) (Wa (Tryz.prog.underlying u) H y) := ZcN Zqh
@[go_sem] theorem ZmE : Zib Tryz.prog 41 = some (1, 1, .bool false) := kf
@[go_sem] theorem ZBe (H : List AM.Obj) (fr : List V) (x y : Operand) : WQ Tryz.prog (.makeSlice 41 x y) fr H = WL (some (1, 1, .bool false)) H (ev fr x) (ev fr y) := QT ZmE
@[go_sem] theorem ZBS : Tryz.prog.underlying 42 = some (.slice 73) := kf
@[go_sem] theorem ZB1 : tsz Tryz.prog 42 = some 1 := kf
@[go_sem] theorem Zzb : XS Tryz.prog 42 = some false := kf
@[go_sem] theorem Ztm : YF Tryz.prog 42 = some (none, 2) := kf
@[go_sem] theorem ZAy : U7 Tryz.prog 42 = some 2 := kf
@[go_sem] theorem ZsS : Zcu Tryz.prog 42 = some (2, 16) := kf
@[go_sem] theorem ZvA (H : List AM.Obj) (u : TypeId) (o n : Nat) (y : V) : QB Tryz.prog H 42 u (.sl o 0 n n) y = JO H (some (2, 16)) (oat H o) o n (Wa (Tryz.prog.underlying u) H y) := X7 ZsS
@[go_sem] theorem ZBi : tsz Tryz.prog 44 = some 4 := kf
@[go_sem] theorem Zzm : XS Tryz.prog 44 = some true := kf
@[go_sem] theorem Zt9 : Z8 Tryz.prog 44 0 = some 0 := kf
@[go_sem] theorem Zuf : Z8 Tryz.prog 44 1 = some 1 := kf
@[go_sem] theorem ZvG : Z8 Tryz.prog 44 2 = some 2 := kf
@[go_sem] theorem ZuF : Z8 Tryz.prog 44 3 = some 3 := kf
@[go_sem] theorem ZBJ : tpl Tryz.prog 44 = some (plL [(0, 1), (1, 1), (2, 1), (3, 1)]) := kf
@[go_sem] theorem Zuu : ZU Tryz.prog 44 = some [.int .i64 0, .int .i64 0, .list true [], .list true []] := kf
@[go_sem] theorem ZuZ : Z8 Tryz.prog 49 0 = some 0 := kf
@[go_sem] theorem Zvb : Z8 Tryz.prog 49 1 = some 1 := kf
@[go_sem] theorem Zvi : Z8 Tryz.prog 49 2 = some 2 := kf
@[go_sem] theorem ZB8 : Tryz.prog.underlying 54 = some (.int .u64) := kf
@[go_sem] theorem ZBc : tsz Tryz.prog 58 = some 1 := kf
@[go_sem] theorem ZAG : XS Tryz.prog 58 = some false := kf
@[go_sem] theorem ZBV : Tryz.prog.underlying 64 = some (.slice 183) := kf
@[go_sem] theorem ZzC : YF Tryz.prog 64 = some (none, 2) := kf
@[go_sem] theorem ZAO : U7 Tryz.prog 64 = some 2 := kf
@[go_sem] theorem Zjn : Zcu Tryz.prog 64 = some (2, 24) := kf
@[go_sem] theorem ZvN (H : List AM.Obj) (u : TypeId) (y : V) : QB Tryz.prog H 64 u (.p (.list true [])) y = ZmO H (some (2, 24)) (Wa (Tryz.prog.underlying u) H y) := ZcN Zjn
@[go_sem] theorem ZtQ (H : List AM.Obj) (u : TypeId) (o n : Nat) (y : V) : QB Tryz.prog H 64 u (.sl o 0 n n) y = JO H (some (2, 24)) (oat H o) o n (Wa (Tryz.prog.underlying u) H y) := X7 Zjn
@[go_sem] theorem ZBH : tsz Tryz.prog 73 = some 2 := kf
@[go_sem] theorem ZAd : XS Tryz.prog 73 = some true := kf
@[go_sem] theorem ZuD : Z8 Tryz.prog 73 0 = some 0 := kf
@[go_sem] theorem ZvL : Z8 Tryz.prog 73 1 = some 1 := kf
@[go_sem] theorem ZlV : Tryz.prog.stoodInHeld 73 = false := kf
@[go_sem] theorem ZA2 : tpl Tryz.prog 73 = some (plL [(0, 1), (1, 1)]) := kf
@[go_sem] theorem ZBu (d : Nat) (a b : List PV) : Zju Tryz.prog d 73 (Tryz.prog.underlying 73) (.agg a) (.agg b) = Zkc (eqP (QK Tryz.prog d 3) (apart Tryz.prog 3 a 0) (apart Tryz.prog 3 b 0)) (Zkc (eqP (QK Tryz.prog d 4) (apart Tryz.prog 4 a 1) (apart Tryz.prog 4 b 1)) (some true)) := by rw [Tryz.underlying73, Qs ZlV]; simp [KW, Zct]
@[go_sem] theorem ZBY : Tryz.prog.eqGuardType Tryz.prog.depth 73 = false := kf
@[go_sem] theorem Zvf : ZU Tryz.prog 73 = some [.int .i64 0, .bool false] := kf
@[go_sem] theorem ZBO : tsz Tryz.prog 93 = some 1 := kf
@[go_sem] theorem Zz9 : XS Tryz.prog 93 = some false := kf
@[go_sem] theorem ZBa : tsz Tryz.prog 96 = some 14 := kf
@[go_sem] theorem ZAc : XS Tryz.prog 96 = some true := kf
@[go_sem] theorem Zuw : Z8 Tryz.prog 96 0 = some 0 := kf
@[go_sem] theorem ZvT : Z8 Tryz.prog 96 1 = some 1 := kf
@[go_sem] theorem Zu0 : Z8 Tryz.prog 96 2 = some 2 := kf
@[go_sem] theorem Zvs : Z8 Tryz.prog 96 3 = some 3 := kf
@[go_sem] theorem ZtV : Z8 Tryz.prog 96 4 = some 4 := kf
@[go_sem] theorem Zug : Z8 Tryz.prog 96 5 = some 5 := kf
@[go_sem] theorem ZvK : Z8 Tryz.prog 96 6 = some 6 := kf
@[go_sem] theorem ZtP : Z8 Tryz.prog 96 7 = some 7 := kf
@[go_sem] theorem Zt1 : Z8 Tryz.prog 96 8 = some 8 := kf
@[go_sem] theorem Zuv : Z8 Tryz.prog 96 9 = some 9 := kf
@[go_sem] theorem Zpn : Z8 Tryz.prog 96 10 = some 10 := kf
@[go_sem] theorem ZoW : Z8 Tryz.prog 96 11 = some 11 := kf
@[go_sem] theorem Zss : Z8 Tryz.prog 96 12 = some 12 := kf
@[go_sem] theorem ZrX : Z8 Tryz.prog 96 13 = some 13 := kf
@[go_sem] theorem ZBn : tpl Tryz.prog 96 = some (plL [(0, 1), (1, 1), (2, 1), (3, 1), (4, 1), (5, 1), (6, 1), (7, 1), (8, 1), (9, 1), (10, 1), (11, 1), (12, 1), (13, 1)]) := kf
@[go_sem] theorem Zum : ZU Tryz.prog 96 = some [.str [], .int .i64 0, .int .i64 0, .int .i64 0, .list true [], .int .i64 0, .int .i64 0, .int .i64 0, .int .i64 0, .int .i64 0, .int .i64 0, .int .i64 0, .int .i64 0, .int .i64 0] := kf
@[go_sem] theorem ZBP : tsz Tryz.prog 98 = some 4 := kf
@[go_sem] theorem ZAe : XS Tryz.prog 98 = some true := kf
@[go_sem] theorem ZuC : Z8 Tryz.prog 98 0 = some 0 := kf
@[go_sem] theorem ZuN : Z8 Tryz.prog 98 1 = some 1 := kf
@[go_sem] theorem ZvC : Z8 Tryz.prog 98 2 = some 2 := kf
@[go_sem] theorem Zuz : Z8 Tryz.prog 98 3 = some 3 := kf
@[go_sem] theorem ZBK : tpl Tryz.prog 98 = some (plL [(0, 1), (1, 1), (2, 1), (3, 1)]) := kf
@[go_sem] theorem ZuU : ZU Tryz.prog 98 = some [.int .i64 0, .int .i64 0, .int .i64 0, .int .i64 0] := kf
@[go_sem] theorem ZzM : tsz Tryz.prog 100 = some 16 := kf
@[go_sem] theorem Zyv : XS Tryz.prog 100 = some true := kf
@[go_sem] theorem Zs2 : Z8 Tryz.prog 100 0 = some 0 := kf
@[go_sem] theorem ZnQ : Z8 Tryz.prog 100 1 = some 1 := kf
@[go_sem] theorem Zsv : Z8 Tryz.prog 100 2 = some 2 := kf
@[go_sem] theorem ZoS : Z8 Tryz.prog 100 3 = some 6 := kf
@[go_sem] theorem Ztd : Z8 Tryz.prog 100 4 = some 10 := kf
@[go_sem] theorem ZtE : Z8 Tryz.prog 100 5 = some 11 := kf
@[go_sem] theorem ZnW : Z8 Tryz.prog 100 6 = some 12 := kf
@[go_sem] theorem Zon : Z8 Tryz.prog 100 7 = some 13 := kf
@[go_sem] theorem ZrA : Z8 Tryz.prog 100 8 = some 14 := kf
@[go_sem] theorem Zqz : Z8 Tryz.prog 100 9 = some 15 := kf
@[go_sem] theorem ZzS : tpl Tryz.prog 100 = some (plL [(0, 1), (1, 1), (2, 4), (6, 4), (10, 1), (11, 1), (12, 1), (13, 1), (14, 1), (15, 1)]) := kf
@[go_sem] theorem Zqi : ZU Tryz.prog 100 = some [.str [], .list true [], .int .i64 0, .int .i64 0, .int .i64 0, .int .i64 0, .int .i64 0, .int .i64 0, .int .i64 0, .int .i64 0, .int .i64 0, .int .i64 0, .int .i64 0, .int .i64 0, .int .i64 0, .bool false] := kf
@[go_sem] theorem ZAv : tsz Tryz.prog 115 = some 4 := kf
@[go_sem] theorem Zxb : XS Tryz.prog 115 = some true := kf
@[go_sem] theorem Zp3 : Z8 Tryz.prog 115 0 = some 0 := kf
@[go_sem] theorem Zrx : Z8 Tryz.prog 115 1 = some 1 := kf
@[go_sem] theorem Zsn : Z8 Tryz.prog 115 2 = some 2 := kf
@[go_sem] theorem Zoa : Z8 Tryz.prog 115 3 = some 3 := kf
@[go_sem] theorem Zzd : tpl Tryz.prog 115 = some (plL [(0, 1), (1, 1), (2, 1), (3, 1)]) := kf
@[go_sem] theorem Zpo : ZU Tryz.prog 115 = some [.int .i64 0, .int .i64 0, .int .i64 0, .int .i64 0] := kf
@[go_sem] theorem ZAz : tsz Tryz.prog 133 = some 2 := kf
@[go_sem] theorem ZwY : XS Tryz.prog 133 = some true := kf
@[go_sem] theorem Zoz : Z8 Tryz.prog 133 0 = some 0 := kf
@[go_sem] theorem ZtI : Z8 Tryz.prog 133 1 = some 1 := kf
@[go_sem] theorem ZAn : tpl Tryz.prog 133 = some (plL [(0, 1), (1, 1)]) := kf
@[go_sem] theorem ZoX : ZU Tryz.prog 133 = some [.int .i64 0, .int .i64 0] := kf
@[go_sem] theorem ZzD : Tryz.prog.underlying 134 = some (.slice 133) := kf
@[go_sem] theorem Zz1 : tsz Tryz.prog 134 = some 1 := kf
@[go_sem] theorem ZwD : XS Tryz.prog 134 = some false := kf
@[go_sem] theorem ZxX : YF Tryz.prog 134 = some (none, 2) := kf
@[go_sem] theorem Zyp : U7 Tryz.prog 134 = some 2 := kf
@[go_sem] theorem ZAx : tsz Tryz.prog 136 = some 6 := kf
@[go_sem] theorem ZwQ : XS Tryz.prog 136 = some true := kf
@[go_sem] theorem Zqd : Z8 Tryz.prog 136 0 = some 0 := kf
@[go_sem] theorem Zn5 : Z8 Tryz.prog 136 1 = some 1 := kf
@[go_sem] theorem ZtB : Z8 Tryz.prog 136 2 = some 2 := kf
@[go_sem] theorem Zs0 : Z8 Tryz.prog 136 3 = some 3 := kf
@[go_sem] theorem ZpO : Z8 Tryz.prog 136 4 = some 4 := kf
@[go_sem] theorem Zqw : Z8 Tryz.prog 136 5 = some 5 := kf
@[go_sem] theorem ZzG : tpl Tryz.prog 136 = some (plL [(0, 1), (1, 1), (2, 1), (3, 1), (4, 1), (5, 1)]) := kf
@[go_sem] theorem ZrL : ZU Tryz.prog 136 = some [.int .i64 0, .int .i64 0, .int .i64 0, .int .i64 0, .list true [], .list true []] := kf
@[go_sem] theorem ZAV : tsz Tryz.prog 143 = some 1 := kf
@[go_sem] theorem Zw2 : XS Tryz.prog 143 = some false := kf
@[go_sem] theorem Zsb : ZU Tryz.prog 143 = some [.nilm] := kf
@[go_sem] theorem Zzn : tsz Tryz.prog 149 = some 2 := kf
@[go_sem] theorem Zx3 : XS Tryz.prog 149 = some true := kf
@[go_sem] theorem ZyS : YF Tryz.prog 149 = some ((some 2), 1) := kf
@[go_sem] theorem ZqC : ZU Tryz.prog 149 = some [.int .i64 0, .int .i64 0] := kf
@[go_sem] theorem ZAt : Tryz.prog.underlying 150 = some (.slice 341) := kf
@[go_sem] theorem ZAw : tsz Tryz.prog 150 = some 1 := kf
@[go_sem] theorem ZwH : XS Tryz.prog 150 = some false := kf
@[go_sem] theorem Zyx : YF Tryz.prog 150 = some (none, 4) := kf
@[go_sem] theorem ZwU : U7 Tryz.prog 150 = some 4 := kf
@[go_sem] theorem ZkP : Zcu Tryz.prog 150 = some (4, 32) := kf
@[go_sem] theorem Zse (H : List AM.Obj) (u : TypeId) (o n : Nat) (y : V) : QB Tryz.prog H 150 u (.sl o 0 n n) y = JO H (some (4, 32)) (oat H o) o n (Wa (Tryz.prog.underlying u) H y) := X7 ZkP
@[go_sem] theorem Zzt : tsz Tryz.prog 152 = some 5 := kf
@[go_sem] theorem Zwu : XS Tryz.prog 152 = some true := kf
@[go_sem] theorem Zr1 : Z8 Tryz.prog 152 0 = some 0 := kf
@[go_sem] theorem Zo8 : Z8 Tryz.prog 152 1 = some 1 := kf
@[go_sem] theorem ZrE : Z8 Tryz.prog 152 2 = some 2 := kf
@[go_sem] theorem ZqB : Z8 Tryz.prog 152 3 = some 3 := kf
@[go_sem] theorem Zn2 : Z8 Tryz.prog 152 4 = some 4 := kf
@[go_sem] theorem ZAr : tpl Tryz.prog 152 = some (plL [(0, 1), (1, 1), (2, 1), (3, 1), (4, 1)]) := kf
@[go_sem] theorem Zr4 : ZU Tryz.prog 152 = some [.bool false, .int .i64 0, .list true [], .int .i64 0, .int .i64 0] := kf
@[go_sem] theorem Zz4 : Tryz.prog.underlying 175 = some (.array 4 3) := kf
@[go_sem] theorem ZzK : tsz Tryz.prog 175 = some 4 := kf
@[go_sem] theorem Zwx : XS Tryz.prog 175 = some true := kf
@[go_sem] theorem ZyJ : YF Tryz.prog 175 = some ((some 4), 1) := kf
@[go_sem] theorem Zzx : tpl Tryz.prog 175 = some (plA 1) := kf
@[go_sem] theorem Ztb : ZU Tryz.prog 175 = some [.int .i64 0, .int .i64 0, .int .i64 0, .int .i64 0] := kf
@[go_sem] theorem Zo2 : Z8 Tryz.prog 183 0 = some 0 := kf
@[go_sem] theorem Ztj : Z8 Tryz.prog 183 1 = some 1 := kf
@[go_sem] theorem ZzB : tpl Tryz.prog 183 = some (plL [(0, 1), (1, 1)]) := kf
@[go_sem] theorem Zn8 : ZU Tryz.prog 183 = some [.int .i64 0, .str []] := kf
@[go_sem] theorem Zy4 : Tryz.prog.underlying 186 = some (.slice 37) := kf
@[go_sem] theorem Zyo : YF Tryz.prog 186 = some (none, 1) := kf
@[go_sem] theorem ZxF : U7 Tryz.prog 186 = some 1 := kf
@[go_sem] theorem ZkX : Zcu Tryz.prog 186 = some (1, 8) := kf
@[go_sem] theorem Zoo (H : List AM.Obj) (u : TypeId) (o n : Nat) (y : V) : QB Tryz.prog H 186 u (.sl o 0 n n) y = JO H (some (1, 8)) (oat H o) o n (Wa (Tryz.prog.underlying u) H y) := X7 ZkX
@[go_sem] theorem Zy7 : Tryz.prog.underlying 237 = some (.slice 93) := kf
@[go_sem] theorem Zv5 : YF Tryz.prog 237 = some (none, 1) := kf
@[go_sem] theorem Zx9 : U7 Tryz.prog 237 = some 1 := kf
@[go_sem] theorem ZzN : Tryz.prog.underlying 244 = some (.slice 5) := kf
@[go_sem] theorem Zys : U7 Tryz.prog 244 = some 1 := kf
@[go_sem] theorem ZzP : Tryz.prog.underlying 260 = some (.slice 32) := kf
@[go_sem] theorem Zw8 : YF Tryz.prog 260 = some (none, 1) := kf
@[go_sem] theorem ZwW : U7 Tryz.prog 260 = some 1 := kf
@[go_sem] theorem Zlq : Zcu Tryz.prog 260 = some (1, 24) := kf
@[go_sem] theorem Ztx (H : List AM.Obj) (u : TypeId) (o n : Nat) (y : V) : QB Tryz.prog H 260 u (.sl o 0 n n) y = JO H (some (1, 24)) (oat H o) o n (Wa (Tryz.prog.underlying u) H y) := X7 Zlq
@[go_sem] theorem ZAa : Tryz.prog.underlying 295 = some (.slice 98) := kf
@[go_sem] theorem Zzk : tsz Tryz.prog 295 = some 1 := kf
@[go_sem] theorem Zyq : XS Tryz.prog 295 = some false := kf
@[go_sem] theorem Zxj : YF Tryz.prog 295 = some (none, 4) := kf
@[go_sem] theorem Zwg : U7 Tryz.prog 295 = some 4 := kf
@[go_sem] theorem Zkt : Zcu Tryz.prog 295 = some (4, 32) := kf
@[go_sem] theorem Zrj (H : List AM.Obj) (u : TypeId) (o n : Nat) (y : V) : QB Tryz.prog H 295 u (.sl o 0 n n) y = JO H (some (4, 32)) (oat H o) o n (Wa (Tryz.prog.underlying u) H y) := X7 Zkt
@[go_sem] theorem Zze : tsz Tryz.prog 297 = some 25 := kf
@[go_sem] theorem ZxD : XS Tryz.prog 297 = some true := kf
@[go_sem] theorem ZpL : Z8 Tryz.prog 297 0 = some 0 := kf
@[go_sem] theorem Zr3 : Z8 Tryz.prog 297 1 = some 6 := kf
@[go_sem] theorem Zpm : Z8 Tryz.prog 297 2 = some 20 := kf
@[go_sem] theorem Zqn : Z8 Tryz.prog 297 3 = some 24 := kf
@[go_sem] theorem Zzs : tpl Tryz.prog 297 = some (plL [(0, 6), (6, 14), (20, 4), (24, 1)]) := kf
@[go_sem] theorem Zpb : ZU Tryz.prog 297 = some [.list true [], .list true [], .list true [], .list true [], .list true [], .list true [], .str [], .int .i64 0, .int .i64 0, .int .i64 0, .list true [], .int .i64 0, .int .i64 0, .int .i64 0, .int .i64 0, .int .i64 0, .int .i64 0, .int .i64 0, .int .i64 0, .int .i64 0, .int .i64 0, .int .i64 0, .list true [], .list true [], .list true []] := kf
@[go_sem] theorem Zzp : tsz Tryz.prog 301 = some 7 := kf
@[go_sem] theorem ZwJ : XS Tryz.prog 301 = some true := kf
@[go_sem] theorem ZpQ : Z8 Tryz.prog 301 0 = some 0 := kf
@[go_sem] theorem ZsQ : Z8 Tryz.prog 301 1 = some 1 := kf
@[go_sem] theorem ZrJ : Z8 Tryz.prog 301 2 = some 2 := kf
@[go_sem] theorem ZAS : tpl Tryz.prog 301 = some (plL [(0, 1), (1, 1), (2, 5)]) := kf
@[go_sem] theorem Zru : ZU Tryz.prog 301 = some [.int .i64 0, .int .i64 0, .bool false, .int .i64 0, .list true [], .int .i64 0, .int .i64 0] := kf
@[go_sem] theorem Zzo : Tryz.prog.underlying 303 = some (.slice 301) := kf
@[go_sem] theorem ZyP : YF Tryz.prog 303 = some (none, 7) := kf
@[go_sem] theorem Zv2 : U7 Tryz.prog 303 = some 7 := kf
@[go_sem] theorem ZlT : Zcu Tryz.prog 303 = some (7, 72) := kf
@[go_sem] theorem Zrm (H : List AM.Obj) (u : TypeId) (o n : Nat) (y : V) : QB Tryz.prog H 303 u (.sl o 0 n n) y = JO H (some (7, 72)) (oat H o) o n (Wa (Tryz.prog.underlying u) H y) := X7 ZlT
@[go_sem] theorem ZAC : tsz Tryz.prog 336 = some 4 := kf
@[go_sem] theorem Zyg : XS Tryz.prog 336 = some true := kf
@[go_sem] theorem ZrB : Z8 Tryz.prog 336 0 = some 0 := kf
@[go_sem] theorem Zq0 : Z8 Tryz.prog 336 1 = some 1 := kf
@[go_sem] theorem ZtJ : Z8 Tryz.prog 336 2 = some 2 := kf
@[go_sem] theorem Zof : Z8 Tryz.prog 336 3 = some 3 := kf
@[go_sem] theorem ZAQ : tpl Tryz.prog 336 = some (plL [(0, 1), (1, 1), (2, 1), (3, 1)]) := kf
@[go_sem] theorem Zrf : ZU Tryz.prog 336 = some [.int .i64 0, .int .i64 0, .int .i64 0, .int .i64 0] := kf
@[go_sem] theorem Zza : tsz Tryz.prog 341 = some 4 := kf
@[go_sem] theorem ZxH : XS Tryz.prog 341 = some true := kf
@[go_sem] theorem ZqH : Z8 Tryz.prog 341 1 = some 1 := kf
@[go_sem] theorem ZtA : Z8 Tryz.prog 341 2 = some 2 := kf
@[go_sem] theorem Zrs : Z8 Tryz.prog 341 3 = some 3 := kf
@[go_sem] theorem ZzR : tpl Tryz.prog 341 = some (plL [(0, 1), (1, 1), (2, 1), (3, 1)]) := kf
@[go_sem] theorem ZnT : ZU Tryz.prog 341 = some [.int .i64 0, .int .i64 0, .int .i64 0, .bool false] := kf
@[go_sem] theorem ZAp : tsz Tryz.prog 358 = some 3 := kf
@[go_sem] theorem Zye : XS Tryz.prog 358 = some true := kf
@[go_sem] theorem Zhp : Tryz.prog.stoodInHeld 358 = false := kf
@[go_sem] theorem ZzV : tpl Tryz.prog 358 = some (plL [(0, 1), (1, 1), (2, 1)]) := kf
@[go_sem] theorem ZAq (d : Nat) (a b : List PV) : Zju Tryz.prog d 358 (Tryz.prog.underlying 358) (.agg a) (.agg b) = Zkc (eqP (QK Tryz.prog d 3) (apart Tryz.prog 3 a 0) (apart Tryz.prog 3 b 0)) (Zkc (eqP (QK Tryz.prog d 3) (apart Tryz.prog 3 a 1) (apart Tryz.prog 3 b 1)) (Zkc (eqP (QK Tryz.prog d 3) (apart Tryz.prog 3 a 2) (apart Tryz.prog 3 b 2)) (some true))) := by rw [Tryz.underlying358, Qs Zhp]; simp [KW, Zct]
@[go_sem] theorem ZzO : Tryz.prog.eqGuardType Tryz.prog.depth 358 = false := kf
@[go_sem] theorem Zta : ZU Tryz.prog 358 = some [.int .i64 0, .int .i64 0, .int .i64 0] := kf
theorem ZBT : Zg Tryz.prog 6 := fun args w => Tryz.call6 args w
theorem ZBZ : Zg Tryz.prog 7 := fun args w => Tryz.call7 args w
theorem ZxI : Zg Tryz.prog 11 := fun args w => Tryz.call11 args w
theorem ZxR : Zg Tryz.prog 12 := fun args w => Tryz.call12 args w
theorem Zwr : Zg Tryz.prog 13 := fun args w => Tryz.call13 args w
theorem Zwh : Zg Tryz.prog 16 := fun args w => Tryz.call16 args w
theorem ZwA : Zg Tryz.prog 18 := fun args w => Tryz.call18 args w
theorem Zyk : Zg Tryz.prog 20 := fun args w => Tryz.call20 args w
theorem Zxz : Zg Tryz.prog 21 := fun args w => Tryz.call21 args w
theorem ZyR : Zg Tryz.prog 22 := fun args w => Tryz.call22 args w
theorem ZxY : Zg Tryz.prog 23 := fun args w => Tryz.call23 args w
theorem Zxh : Zg Tryz.prog 24 := fun args w => Tryz.call24 args w
theorem Zyn : Zg Tryz.prog 34 := fun args w => Tryz.call34 args w
theorem ZyD : Zg Tryz.prog 35 := fun args w => Tryz.call35 args w
theorem ZyV : Zg Tryz.prog 36 := fun args w => Tryz.call36 args w
theorem Zwe : Zg Tryz.prog 37 := fun args w => Tryz.call37 args w
theorem ZwN : Zg Tryz.prog 38 := fun args w => Tryz.call38 args w
theorem Zwz : Zg Tryz.prog 39 := fun args w => Tryz.call39 args w
theorem Zwy : Zg Tryz.prog 40 := fun args w => Tryz.call40 args w
theorem Zwl : Zg Tryz.prog 41 := fun args w => Tryz.call41 args w
theorem Zya : Zg Tryz.prog 42 := fun args w => Tryz.call42 args w
theorem Zw1 : Zg Tryz.prog 43 := fun args w => Tryz.call43 args w
theorem Zwv : Zg Tryz.prog 44 := fun args w => Tryz.call44 args w
theorem Zwb : Zg Tryz.prog 45 := fun args w => Tryz.call45 args w
theorem Zxn : Zg Tryz.prog 51 := fun args w => Tryz.call51 args w
theorem Zwo : Zg Tryz.prog 54 := fun args w => Tryz.call54 args w
theorem ZwR : Zg Tryz.prog 55 := fun args w => Tryz.call55 args w
theorem ZxG : Zg Tryz.prog 56 := fun args w => Tryz.call56 args w
theorem Zxv : Zg Tryz.prog 57 := fun args w => Tryz.call57 args w
theorem ZwK : Zg Tryz.prog 58 := fun args w => Tryz.call58 args w
theorem ZwP : Zg Tryz.prog 59 := fun args w => Tryz.call59 args w
theorem ZxK : Zg Tryz.prog 65 := fun args w => Tryz.call65 args w
theorem Zyh : Zg Tryz.prog 66 := fun args w => Tryz.call66 args w
theorem ZyQ : Zg Tryz.prog 67 := fun args w => Tryz.call67 args w
theorem ZxL : Zg Tryz.prog 68 := fun args w => Tryz.call68 args w
theorem Zv1 : Zg Tryz.prog 69 := fun args w => Tryz.call69 args w
theorem Zyb : Zg Tryz.prog 85 := fun args w => Tryz.call85 args w
theorem Zwc : Zg Tryz.prog 93 := fun args w => Tryz.call93 args w
theorem ZyB : Zg Tryz.prog 95 := fun args w => Tryz.call95 args w
theorem Zxm : Zg Tryz.prog 96 := fun args w => Tryz.call96 args w
theorem ZxC : Zg Tryz.prog 97 := fun args w => Tryz.call97 args w
theorem Zwp : Zg Tryz.prog 98 := fun args w => Tryz.call98 args w
theorem Zxx : Zg Tryz.prog 99 := fun args w => Tryz.call99 args w
theorem Zqr : Zg Tryz.prog 100 := fun args w => Tryz.call100 args w
theorem Zs4 : Zg Tryz.prog 101 := fun args w => Tryz.call101 args w
theorem ZpT : Zg Tryz.prog 102 := fun args w => Tryz.call102 args w
theorem Zpc : Zg Tryz.prog 103 := fun args w => Tryz.call103 args w
theorem Zjk : Zg Tryz.prog 104 := fun args w => Tryz.call104 args w
theorem Zo1 : Zg Tryz.prog 107 := fun args w => Tryz.call107 args w
theorem ZoT : Zg Tryz.prog 109 := fun args w => Tryz.call109 args w
theorem ZnV : Zg Tryz.prog 110 := fun args w => Tryz.call110 args w
theorem Zth : Zg Tryz.prog 111 := fun args w => Tryz.call111 args w
theorem Zra : Zg Tryz.prog 112 := fun args w => Tryz.call112 args w
theorem Zrr : Zg Tryz.prog 113 := fun args w => Tryz.call113 args w
theorem Zs6 : Zg Tryz.prog 114 := fun args w => Tryz.call114 args w
theorem ZpI : Zg Tryz.prog 115 := fun args w => Tryz.call115 args w
theorem Zoh : Zg Tryz.prog 120 := fun args w => Tryz.call120 args w
theorem Zpe : Zg Tryz.prog 133 := fun args w => Tryz.call133 args w
theorem Zsp : Zg Tryz.prog 134 := fun args w => Tryz.call134 args w
theorem Ztt : Zg Tryz.prog 136 := fun args w => Tryz.call136 args w
theorem ZsU : Zg Tryz.prog 140 := fun args w => Tryz.call140 args w
theorem Zoq : Zg Tryz.prog 143 := fun args w => Tryz.call143 args w
theorem ZpW : Zg Tryz.prog 144 := fun args w => Tryz.call144 args w
theorem ZoI : Zg Tryz.prog 145 := fun args w => Tryz.call145 args w
theorem Zos : Zg Tryz.prog 146 := fun args w => Tryz.call146 args w
theorem ZsT : Zg Tryz.prog 147 := fun args w => Tryz.call147 args w
theorem Zqk : Zg Tryz.prog 148 := fun args w => Tryz.call148 args w
theorem ZrN : Zg Tryz.prog 149 := fun args w => Tryz.call149 args w
theorem Zsg : Zg Tryz.prog 150 := fun args w => Tryz.call150 args w
theorem Zrg : Zg Tryz.prog 151 := fun args w => Tryz.call151 args w
theorem Zq7 : Zg Tryz.prog 164 := fun args w => Tryz.call164 args w
theorem Zq6 : Zg Tryz.prog 165 := fun args w => Tryz.call165 args w
theorem ZoP : Zg Tryz.prog 166 := fun args w => Tryz.call166 args w
theorem ZpZ : Zg Tryz.prog 167 := fun args w => Tryz.call167 args w
theorem ZoV : Zg Tryz.prog 168 := fun args w => Tryz.call168 args w
theorem ZoY : Zg Tryz.prog 169 := fun args w => Tryz.call169 args w
theorem Zoy : Zg Tryz.prog 173 := fun args w => Tryz.call173 args w
theorem Zsz : Zg Tryz.prog 174 := fun args w => Tryz.call174 args w
theorem Zpg : Zg Tryz.prog 175 := fun args w => Tryz.call175 args w
theorem Zjl : Zg Tryz.prog 176 := fun args w => Tryz.call176 args w
theorem ZqJ : Zg Tryz.prog 177 := fun args w => Tryz.call177 args w
theorem Ztq : Zg Tryz.prog 187 := fun args w => Tryz.call187 args w
theorem ZrD : Zg Tryz.prog 194 := fun args w => Tryz.call194 args w
theorem ZsL : Zg Tryz.prog 195 := fun args w => Tryz.call195 args w
theorem Zn9 : Zg Tryz.prog 196 := fun args w => Tryz.call196 args w
theorem Zo7 : Zg Tryz.prog 197 := fun args w => Tryz.call197 args w
theorem Zry : Zg Tryz.prog 198 := fun args w => Tryz.call198 args w
theorem Zs8 : Zg Tryz.prog 199 := fun args w => Tryz.call199 args w
theorem Zpq : Zg Tryz.prog 202 := fun args w => Tryz.call202 args w
theorem Zrb : Zg Tryz.prog 203 := fun args w => Tryz.call203 args w
theorem ZpV : Zg Tryz.prog 204 := fun args w => Tryz.call204 args w
theorem Zpj : Zg Tryz.prog 205 := fun args w => Tryz.call205 args w
theorem Zn3 : Zg Tryz.prog 206 := fun args w => Tryz.call206 args w
theorem ZpG : Zg Tryz.prog 207 := fun args w => Tryz.call207 args w
theorem ZsR : Zg Tryz.prog 208 := fun args w => Tryz.call208 args w
theorem ZsM : Zg Tryz.prog 209 := fun args w => Tryz.call209 args w
theorem Zrz : Zg Tryz.prog 210 := fun args w => Tryz.call210 args w
theorem Zn0 : Zg Tryz.prog 217 := fun args w => Tryz.call217 args w
theorem ZoU : Zg Tryz.prog 218 := fun args w => Tryz.call218 args w
theorem Zsc : Zg Tryz.prog 219 := fun args w => Tryz.call219 args w
theorem Zq1 : Zg Tryz.prog 221 := fun args w => Tryz.call221 args w
theorem ZtH : Zg Tryz.prog 222 := fun args w => Tryz.call222 args w
theorem Zqa : Zg Tryz.prog 223 := fun args w => Tryz.call223 args w
theorem ZrV : Zg Tryz.prog 224 := fun args w => Tryz.call224 args w
theorem Zrh : Zg Tryz.prog 225 := fun args w => Tryz.call225 args w
theorem ZqW : Zg Tryz.prog 226 := fun args w => Tryz.call226 args w
theorem ZsO : Zg Tryz.prog 227 := fun args w => Tryz.call227 args w
theorem Ztw : Zg Tryz.prog 228 := fun args w => Tryz.call228 args w
theorem Zsm : Zg Tryz.prog 229 := fun args w => Tryz.call229 args w
theorem ZsZ : Zg Tryz.prog 230 := fun args w => Tryz.call230 args w
theorem Zro : Zg Tryz.prog 231 := fun args w => Tryz.call231 args w
theorem Zj2 : Zg Tryz.prog 246 := fun args w => Tryz.call246 args w
theorem Zq4 : Zg Tryz.prog 260 := fun args w => Tryz.call260 args w
theorem ZoL : Zg Tryz.prog 261 := fun args w => Tryz.call261 args w
theorem ZtC : Zg Tryz.prog 262 := fun args w => Tryz.call262 args w
theorem Zqt : Zg Tryz.prog 263 := fun args w => Tryz.call263 args w
theorem Zr9 : Zg Tryz.prog 264 := fun args w => Tryz.call264 args w
theorem Zql : Zg Tryz.prog 265 := fun args w => Tryz.call265 args w
theorem ZpK : Zg Tryz.prog 266 := fun args w => Tryz.call266 args w
theorem Zpv : Zg Tryz.prog 267 := fun args w => Tryz.call267 args w
theorem ZqX : Zg Tryz.prog 268 := fun args w => Tryz.call268 args w
theorem Zrp : Zg Tryz.prog 269 := fun args w => Tryz.call269 args w
theorem Zqe : Zg Tryz.prog 270 := fun args w => Tryz.call270 args w
theorem Zr0 : Zg Tryz.prog 271 := fun args w => Tryz.call271 args w
theorem ZjE : Zg Tryz.prog 272 := fun args w => Tryz.call272 args w
theorem ZqD : Zg Tryz.prog 273 := fun args w => Tryz.call273 args w
theorem ZqO : Zg Tryz.prog 274 := fun args w => Tryz.call274 args w
theorem ZqV : Zg Tryz.prog 275 := fun args w => Tryz.call275 args w
theorem Zrw : Zg Tryz.prog 276 := fun args w => Tryz.call276 args w
theorem ZrC : Zg Tryz.prog 278 := fun args w => Tryz.call278 args w
theorem Zqo : Zg Tryz.prog 279 := fun args w => Tryz.call279 args w
theorem Zp7 : Zg Tryz.prog 281 := fun args w => Tryz.call281 args w
theorem Zre : Zg Tryz.prog 283 := fun args w => Tryz.call283 args w
theorem Ztp : Zg Tryz.prog 284 := fun args w => Tryz.call284 args w
theorem Zqg : Zg Tryz.prog 285 := fun args w => Tryz.call285 args w
theorem Zp1 : Zg Tryz.prog 286 := fun args w => Tryz.call286 args w
theorem Zte : Zg Tryz.prog 287 := fun args w => Tryz.call287 args w
theorem Zpy : Zg Tryz.prog 288 := fun args w => Tryz.call288 args w
theorem Zts : Zg Tryz.prog 294 := fun args w => Tryz.call294 args w
theorem Ztr : Zg Tryz.prog 299 := fun args w => Tryz.call299 args w
theorem ZsY : Zg Tryz.prog 300 := fun args w => Tryz.call300 args w
theorem Zp0 : Zg Tryz.prog 301 := fun args w => Tryz.call301 args w
theorem Zpt : Zg Tryz.prog 302 := fun args w => Tryz.call302 args w
theorem ZsJ : Zg Tryz.prog 303 := fun args w => Tryz.call303 args w
theorem Zqp : Zg Tryz.prog 304 := fun args w => Tryz.call304 args w
theorem Ztg : Zg Tryz.prog 305 := fun args w => Tryz.call305 args w
theorem ZpS : Zg Tryz.prog 306 := fun args w => Tryz.call306 args w
theorem Zqq : Zg Tryz.prog 307 := fun args w => Tryz.call307 args w
theorem Zrd : Zg Tryz.prog 308 := fun args w => Tryz.call308 args w
theorem ZoA : Zg Tryz.prog 309 := fun args w => Tryz.call309 args w
theorem Zsi : Zg Tryz.prog 310 := fun args w => Tryz.call310 args w
theorem Zpa : Zg Tryz.prog 311 := fun args w => Tryz.call311 args w
theorem Zpx : Zg Tryz.prog 314 := fun args w => Tryz.call314 args w
theorem ZsF : Zg Tryz.prog 315 := fun args w => Tryz.call315 args w
theorem Zpu : Zg Tryz.prog 316 := fun args w => Tryz.call316 args w
theorem ZpD : Zg Tryz.prog 317 := fun args w => Tryz.call317 args w
theorem Zpi : Zg Tryz.prog 321 := fun args w => Tryz.call321 args w
theorem ZnR : Zg Tryz.prog 322 := fun args w => Tryz.call322 args w
theorem ZoN : Zg Tryz.prog 323 := fun args w => Tryz.call323 args w
theorem Zrt : Zg Tryz.prog 324 := fun args w => Tryz.call324 args w
theorem Zpd : Zg Tryz.prog 327 := fun args w => Tryz.call327 args w
theorem Zn7 : Zg Tryz.prog 328 := fun args w => Tryz.call328 args w
theorem Zr2 : Zg Tryz.prog 329 := fun args w => Tryz.call329 args w
theorem Zob : Zg Tryz.prog 330 := fun args w => Tryz.call330 args w
theorem ZpR : Zg Tryz.prog 331 := fun args w => Tryz.call331 args w
theorem ZqK : Zg Tryz.prog 332 := fun args w => Tryz.call332 args w
theorem Zr6 : Zg Tryz.prog 333 := fun args w => Tryz.call333 args w
theorem Zq9 : Zg Tryz.prog 335 := fun args w => Tryz.call335 args w
theorem Zpf : Zg Tryz.prog 336 := fun args w => Tryz.call336 args w
theorem ZqY : Zg Tryz.prog 338 := fun args w => Tryz.call338 args w
theorem ZrR : Zg Tryz.prog 339 := fun args w => Tryz.call339 args w
theorem ZrG : Zg Tryz.prog 340 := fun args w => Tryz.call340 args w
theorem ZrY : Zg Tryz.prog 341 := fun args w => Tryz.call341 args w
theorem Zn6 : Zg Tryz.prog 342 := fun args w => Tryz.call342 args w
theorem Zso : Zg Tryz.prog 343 := fun args w => Tryz.call343 args w
theorem Zsq : Zg Tryz.prog 344 := fun args w => Tryz.call344 args w
theorem Ztu : Zg Tryz.prog 345 := fun args w => Tryz.call345 args w
theorem ZnX : Zg Tryz.prog 346 := fun args w => Tryz.call346 args w
theorem Zod : Zg Tryz.prog 347 := fun args w => Tryz.call347 args w
theorem Zqy : Zg Tryz.prog 348 := fun args w => Tryz.call348 args w
theorem Zn4 : Zg Tryz.prog 349 := fun args w => Tryz.call349 args w
theorem Zsa : Zg Tryz.prog 350 := fun args w => Tryz.call350 args w
theorem Ztk : Zg Tryz.prog 351 := fun args w => Tryz.call351 args w
theorem ZnY : Zg Tryz.prog 352 := fun args w => Tryz.call352 args w
theorem Zo3 : Zg Tryz.prog 353 := fun args w => Tryz.call353 args w
theorem ZpY : Zg Tryz.prog 354 := fun args w => Tryz.call354 args w
theorem mixed : Tryz.prog.follows .mixedOrders = true := by kernel_rfl
end Go.Proofs.YtcdoglogglbemaaGreatDoor.K
