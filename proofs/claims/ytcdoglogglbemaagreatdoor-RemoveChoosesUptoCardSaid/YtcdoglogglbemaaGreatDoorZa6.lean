/- Declarations that the closing texts need, part 6: joined by tools/slim.py. -/
import Derived.Test.YtcdoglogglbemaaGreatDoorZa5
import Derived.KernelRfl
namespace Go.Proofs.YtcdoglogglbemaaGreatDoor.K
open Go Go.AM Go.Proofs
abbrev PC (f : FuncId) (a : List V) (y : PV) := ACalls Tryz.prog f a [] fun x H' => x = .p y /\ H' = []
abbrev PT (f : FuncId) (a : List V) (b : List V) := ACalls Tryz.prog f a [] fun x H' => x = .tup b /\ H' = []
theorem kf {α : Type} {a b : α} (h : a = b := by kernel_rfl) : a = b := Eq.trans h rfl
@[go_sem] theorem ZCA : Tryz.prog.underlying 3 = some (.int .i64) := kf
@[go_sem] theorem ZCz : tsz Tryz.prog 3 = some 1 := kf
@[go_sem] theorem ZBW : XR Tryz.prog 3 = some false := kf
@[go_sem] theorem Zx3 : ZV Tryz.prog 3 = some [.int .i64 0] := kf
@[go_sem] theorem ZCw : Tryz.prog.underlying 4 = some .bool := kf
@[go_sem] theorem ZCx : tsz Tryz.prog 4 = some 1 := kf
@[go_sem] theorem ZB9 : XR Tryz.prog 4 = some false := kf
@[go_sem] theorem ZCv : Tryz.prog.underlying 5 = some (.int .u8) := kf
@[go_sem] theorem ZCs : Tryz.prog.underlying 9 = some .string := kf
@[go_sem] theorem ZCu : tsz Tryz.prog 9 = some 1 := kf
@[go_sem] theorem ZCq : XR Tryz.prog 9 = some false := kf
@[go_sem] theorem ZBi : Tryz.prog.underlying 22 = some (.slice 9) := kf
@[go_sem] theorem ZCi : tsz Tryz.prog 22 = some 1 := kf
@[go_sem] theorem ZAb : XR Tryz.prog 22 = some false := kf
@[go_sem] theorem ZAC : YG Tryz.prog 22 = some (none, 1) := kf
@[go_sem] theorem Zzh : UX Tryz.prog 22 = some 1 := kf
@[go_sem] theorem ZBo : Tryz.prog.underlying 23 = some (.slice 136) := kf
@[go_sem] theorem ZCe : tsz Tryz.prog 23 = some 1 := kf
@[go_sem] theorem ZzJ : XR Tryz.prog 23 = some false := kf
@[go_sem] theorem ZAG : YG Tryz.prog 23 = some (none, 6) := kf
@[go_sem] theorem Zz7 : UX Tryz.prog 23 = some 6 := kf
@[go_sem] theorem ZB1 : tsz Tryz.prog 25 = some 2 := kf
@[go_sem] theorem ZAk : XR Tryz.prog 25 = some true := kf
@[go_sem] theorem ZuI : Z4 Tryz.prog 25 0 = some 0 := kf
@[go_sem] theorem Zuc : Z4 Tryz.prog 25 1 = some 1 := kf
@[go_sem] theorem ZCf : tpl Tryz.prog 25 = some (plL [(0, 1), (1, 1)]) := kf
@[go_sem] theorem Zt1 : ZV Tryz.prog 25 = some [.list true [], .list true []] := kf
@[go_sem] theorem ZBG : Tryz.prog.underlying 26 = some (.slice 96) := kf
@[go_sem] theorem ZCk : tsz Tryz.prog 26 = some 1 := kf
@[go_sem] theorem ZAV : XR Tryz.prog 26 = some false := kf
@[go_sem] theorem ZAh : YG Tryz.prog 26 = some (none, 14) := kf
@[go_sem] theorem ZzP : UX Tryz.prog 26 = some 14 := kf
@[go_sem] theorem ZBX : Tryz.prog.underlying 27 = some (.slice 100) := kf
@[go_sem] theorem ZBL : tsz Tryz.prog 27 = some 1 := kf
@[go_sem] theorem ZAM : XR Tryz.prog 27 = some false := kf
@[go_sem] theorem ZAs : YG Tryz.prog 27 = some (none, 16) := kf
@[go_sem] theorem ZzO : UX Tryz.prog 27 = some 16 := kf
@[go_sem] theorem ZBx : Tryz.prog.underlying 28 = some (.slice 149) := kf
@[go_sem] theorem ZBB : tsz Tryz.prog 28 = some 1 := kf
@[go_sem] theorem ZAQ : XR Tryz.prog 28 = some false := kf
@[go_sem] theorem ZBb : YG Tryz.prog 28 = some (none, 2) := kf
@[go_sem] theorem ZBH : tsz Tryz.prog 30 = some 6 := kf
@[go_sem] theorem ZAe : XR Tryz.prog 30 = some true := kf
@[go_sem] theorem ZvR : Z4 Tryz.prog 30 0 = some 0 := kf
@[go_sem] theorem Zvz : Z4 Tryz.prog 30 1 = some 2 := kf
@[go_sem] theorem ZvA : Z4 Tryz.prog 30 2 = some 3 := kf
@[go_sem] theorem ZuM : Z4 Tryz.prog 30 3 = some 4 := kf
@[go_sem] theorem Zub : Z4 Tryz.prog 30 4 = some 5 := kf
@[go_sem] theorem ZCg : tpl Tryz.prog 30 = some (plL [(0, 2), (2, 1), (3, 1), (4, 1), (5, 1)]) := kf
@[go_sem] theorem ZvJ : ZV Tryz.prog 30 = some [.list true [], .list true [], .list true [], .list true [], .list true [], .list true []] := kf
@[go_sem] theorem ZBw : Tryz.prog.underlying 31 = some (.slice 44) := kf
@[go_sem] theorem ZBN : tsz Tryz.prog 31 = some 1 := kf
@[go_sem] theorem ZA0 : XR Tryz.prog 31 = some false := kf
@[go_sem] theorem Zz4 : YG Tryz.prog 31 = some (none, 4) := kf
@[go_sem] theorem ZAg : UX Tryz.prog 31 = some 4 := kf
@[go_sem] theorem ZqJ : Zbm Tryz.prog 31 = some (4, 64) := kf
@[go_sem] theorem ZuJ (H : List AM.Obj) (u : TypeId) (o n : Nat) (y : V) : QE Tryz.prog H 31 u (.sl o 0 n n) y = Q7 H (some (4, 64)) (oat H o) o n (Wd (Tryz.prog.underlying u) H y) := X3 ZqJ
@[go_sem] theorem ZBs : Tryz.prog.underlying 32 = some (.slice 3) := kf
@[go_sem] theorem ZB3 : tsz Tryz.prog 32 = some 1 := kf
@[go_sem] theorem ZAl : XR Tryz.prog 32 = some false := kf
@[go_sem] theorem ZoE : YG Tryz.prog 32 = some (none, 1) := kf
@[go_sem] theorem ZBd : UX Tryz.prog 32 = some 1 := kf
@[go_sem] theorem Zqr : Zbm Tryz.prog 32 = some (1, 8) := kf
@[go_sem] theorem ZvU (H : List AM.Obj) (u : TypeId) (o n : Nat) (y : V) : QE Tryz.prog H 32 u (.sl o 0 n n) y = Q7 H (some (1, 8)) (oat H o) o n (Wd (Tryz.prog.underlying u) H y) := X3 Zqr
@[go_sem] theorem Zlb : Zi2 Tryz.prog 32 = some (1, 8, .int .i64 0) := kf
@[go_sem] theorem ZBt (H : List AM.Obj) (fr : List V) (x y : Operand) : WT Tryz.prog (.makeSlice 32 x y) fr H = WX (some (1, 8, .int .i64 0)) H (ev fr x) (ev fr y) := Jx Zlb
@[go_sem] theorem Zvr : ZV Tryz.prog 32 = some [.list true []] := kf
@[go_sem] theorem ZB4 : tsz Tryz.prog 34 = some 2 := kf
@[go_sem] theorem ZAW : XR Tryz.prog 34 = some true := kf
@[go_sem] theorem ZvW : Z4 Tryz.prog 34 0 = some 0 := kf
@[go_sem] theorem ZvF : Z4 Tryz.prog 34 1 = some 1 := kf
@[go_sem] theorem ZBm : tpl Tryz.prog 34 = some (plL [(0, 1), (1, 1)]) := kf
@[go_sem] theorem Zv4 : ZV Tryz.prog 34 = some [.list true [], .list true []] := kf
@[go_sem] theorem ZBZ : tsz Tryz.prog 37 = some 1 := kf
@[go_sem] theorem ZBc : XR Tryz.prog 37 = some false := kf
@[go_sem] theorem ZCl : Tryz.prog.underlying 41 = some (.slice 4) := kf
@[go_sem] theorem ZBC : tsz Tryz.prog 41 = some 1 := kf
@[go_sem] theorem ZAj : XR Tryz.prog 41 = some false := kf
@[go_sem] theorem ZA7 : YG Tryz.prog 41 = some (none, 1) := kf
@[go_sem] theorem Zz2 : UX Tryz.prog 41 = some 1 := kf
@[go_sem] theorem ZpZ : Zbm Tryz.prog 41 = some (1, 1) := kf
@[go_sem] theorem Zuq (H : List AM.Obj) (u : TypeId) (y : V) : QE Tryz.prog H 41 u (.p (.list true [])) y = Znb H (some (1, 1)) (Wd (Tryz.prog.underlying u) H y) := Zcl ZpZ
@[go_sem] theorem Zlc : Zi2 Tryz.prog 41 = some (1, 1, .bool false) := kf
@[go_sem] theorem ZBP (H : List AM.Obj) (fr : List V) (x y : Operand) : WT Tryz.prog (.makeSlice 41 x y) fr H = WX (some (1, 1, .bool false)) H (ev fr x) (ev fr y) := Jx Zlc
@[go_sem] theorem ZBl : Tryz.prog.underlying 42 = some (.slice 73) := kf
@[go_sem] theorem ZCh : tsz Tryz.prog 42 = some 1 := kf
@[go_sem] theorem ZAR : XR Tryz.prog 42 = some false := kf
@[go_sem] theorem Zsw : YG Tryz.prog 42 = some (none, 2) := kf
@[go_sem] theorem ZAH : UX Tryz.prog 42 = some 2 := kf
@[go_sem] theorem Ztk : Zbm Tryz.prog 42 = some (2, 16) := kf
@[go_sem] theorem ZuZ (H : List AM.Obj) (u : TypeId) (o n : Nat) (y : V) : QE Tryz.prog H 42 u (.sl o 0 n n) y = Q7 H (some (2, 16)) (oat H o) o n (Wd (Tryz.prog.underlying u) H y) := X3 Ztk
@[go_sem] theorem ZBY : tsz Tryz.prog 44 = some 4 := kf
@[go_sem] theorem ZzF : XR Tryz.prog 44 = some true := kf
@[go_sem] theorem Zvx : Z4 Tryz.prog 44 0 = some 0 := kf
@[go_sem] theorem Zv7 : Z4 Tryz.prog 44 1 = some 1 := kf
@[go_sem] theorem ZuT : Z4 Tryz.prog 44 2 = some 2 := kf
@[go_sem] theorem Zvs : Z4 Tryz.prog 44 3 = some 3 := kf
@[go_sem] theorem ZBj : tpl Tryz.prog 44 = some (plL [(0, 1), (1, 1), (2, 1), (3, 1)]) := kf
@[go_sem] theorem Zvj : ZV Tryz.prog 44 = some [.int .i64 0, .int .i64 0, .list true [], .list true []] := kf
@[go_sem] theorem Zvd : Z4 Tryz.prog 49 0 = some 0 := kf
@[go_sem] theorem Zvn : Z4 Tryz.prog 49 1 = some 1 := kf
@[go_sem] theorem ZvM : Z4 Tryz.prog 49 2 = some 2 := kf
@[go_sem] theorem ZBy : Tryz.prog.underlying 54 = some (.int .u64) := kf
@[go_sem] theorem ZBI : tsz Tryz.prog 58 = some 1 := kf
@[go_sem] theorem ZAp : XR Tryz.prog 58 = some false := kf
@[go_sem] theorem ZCa : Tryz.prog.underlying 64 = some (.slice 183) := kf
@[go_sem] theorem ZAJ : YG Tryz.prog 64 = some (none, 2) := kf
@[go_sem] theorem ZAU : UX Tryz.prog 64 = some 2 := kf
@[go_sem] theorem ZjV : Zbm Tryz.prog 64 = some (2, 24) := kf
@[go_sem] theorem ZtV (H : List AM.Obj) (u : TypeId) (y : V) : QE Tryz.prog H 64 u (.p (.list true [])) y = Znb H (some (2, 24)) (Wd (Tryz.prog.underlying u) H y) := Zcl ZjV
@[go_sem] theorem Zuh (H : List AM.Obj) (u : TypeId) (o n : Nat) (y : V) : QE Tryz.prog H 64 u (.sl o 0 n n) y = Q7 H (some (2, 24)) (oat H o) o n (Wd (Tryz.prog.underlying u) H y) := X3 ZjV
@[go_sem] theorem ZBk : tsz Tryz.prog 73 = some 2 := kf
@[go_sem] theorem Zzp : XR Tryz.prog 73 = some true := kf
@[go_sem] theorem Zvo : Z4 Tryz.prog 73 0 = some 0 := kf
@[go_sem] theorem Zul : Z4 Tryz.prog 73 1 = some 1 := kf
@[go_sem] theorem Zky : Tryz.prog.stoodInHeld 73 = false := kf
@[go_sem] theorem ZBJ : tpl Tryz.prog 73 = some (plL [(0, 1), (1, 1)]) := kf
@[go_sem] theorem ZBQ (d : Nat) (a b : List PV) : ZjS Tryz.prog d 73 (Tryz.prog.underlying 73) (.agg a) (.agg b) = ZjR (eqP (QZ Tryz.prog d 3) (apart Tryz.prog 3 a 0) (apart Tryz.prog 3 b 0)) (ZjR (eqP (QZ Tryz.prog d 4) (apart Tryz.prog 4 a 1) (apart Tryz.prog 4 b 1)) (some true)) := by rw [Tryz.underlying73, Qz Zky]; simp [KY, Zcz]
@[go_sem] theorem ZCb : Tryz.prog.eqGuardType Tryz.prog.depth 73 = false := kf
@[go_sem] theorem Zva : ZV Tryz.prog 73 = some [.int .i64 0, .bool false] := kf
@[go_sem] theorem ZBS : tsz Tryz.prog 93 = some 1 := kf
@[go_sem] theorem Zzr : XR Tryz.prog 93 = some false := kf
@[go_sem] theorem ZCj : tsz Tryz.prog 96 = some 14 := kf
@[go_sem] theorem ZAP : XR Tryz.prog 96 = some true := kf
@[go_sem] theorem ZvL : Z4 Tryz.prog 96 0 = some 0 := kf
@[go_sem] theorem Zvt : Z4 Tryz.prog 96 1 = some 1 := kf
@[go_sem] theorem ZvG : Z4 Tryz.prog 96 2 = some 2 := kf
@[go_sem] theorem ZtY : Z4 Tryz.prog 96 3 = some 3 := kf
@[go_sem] theorem ZvZ : Z4 Tryz.prog 96 4 = some 4 := kf
@[go_sem] theorem ZvQ : Z4 Tryz.prog 96 5 = some 5 := kf
@[go_sem] theorem ZuY : Z4 Tryz.prog 96 6 = some 6 := kf
@[go_sem] theorem ZuU : Z4 Tryz.prog 96 7 = some 7 := kf
@[go_sem] theorem ZuC : Z4 Tryz.prog 96 8 = some 8 := kf
@[go_sem] theorem Zup : Z4 Tryz.prog 96 9 = some 9 := kf
@[go_sem] theorem Zo4 : Z4 Tryz.prog 96 10 = some 10 := kf
@[go_sem] theorem Zry : Z4 Tryz.prog 96 11 = some 11 := kf
@[go_sem] theorem ZpD : Z4 Tryz.prog 96 12 = some 12 := kf
@[go_sem] theorem ZsF : Z4 Tryz.prog 96 13 = some 13 := kf
@[go_sem] theorem ZBK : tpl Tryz.prog 96 = some (plL [(0, 1), (1, 1), (2, 1), (3, 1), (4, 1), (5, 1), (6, 1), (7, 1), (8, 1), (9, 1), (10, 1), (11, 1), (12, 1), (13, 1)]) := kf
@[go_sem] theorem ZuA : ZV Tryz.prog 96 = some [.str [], .int .i64 0, .int .i64 0, .int .i64 0, .list true [], .int .i64 0, .int .i64 0, .int .i64 0, .int .i64 0, .int .i64 0, .int .i64 0, .int .i64 0, .int .i64 0, .int .i64 0] := kf
@[go_sem] theorem ZBv : tsz Tryz.prog 98 = some 4 := kf
@[go_sem] theorem ZzI : XR Tryz.prog 98 = some true := kf
@[go_sem] theorem Zu6 : Z4 Tryz.prog 98 0 = some 0 := kf
@[go_sem] theorem Zut : Z4 Tryz.prog 98 1 = some 1 := kf
@[go_sem] theorem ZvO : Z4 Tryz.prog 98 2 = some 2 := kf
@[go_sem] theorem Zt4 : Z4 Tryz.prog 98 3 = some 3 := kf
@[go_sem] theorem ZB7 : tpl Tryz.prog 98 = some (plL [(0, 1), (1, 1), (2, 1), (3, 1)]) := kf
@[go_sem] theorem ZuS : ZV Tryz.prog 98 = some [.int .i64 0, .int .i64 0, .int .i64 0, .int .i64 0] := kf
@[go_sem] theorem ZAi : tsz Tryz.prog 100 = some 16 := kf
@[go_sem] theorem ZyM : XR Tryz.prog 100 = some true := kf
@[go_sem] theorem Zrk : Z4 Tryz.prog 100 0 = some 0 := kf
@[go_sem] theorem Zqs : Z4 Tryz.prog 100 1 = some 1 := kf
@[go_sem] theorem ZpM : Z4 Tryz.prog 100 2 = some 2 := kf
@[go_sem] theorem Zsj : Z4 Tryz.prog 100 3 = some 6 := kf
@[go_sem] theorem Zs2 : Z4 Tryz.prog 100 4 = some 10 := kf
@[go_sem] theorem Zq0 : Z4 Tryz.prog 100 5 = some 11 := kf
@[go_sem] theorem Zpp : Z4 Tryz.prog 100 6 = some 12 := kf
@[go_sem] theorem ZsL : Z4 Tryz.prog 100 7 = some 13 := kf
@[go_sem] theorem Zon : Z4 Tryz.prog 100 8 = some 14 := kf
@[go_sem] theorem ZrO : Z4 Tryz.prog 100 9 = some 15 := kf
@[go_sem] theorem ZzU : tpl Tryz.prog 100 = some (plL [(0, 1), (1, 1), (2, 4), (6, 4), (10, 1), (11, 1), (12, 1), (13, 1), (14, 1), (15, 1)]) := kf
@[go_sem] theorem Zqz : ZV Tryz.prog 100 = some [.str [], .list true [], .int .i64 0, .int .i64 0, .int .i64 0, .int .i64 0, .int .i64 0, .int .i64 0, .int .i64 0, .int .i64 0, .int .i64 0, .int .i64 0, .int .i64 0, .int .i64 0, .int .i64 0, .bool false] := kf
@[go_sem] theorem ZzQ : tsz Tryz.prog 115 = some 4 := kf
@[go_sem] theorem Zxz : XR Tryz.prog 115 = some true := kf
@[go_sem] theorem ZtN : Z4 Tryz.prog 115 0 = some 0 := kf
@[go_sem] theorem Zrt : Z4 Tryz.prog 115 1 = some 1 := kf
@[go_sem] theorem Zpn : Z4 Tryz.prog 115 2 = some 2 := kf
@[go_sem] theorem Zps : Z4 Tryz.prog 115 3 = some 3 := kf
@[go_sem] theorem ZAy : tpl Tryz.prog 115 = some (plL [(0, 1), (1, 1), (2, 1), (3, 1)]) := kf
@[go_sem] theorem Zsl : ZV Tryz.prog 115 = some [.int .i64 0, .int .i64 0, .int .i64 0, .int .i64 0] := kf
@[go_sem] theorem Zzn : tsz Tryz.prog 133 = some 2 := kf
@[go_sem] theorem ZyC : XR Tryz.prog 133 = some true := kf
@[go_sem] theorem ZpC : Z4 Tryz.prog 133 0 = some 0 := kf
@[go_sem] theorem Zo5 : Z4 Tryz.prog 133 1 = some 1 := kf
@[go_sem] theorem ZAm : tpl Tryz.prog 133 = some (plL [(0, 1), (1, 1)]) := kf
@[go_sem] theorem Zpg : ZV Tryz.prog 133 = some [.int .i64 0, .int .i64 0] := kf
@[go_sem] theorem ZBh : Tryz.prog.underlying 134 = some (.slice 133) := kf
@[go_sem] theorem ZzB : tsz Tryz.prog 134 = some 1 := kf
@[go_sem] theorem Zwn : XR Tryz.prog 134 = some false := kf
@[go_sem] theorem ZxE : YG Tryz.prog 134 = some (none, 2) := kf
@[go_sem] theorem Zze : UX Tryz.prog 134 = some 2 := kf
@[go_sem] theorem Zzz : tsz Tryz.prog 136 = some 6 := kf
@[go_sem] theorem ZyJ : XR Tryz.prog 136 = some true := kf
@[go_sem] theorem ZrK : Z4 Tryz.prog 136 0 = some 0 := kf
@[go_sem] theorem ZnV : Z4 Tryz.prog 136 1 = some 1 := kf
@[go_sem] theorem Zqm : Z4 Tryz.prog 136 2 = some 2 := kf
@[go_sem] theorem ZrZ : Z4 Tryz.prog 136 3 = some 3 := kf
@[go_sem] theorem ZoI : Z4 Tryz.prog 136 4 = some 4 := kf
@[go_sem] theorem Zos : Z4 Tryz.prog 136 5 = some 5 := kf
@[go_sem] theorem Zzx : tpl Tryz.prog 136 = some (plL [(0, 1), (1, 1), (2, 1), (3, 1), (4, 1), (5, 1)]) := kf
@[go_sem] theorem ZqI : ZV Tryz.prog 136 = some [.int .i64 0, .int .i64 0, .int .i64 0, .int .i64 0, .list true [], .list true []] := kf
@[go_sem] theorem ZBg : tsz Tryz.prog 143 = some 1 := kf
@[go_sem] theorem Zwl : XR Tryz.prog 143 = some false := kf
@[go_sem] theorem ZnZ : ZV Tryz.prog 143 = some [.nilm] := kf
@[go_sem] theorem ZA1 : Tryz.prog.underlying 145 = some (.slice 147) := kf
@[go_sem] theorem Zxb : YG Tryz.prog 145 = some (none, 3) := kf
@[go_sem] theorem ZwQ : UX Tryz.prog 145 = some 3 := kf
@[go_sem] theorem ZkX : Zbm Tryz.prog 145 = some (3, 24) := kf
@[go_sem] theorem ZnM (H : List AM.Obj) (u : TypeId) (o n : Nat) (y : V) : QE Tryz.prog H 145 u (.sl o 0 n n) y = Q7 H (some (3, 24)) (oat H o) o n (Wd (Tryz.prog.underlying u) H y) := X3 ZkX
@[go_sem] theorem ZoY : Z4 Tryz.prog 147 0 = some 0 := kf
@[go_sem] theorem Zto : Z4 Tryz.prog 147 1 = some 1 := kf
@[go_sem] theorem Zow : Z4 Tryz.prog 147 2 = some 2 := kf
@[go_sem] theorem ZzN : tpl Tryz.prog 147 = some (plL [(0, 1), (1, 1), (2, 1)]) := kf
@[go_sem] theorem Zpo : ZV Tryz.prog 147 = some [.int .i64 0, .bool false, .int .i64 0] := kf
@[go_sem] theorem ZA2 : tsz Tryz.prog 149 = some 2 := kf
@[go_sem] theorem Zws : XR Tryz.prog 149 = some true := kf
@[go_sem] theorem Zxu : YG Tryz.prog 149 = some ((some 2), 1) := kf
@[go_sem] theorem Zpj : ZV Tryz.prog 149 = some [.int .i64 0, .int .i64 0] := kf
@[go_sem] theorem Zzu : Tryz.prog.underlying 150 = some (.slice 341) := kf
@[go_sem] theorem ZAT : tsz Tryz.prog 150 = some 1 := kf
@[go_sem] theorem ZwP : XR Tryz.prog 150 = some false := kf
@[go_sem] theorem Zyo : YG Tryz.prog 150 = some (none, 4) := kf
@[go_sem] theorem ZyA : UX Tryz.prog 150 = some 4 := kf
@[go_sem] theorem ZkE : Zbm Tryz.prog 150 = some (4, 32) := kf
@[go_sem] theorem ZtA (H : List AM.Obj) (u : TypeId) (o n : Nat) (y : V) : QE Tryz.prog H 150 u (.sl o 0 n n) y = Q7 H (some (4, 32)) (oat H o) o n (Wd (Tryz.prog.underlying u) H y) := X3 ZkE
@[go_sem] theorem ZAc : tsz Tryz.prog 152 = some 5 := kf
@[go_sem] theorem ZwR : XR Tryz.prog 152 = some true := kf
@[go_sem] theorem ZsI : Z4 Tryz.prog 152 0 = some 0 := kf
@[go_sem] theorem ZpN : Z4 Tryz.prog 152 1 = some 1 := kf
@[go_sem] theorem ZsR : Z4 Tryz.prog 152 2 = some 2 := kf
@[go_sem] theorem Zou : Z4 Tryz.prog 152 3 = some 3 := kf
@[go_sem] theorem ZoK : Z4 Tryz.prog 152 4 = some 4 := kf
@[go_sem] theorem ZA9 : tpl Tryz.prog 152 = some (plL [(0, 1), (1, 1), (2, 1), (3, 1), (4, 1)]) := kf
@[go_sem] theorem ZsZ : ZV Tryz.prog 152 = some [.bool false, .int .i64 0, .list true [], .int .i64 0, .int .i64 0] := kf
@[go_sem] theorem ZA4 : Tryz.prog.underlying 175 = some (.array 4 3) := kf
@[go_sem] theorem Zz3 : tsz Tryz.prog 175 = some 4 := kf
@[go_sem] theorem ZxC : XR Tryz.prog 175 = some true := kf
@[go_sem] theorem ZyI : YG Tryz.prog 175 = some ((some 4), 1) := kf
@[go_sem] theorem ZAY : tpl Tryz.prog 175 = some (plA 1) := kf
@[go_sem] theorem Zrn : ZV Tryz.prog 175 = some [.int .i64 0, .int .i64 0, .int .i64 0, .int .i64 0] := kf
@[go_sem] theorem Zn7 : Z4 Tryz.prog 183 0 = some 0 := kf
@[go_sem] theorem ZqT : Z4 Tryz.prog 183 1 = some 1 := kf
@[go_sem] theorem ZzA : tpl Tryz.prog 183 = some (plL [(0, 1), (1, 1)]) := kf
@[go_sem] theorem ZqM : ZV Tryz.prog 183 = some [.int .i64 0, .str []] := kf
@[go_sem] theorem Zzy : Tryz.prog.underlying 186 = some (.slice 37) := kf
@[go_sem] theorem Zyq : YG Tryz.prog 186 = some (none, 1) := kf
@[go_sem] theorem Zxr : UX Tryz.prog 186 = some 1 := kf
@[go_sem] theorem Zld : Zbm Tryz.prog 186 = some (1, 8) := kf
@[go_sem] theorem ZpW (H : List AM.Obj) (u : TypeId) (o n : Nat) (y : V) : QE Tryz.prog H 186 u (.sl o 0 n n) y = Q7 H (some (1, 8)) (oat H o) o n (Wd (Tryz.prog.underlying u) H y) := X3 Zld
@[go_sem] theorem ZA8 : Tryz.prog.underlying 237 = some (.slice 93) := kf
@[go_sem] theorem Zxt : YG Tryz.prog 237 = some (none, 1) := kf
@[go_sem] theorem Zyf : UX Tryz.prog 237 = some 1 := kf
@[go_sem] theorem ZAf : Tryz.prog.underlying 244 = some (.slice 5) := kf
@[go_sem] theorem Zxo : UX Tryz.prog 244 = some 1 := kf
@[go_sem] theorem Zz8 : Tryz.prog.underlying 260 = some (.slice 32) := kf
@[go_sem] theorem ZxJ : YG Tryz.prog 260 = some (none, 1) := kf
@[go_sem] theorem Zym : UX Tryz.prog 260 = some 1 := kf
@[go_sem] theorem Zl6 : Zbm Tryz.prog 260 = some (1, 24) := kf
@[go_sem] theorem ZoX (H : List AM.Obj) (u : TypeId) (o n : Nat) (y : V) : QE Tryz.prog H 260 u (.sl o 0 n n) y = Q7 H (some (1, 24)) (oat H o) o n (Wd (Tryz.prog.underlying u) H y) := X3 Zl6
@[go_sem] theorem ZzG : Tryz.prog.underlying 295 = some (.slice 98) := kf
@[go_sem] theorem ZzX : tsz Tryz.prog 295 = some 1 := kf
@[go_sem] theorem Zxy : XR Tryz.prog 295 = some false := kf
@[go_sem] theorem ZwA : YG Tryz.prog 295 = some (none, 4) := kf
@[go_sem] theorem Zzg : UX Tryz.prog 295 = some 4 := kf
@[go_sem] theorem Zl2 : Zbm Tryz.prog 295 = some (4, 32) := kf
@[go_sem] theorem Zo8 (H : List AM.Obj) (u : TypeId) (o n : Nat) (y : V) : QE Tryz.prog H 295 u (.sl o 0 n n) y = Q7 H (some (4, 32)) (oat H o) o n (Wd (Tryz.prog.underlying u) H y) := X3 Zl2
@[go_sem] theorem ZzL : tsz Tryz.prog 297 = some 25 := kf
@[go_sem] theorem Zyz : XR Tryz.prog 297 = some true := kf
@[go_sem] theorem ZqU : Z4 Tryz.prog 297 0 = some 0 := kf
@[go_sem] theorem Zsu : Z4 Tryz.prog 297 1 = some 6 := kf
@[go_sem] theorem Zpm : Z4 Tryz.prog 297 2 = some 20 := kf
@[go_sem] theorem ZsJ : Z4 Tryz.prog 297 3 = some 24 := kf
@[go_sem] theorem ZAn : tpl Tryz.prog 297 = some (plL [(0, 6), (6, 14), (20, 4), (24, 1)]) := kf
@[go_sem] theorem Zs6 : ZV Tryz.prog 297 = some [.list true [], .list true [], .list true [], .list true [], .list true [], .list true [], .str [], .int .i64 0, .int .i64 0, .int .i64 0, .list true [], .int .i64 0, .int .i64 0, .int .i64 0, .int .i64 0, .int .i64 0, .int .i64 0, .int .i64 0, .int .i64 0, .int .i64 0, .int .i64 0, .int .i64 0, .list true [], .list true [], .list true []] := kf
@[go_sem] theorem ZAq : tsz Tryz.prog 301 = some 7 := kf
@[go_sem] theorem ZxL : XR Tryz.prog 301 = some true := kf
@[go_sem] theorem Zqk : Z4 Tryz.prog 301 0 = some 0 := kf
@[go_sem] theorem ZqZ : Z4 Tryz.prog 301 1 = some 1 := kf
@[go_sem] theorem Zqc : Z4 Tryz.prog 301 2 = some 2 := kf
@[go_sem] theorem ZAr : tpl Tryz.prog 301 = some (plL [(0, 1), (1, 1), (2, 5)]) := kf
@[go_sem] theorem Zti : ZV Tryz.prog 301 = some [.int .i64 0, .int .i64 0, .bool false, .int .i64 0, .list true [], .int .i64 0, .int .i64 0] := kf
@[go_sem] theorem ZAx : Tryz.prog.underlying 303 = some (.slice 301) := kf
@[go_sem] theorem Zxe : YG Tryz.prog 303 = some (none, 7) := kf
@[go_sem] theorem Zx9 : UX Tryz.prog 303 = some 7 := kf
@[go_sem] theorem Zls : Zbm Tryz.prog 303 = some (7, 72) := kf
@[go_sem] theorem Zsd (H : List AM.Obj) (u : TypeId) (o n : Nat) (y : V) : QE Tryz.prog H 303 u (.sl o 0 n n) y = Q7 H (some (7, 72)) (oat H o) o n (Wd (Tryz.prog.underlying u) H y) := X3 Zls
@[go_sem] theorem Zzs : tsz Tryz.prog 336 = some 4 := kf
@[go_sem] theorem ZwT : XR Tryz.prog 336 = some true := kf
@[go_sem] theorem Zn0 : Z4 Tryz.prog 336 0 = some 0 := kf
@[go_sem] theorem ZnO : Z4 Tryz.prog 336 1 = some 1 := kf
@[go_sem] theorem ZsY : Z4 Tryz.prog 336 2 = some 2 := kf
@[go_sem] theorem ZoG : Z4 Tryz.prog 336 3 = some 3 := kf
@[go_sem] theorem ZAw : tpl Tryz.prog 336 = some (plL [(0, 1), (1, 1), (2, 1), (3, 1)]) := kf
@[go_sem] theorem ZtH : ZV Tryz.prog 336 = some [.int .i64 0, .int .i64 0, .int .i64 0, .int .i64 0] := kf
@[go_sem] theorem ZAd : tsz Tryz.prog 341 = some 4 := kf
@[go_sem] theorem Zwk : XR Tryz.prog 341 = some true := kf
@[go_sem] theorem Zr0 : Z4 Tryz.prog 341 1 = some 1 := kf
@[go_sem] theorem Zpu : Z4 Tryz.prog 341 2 = some 2 := kf
@[go_sem] theorem Zra : Z4 Tryz.prog 341 3 = some 3 := kf
@[go_sem] theorem Zz0 : tpl Tryz.prog 341 = some (plL [(0, 1), (1, 1), (2, 1), (3, 1)]) := kf
@[go_sem] theorem Zqe : ZV Tryz.prog 341 = some [.int .i64 0, .int .i64 0, .int .i64 0, .bool false] := kf
@[go_sem] theorem ZzS : tsz Tryz.prog 358 = some 3 := kf
@[go_sem] theorem Zyy : XR Tryz.prog 358 = some true := kf
@[go_sem] theorem Zim : Tryz.prog.stoodInHeld 358 = false := kf
@[go_sem] theorem Zz5 : tpl Tryz.prog 358 = some (plL [(0, 1), (1, 1), (2, 1)]) := kf
@[go_sem] theorem ZBe (d : Nat) (a b : List PV) : ZjS Tryz.prog d 358 (Tryz.prog.underlying 358) (.agg a) (.agg b) = ZjR (eqP (QZ Tryz.prog d 3) (apart Tryz.prog 3 a 0) (apart Tryz.prog 3 b 0)) (ZjR (eqP (QZ Tryz.prog d 3) (apart Tryz.prog 3 a 1) (apart Tryz.prog 3 b 1)) (ZjR (eqP (QZ Tryz.prog d 3) (apart Tryz.prog 3 a 2) (apart Tryz.prog 3 b 2)) (some true))) := by rw [Tryz.underlying358, Qz Zim]; simp [KY, Zcz]
@[go_sem] theorem Zzv : Tryz.prog.eqGuardType Tryz.prog.depth 358 = false := kf
@[go_sem] theorem Zqv : ZV Tryz.prog 358 = some [.int .i64 0, .int .i64 0, .int .i64 0] := kf
theorem ZBE : Zg Tryz.prog 4 := fun args w => Tryz.call4 args w
theorem ZB2 : Zg Tryz.prog 5 := fun args w => Tryz.call5 args w
theorem Zyn : Zg Tryz.prog 11 := fun args w => Tryz.call11 args w
theorem ZxA : Zg Tryz.prog 12 := fun args w => Tryz.call12 args w
theorem ZyT : Zg Tryz.prog 13 := fun args w => Tryz.call13 args w
theorem ZyX : Zg Tryz.prog 14 := fun args w => Tryz.call14 args w
theorem ZxQ : Zg Tryz.prog 16 := fun args w => Tryz.call16 args w
theorem ZwX : Zg Tryz.prog 17 := fun args w => Tryz.call17 args w
theorem Zw2 : Zg Tryz.prog 18 := fun args w => Tryz.call18 args w
theorem Zwe : Zg Tryz.prog 19 := fun args w => Tryz.call19 args w
theorem ZwG : Zg Tryz.prog 21 := fun args w => Tryz.call21 args w
theorem Zx5 : Zg Tryz.prog 34 := fun args w => Tryz.call34 args w
theorem ZyQ : Zg Tryz.prog 35 := fun args w => Tryz.call35 args w
theorem ZxZ : Zg Tryz.prog 36 := fun args w => Tryz.call36 args w
theorem Zxc : Zg Tryz.prog 37 := fun args w => Tryz.call37 args w
theorem Zzc : Zg Tryz.prog 38 := fun args w => Tryz.call38 args w
theorem Zxg : Zg Tryz.prog 39 := fun args w => Tryz.call39 args w
theorem Zza : Zg Tryz.prog 40 := fun args w => Tryz.call40 args w
theorem ZxO : Zg Tryz.prog 41 := fun args w => Tryz.call41 args w
theorem ZwZ : Zg Tryz.prog 42 := fun args w => Tryz.call42 args w
theorem ZwB : Zg Tryz.prog 43 := fun args w => Tryz.call43 args w
theorem ZxK : Zg Tryz.prog 44 := fun args w => Tryz.call44 args w
theorem ZxM : Zg Tryz.prog 45 := fun args w => Tryz.call45 args w
theorem Zyb : Zg Tryz.prog 46 := fun args w => Tryz.call46 args w
theorem Zys : Zg Tryz.prog 47 := fun args w => Tryz.call47 args w
theorem Zy2 : Zg Tryz.prog 48 := fun args w => Tryz.call48 args w
theorem Zor : Zg Tryz.prog 49 := fun args w => Tryz.call49 args w
theorem ZyW : Zg Tryz.prog 50 := fun args w => Tryz.call50 args w
theorem Zy1 : Zg Tryz.prog 51 := fun args w => Tryz.call51 args w
theorem Zw0 : Zg Tryz.prog 52 := fun args w => Tryz.call52 args w
theorem ZwO : Zg Tryz.prog 53 := fun args w => Tryz.call53 args w
theorem Zwa : Zg Tryz.prog 54 := fun args w => Tryz.call54 args w
theorem ZyE : Zg Tryz.prog 55 := fun args w => Tryz.call55 args w
theorem Zw9 : Zg Tryz.prog 56 := fun args w => Tryz.call56 args w
theorem ZwV : Zg Tryz.prog 57 := fun args w => Tryz.call57 args w
theorem Zwx : Zg Tryz.prog 58 := fun args w => Tryz.call58 args w
theorem Zwu : Zg Tryz.prog 59 := fun args w => Tryz.call59 args w
theorem Zzd : Zg Tryz.prog 60 := fun args w => Tryz.call60 args w
theorem ZxG : Zg Tryz.prog 61 := fun args w => Tryz.call61 args w
theorem Zwj : Zg Tryz.prog 62 := fun args w => Tryz.call62 args w
theorem ZyF : Zg Tryz.prog 63 := fun args w => Tryz.call63 args w
theorem ZwN : Zg Tryz.prog 64 := fun args w => Tryz.call64 args w
theorem Zwf : Zg Tryz.prog 65 := fun args w => Tryz.call65 args w
theorem ZyP : Zg Tryz.prog 66 := fun args w => Tryz.call66 args w
theorem Zxn : Zg Tryz.prog 67 := fun args w => Tryz.call67 args w
theorem Zyd : Zg Tryz.prog 85 := fun args w => Tryz.call85 args w
theorem ZwY : Zg Tryz.prog 93 := fun args w => Tryz.call93 args w
theorem ZwU : Zg Tryz.prog 95 := fun args w => Tryz.call95 args w
theorem ZwI : Zg Tryz.prog 96 := fun args w => Tryz.call96 args w
theorem Zyr : Zg Tryz.prog 97 := fun args w => Tryz.call97 args w
theorem Zyg : Zg Tryz.prog 98 := fun args w => Tryz.call98 args w
theorem Zx7 : Zg Tryz.prog 99 := fun args w => Tryz.call99 args w
theorem Zpb : Zg Tryz.prog 100 := fun args w => Tryz.call100 args w
theorem Zso : Zg Tryz.prog 101 := fun args w => Tryz.call101 args w
theorem Zpe : Zg Tryz.prog 102 := fun args w => Tryz.call102 args w
theorem ZrV : Zg Tryz.prog 103 := fun args w => Tryz.call103 args w
theorem ZjQ : Zg Tryz.prog 104 := fun args w => Tryz.call104 args w
theorem ZrY : Zg Tryz.prog 107 := fun args w => Tryz.call107 args w
theorem ZpF : Zg Tryz.prog 108 := fun args w => Tryz.call108 args w
theorem Zoo : Zg Tryz.prog 109 := fun args w => Tryz.call109 args w
theorem ZoA : Zg Tryz.prog 110 := fun args w => Tryz.call110 args w
theorem ZpI : Zg Tryz.prog 111 := fun args w => Tryz.call111 args w
theorem Zom : Zg Tryz.prog 112 := fun args w => Tryz.call112 args w
theorem Zq1 : Zg Tryz.prog 113 := fun args w => Tryz.call113 args w
theorem ZoQ : Zg Tryz.prog 114 := fun args w => Tryz.call114 args w
theorem Zoj : Zg Tryz.prog 115 := fun args w => Tryz.call115 args w
theorem Zrg : Zg Tryz.prog 116 := fun args w => Tryz.call116 args w
theorem ZpB : Zg Tryz.prog 117 := fun args w => Tryz.call117 args w
theorem Zq3 : Zg Tryz.prog 118 := fun args w => Tryz.call118 args w
theorem ZoB : Zg Tryz.prog 119 := fun args w => Tryz.call119 args w
theorem Zpa : Zg Tryz.prog 120 := fun args w => Tryz.call120 args w
theorem ZrI : Zg Tryz.prog 133 := fun args w => Tryz.call133 args w
theorem Zo9 : Zg Tryz.prog 134 := fun args w => Tryz.call134 args w
theorem Zr4 : Zg Tryz.prog 136 := fun args w => Tryz.call136 args w
theorem Zog : Zg Tryz.prog 140 := fun args w => Tryz.call140 args w
theorem ZtP : Zg Tryz.prog 143 := fun args w => Tryz.call143 args w
theorem Zqo : Zg Tryz.prog 144 := fun args w => Tryz.call144 args w
theorem Zn1 : Zg Tryz.prog 145 := fun args w => Tryz.call145 args w
theorem ZrN : Zg Tryz.prog 146 := fun args w => Tryz.call146 args w
theorem Zsv : Zg Tryz.prog 147 := fun args w => Tryz.call147 args w
theorem Zn3 : Zg Tryz.prog 148 := fun args w => Tryz.call148 args w
theorem Ztl : Zg Tryz.prog 149 := fun args w => Tryz.call149 args w
theorem ZnQ : Zg Tryz.prog 150 := fun args w => Tryz.call150 args w
theorem Zpd : Zg Tryz.prog 151 := fun args w => Tryz.call151 args w
theorem Zph : Zg Tryz.prog 163 := fun args w => Tryz.call163 args w
theorem Zqi : Zg Tryz.prog 164 := fun args w => Tryz.call164 args w
theorem ZrU : Zg Tryz.prog 165 := fun args w => Tryz.call165 args w
theorem ZtE : Zg Tryz.prog 166 := fun args w => Tryz.call166 args w
theorem ZsA : Zg Tryz.prog 167 := fun args w => Tryz.call167 args w
theorem ZrJ : Zg Tryz.prog 168 := fun args w => Tryz.call168 args w
theorem Zru : Zg Tryz.prog 169 := fun args w => Tryz.call169 args w
theorem Zrr : Zg Tryz.prog 170 := fun args w => Tryz.call170 args w
theorem Zqq : Zg Tryz.prog 171 := fun args w => Tryz.call171 args w
theorem Zov : Zg Tryz.prog 172 := fun args w => Tryz.call172 args w
theorem ZpJ : Zg Tryz.prog 173 := fun args w => Tryz.call173 args w
theorem ZqA : Zg Tryz.prog 174 := fun args w => Tryz.call174 args w
theorem ZnS : Zg Tryz.prog 175 := fun args w => Tryz.call175 args w
theorem Zjs : Zg Tryz.prog 176 := fun args w => Tryz.call176 args w
theorem ZqQ : Zg Tryz.prog 177 := fun args w => Tryz.call177 args w
theorem ZnX : Zg Tryz.prog 187 := fun args w => Tryz.call187 args w
theorem Zop : Zg Tryz.prog 194 := fun args w => Tryz.call194 args w
theorem Zr6 : Zg Tryz.prog 195 := fun args w => Tryz.call195 args w
theorem Zqd : Zg Tryz.prog 196 := fun args w => Tryz.call196 args w
theorem Zq6 : Zg Tryz.prog 197 := fun args w => Tryz.call197 args w
theorem Zri : Zg Tryz.prog 198 := fun args w => Tryz.call198 args w
theorem Zpl : Zg Tryz.prog 199 := fun args w => Tryz.call199 args w
theorem Zs3 : Zg Tryz.prog 202 := fun args w => Tryz.call202 args w
theorem Zoy : Zg Tryz.prog 203 := fun args w => Tryz.call203 args w
theorem ZrS : Zg Tryz.prog 204 := fun args w => Tryz.call204 args w
theorem Zr1 : Zg Tryz.prog 205 := fun args w => Tryz.call205 args w
theorem Ztr : Zg Tryz.prog 206 := fun args w => Tryz.call206 args w
theorem ZpA : Zg Tryz.prog 207 := fun args w => Tryz.call207 args w
theorem ZpG : Zg Tryz.prog 208 := fun args w => Tryz.call208 args w
theorem Zsb : Zg Tryz.prog 209 := fun args w => Tryz.call209 args w
theorem Zp2 : Zg Tryz.prog 210 := fun args w => Tryz.call210 args w
theorem Zr2 : Zg Tryz.prog 216 := fun args w => Tryz.call216 args w
theorem ZqF : Zg Tryz.prog 217 := fun args w => Tryz.call217 args w
theorem ZsG : Zg Tryz.prog 218 := fun args w => Tryz.call218 args w
theorem Zq2 : Zg Tryz.prog 219 := fun args w => Tryz.call219 args w
theorem Zrq : Zg Tryz.prog 220 := fun args w => Tryz.call220 args w
theorem Zq9 : Zg Tryz.prog 221 := fun args w => Tryz.call221 args w
theorem ZqK : Zg Tryz.prog 222 := fun args w => Tryz.call222 args w
theorem ZrD : Zg Tryz.prog 223 := fun args w => Tryz.call223 args w
theorem Zn5 : Zg Tryz.prog 224 := fun args w => Tryz.call224 args w
theorem ZrB : Zg Tryz.prog 225 := fun args w => Tryz.call225 args w
theorem Zpv : Zg Tryz.prog 226 := fun args w => Tryz.call226 args w
theorem ZoZ : Zg Tryz.prog 227 := fun args w => Tryz.call227 args w
theorem Zqg : Zg Tryz.prog 228 := fun args w => Tryz.call228 args w
theorem ZqV : Zg Tryz.prog 229 := fun args w => Tryz.call229 args w
theorem Zr3 : Zg Tryz.prog 230 := fun args w => Tryz.call230 args w
theorem ZrR : Zg Tryz.prog 231 := fun args w => Tryz.call231 args w
theorem Zju : Zg Tryz.prog 246 := fun args w => Tryz.call246 args w
theorem Zn6 : Zg Tryz.prog 260 := fun args w => Tryz.call260 args w
theorem ZtG : Zg Tryz.prog 261 := fun args w => Tryz.call261 args w
theorem ZoR : Zg Tryz.prog 262 := fun args w => Tryz.call262 args w
theorem Zpk : Zg Tryz.prog 263 := fun args w => Tryz.call263 args w
theorem ZrC : Zg Tryz.prog 264 := fun args w => Tryz.call264 args w
theorem ZqG : Zg Tryz.prog 265 := fun args w => Tryz.call265 args w
theorem Ztd : Zg Tryz.prog 266 := fun args w => Tryz.call266 args w
theorem Zqj : Zg Tryz.prog 267 := fun args w => Tryz.call267 args w
theorem Ztq : Zg Tryz.prog 268 := fun args w => Tryz.call268 args w
theorem Zr7 : Zg Tryz.prog 269 := fun args w => Tryz.call269 args w
theorem Zty : Zg Tryz.prog 270 := fun args w => Tryz.call270 args w
theorem Zqx : Zg Tryz.prog 271 := fun args w => Tryz.call271 args w
theorem Zjh : Zg Tryz.prog 272 := fun args w => Tryz.call272 args w
theorem ZtD : Zg Tryz.prog 273 := fun args w => Tryz.call273 args w
theorem Zrw : Zg Tryz.prog 274 := fun args w => Tryz.call274 args w
theorem ZpQ : Zg Tryz.prog 275 := fun args w => Tryz.call275 args w
theorem Ztc : Zg Tryz.prog 276 := fun args w => Tryz.call276 args w
theorem Zs8 : Zg Tryz.prog 278 := fun args w => Tryz.call278 args w
theorem Zsr : Zg Tryz.prog 279 := fun args w => Tryz.call279 args w
theorem Zp4 : Zg Tryz.prog 281 := fun args w => Tryz.call281 args w
theorem ZnN : Zg Tryz.prog 283 := fun args w => Tryz.call283 args w
theorem ZpU : Zg Tryz.prog 284 := fun args w => Tryz.call284 args w
theorem ZtI : Zg Tryz.prog 285 := fun args w => Tryz.call285 args w
theorem Ztt : Zg Tryz.prog 286 := fun args w => Tryz.call286 args w
theorem ZsT : Zg Tryz.prog 287 := fun args w => Tryz.call287 args w
theorem Zql : Zg Tryz.prog 288 := fun args w => Tryz.call288 args w
theorem Zpi : Zg Tryz.prog 294 := fun args w => Tryz.call294 args w
theorem Zts : Zg Tryz.prog 299 := fun args w => Tryz.call299 args w
theorem ZtK : Zg Tryz.prog 300 := fun args w => Tryz.call300 args w
theorem Zrp : Zg Tryz.prog 301 := fun args w => Tryz.call301 args w
theorem Zqt : Zg Tryz.prog 302 := fun args w => Tryz.call302 args w
theorem Zoi : Zg Tryz.prog 303 := fun args w => Tryz.call303 args w
theorem Zqw : Zg Tryz.prog 304 := fun args w => Tryz.call304 args w
theorem Zn9 : Zg Tryz.prog 305 := fun args w => Tryz.call305 args w
theorem Zr5 : Zg Tryz.prog 306 := fun args w => Tryz.call306 args w
theorem ZqR : Zg Tryz.prog 307 := fun args w => Tryz.call307 args w
theorem Ztv : Zg Tryz.prog 308 := fun args w => Tryz.call308 args w
theorem ZqH : Zg Tryz.prog 309 := fun args w => Tryz.call309 args w
theorem ZqC : Zg Tryz.prog 310 := fun args w => Tryz.call310 args w
theorem Zrz : Zg Tryz.prog 311 := fun args w => Tryz.call311 args w
theorem Zrd : Zg Tryz.prog 314 := fun args w => Tryz.call314 args w
theorem ZsE : Zg Tryz.prog 315 := fun args w => Tryz.call315 args w
theorem Zsk : Zg Tryz.prog 316 := fun args w => Tryz.call316 args w
theorem ZpS : Zg Tryz.prog 317 := fun args w => Tryz.call317 args w
theorem ZoO : Zg Tryz.prog 321 := fun args w => Tryz.call321 args w
theorem Zoc : Zg Tryz.prog 322 := fun args w => Tryz.call322 args w
theorem Ztp : Zg Tryz.prog 323 := fun args w => Tryz.call323 args w
theorem Zs5 : Zg Tryz.prog 324 := fun args w => Tryz.call324 args w
theorem ZtQ : Zg Tryz.prog 327 := fun args w => Tryz.call327 args w
theorem Zs7 : Zg Tryz.prog 328 := fun args w => Tryz.call328 args w
theorem Zoe : Zg Tryz.prog 329 := fun args w => Tryz.call329 args w
theorem Zo2 : Zg Tryz.prog 330 := fun args w => Tryz.call330 args w
theorem Zoz : Zg Tryz.prog 331 := fun args w => Tryz.call331 args w
theorem Zsa : Zg Tryz.prog 332 := fun args w => Tryz.call332 args w
theorem ZoW : Zg Tryz.prog 333 := fun args w => Tryz.call333 args w
theorem Ztb : Zg Tryz.prog 335 := fun args w => Tryz.call335 args w
theorem Zrs : Zg Tryz.prog 336 := fun args w => Tryz.call336 args w
theorem ZoV : Zg Tryz.prog 338 := fun args w => Tryz.call338 args w
theorem Zqy : Zg Tryz.prog 339 := fun args w => Tryz.call339 args w
theorem Zsz : Zg Tryz.prog 340 := fun args w => Tryz.call340 args w
theorem Ztz : Zg Tryz.prog 341 := fun args w => Tryz.call341 args w
theorem Ztm : Zg Tryz.prog 342 := fun args w => Tryz.call342 args w
theorem Zpz : Zg Tryz.prog 343 := fun args w => Tryz.call343 args w
theorem Zob : Zg Tryz.prog 344 := fun args w => Tryz.call344 args w
theorem Zqh : Zg Tryz.prog 345 := fun args w => Tryz.call345 args w
theorem Ztj : Zg Tryz.prog 346 := fun args w => Tryz.call346 args w
theorem ZrE : Zg Tryz.prog 347 := fun args w => Tryz.call347 args w
theorem Zrb : Zg Tryz.prog 348 := fun args w => Tryz.call348 args w
theorem Zsf : Zg Tryz.prog 349 := fun args w => Tryz.call349 args w
theorem ZrA : Zg Tryz.prog 350 := fun args w => Tryz.call350 args w
theorem ZsH : Zg Tryz.prog 351 := fun args w => Tryz.call351 args w
theorem ZoU : Zg Tryz.prog 352 := fun args w => Tryz.call352 args w
theorem ZqY : Zg Tryz.prog 353 := fun args w => Tryz.call353 args w
theorem ZsW : Zg Tryz.prog 354 := fun args w => Tryz.call354 args w
theorem mixed : Tryz.prog.follows .mixedOrders = true := by kernel_rfl
end Go.Proofs.YtcdoglogglbemaaGreatDoor.K
