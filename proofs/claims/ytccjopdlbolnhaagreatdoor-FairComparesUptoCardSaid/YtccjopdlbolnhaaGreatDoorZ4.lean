/- Declarations that the closing texts need, part 4: joined by tools/slim.py. -/
import Derived.Test.YtccjopdlbolnhaaGreatDoorZ3
import Derived.KernelRfl
import Derived.Test.YtccjopdlbolnhaaGreatDoorProg
namespace Go.Proofs.YtccjopdlbolnhaaGreatDoor.K
open Go Go.AM Go.Proofs
@[go_sem] theorem und2 : Tryz.prog.underlying 2 = some (.int .i64) := Eq.trans (by kernel_rfl) rfl
@[go_sem] theorem tsz2 : tsz Tryz.prog 2 = some 1 := Eq.trans (by kernel_rfl) rfl
@[go_sem] theorem tagg2 : tagg Tryz.prog 2 = some false := Eq.trans (by kernel_rfl) rfl
@[go_sem] theorem zcells2 : zcells Tryz.prog 2 = some [.int .i64 0] := Eq.trans (by kernel_rfl) rfl
@[go_sem] theorem und3 : Tryz.prog.underlying 3 = some (.int .i64) := Eq.trans (by kernel_rfl) rfl
@[go_sem] theorem tsz3 : tsz Tryz.prog 3 = some 1 := Eq.trans (by kernel_rfl) rfl
@[go_sem] theorem tagg3 : tagg Tryz.prog 3 = some false := Eq.trans (by kernel_rfl) rfl
@[go_sem] theorem zcells3 : zcells Tryz.prog 3 = some [.int .i64 0] := Eq.trans (by kernel_rfl) rfl
@[go_sem] theorem und4 : Tryz.prog.underlying 4 = some .bool := Eq.trans (by kernel_rfl) rfl
@[go_sem] theorem tsz4 : tsz Tryz.prog 4 = some 1 := Eq.trans (by kernel_rfl) rfl
@[go_sem] theorem tagg4 : tagg Tryz.prog 4 = some false := Eq.trans (by kernel_rfl) rfl
@[go_sem] theorem zcells4 : zcells Tryz.prog 4 = some [.bool false] := Eq.trans (by kernel_rfl) rfl
@[go_sem] theorem und5 : Tryz.prog.underlying 5 = some (.int .u8) := Eq.trans (by kernel_rfl) rfl
@[go_sem] theorem tsz5 : tsz Tryz.prog 5 = some 1 := Eq.trans (by kernel_rfl) rfl
@[go_sem] theorem tagg5 : tagg Tryz.prog 5 = some false := Eq.trans (by kernel_rfl) rfl
@[go_sem] theorem zcells5 : zcells Tryz.prog 5 = some [.int .u8 0] := Eq.trans (by kernel_rfl) rfl
@[go_sem] theorem und9 : Tryz.prog.underlying 9 = some .string := Eq.trans (by kernel_rfl) rfl
@[go_sem] theorem tsz9 : tsz Tryz.prog 9 = some 1 := Eq.trans (by kernel_rfl) rfl
@[go_sem] theorem tagg9 : tagg Tryz.prog 9 = some false := Eq.trans (by kernel_rfl) rfl
@[go_sem] theorem zcells9 : zcells Tryz.prog 9 = some [.str []] := Eq.trans (by kernel_rfl) rfl
@[go_sem] theorem und21 : Tryz.prog.underlying 21 = some (.int .i32) := Eq.trans (by kernel_rfl) rfl
@[go_sem] theorem tsz21 : tsz Tryz.prog 21 = some 1 := Eq.trans (by kernel_rfl) rfl
@[go_sem] theorem tagg21 : tagg Tryz.prog 21 = some false := Eq.trans (by kernel_rfl) rfl
@[go_sem] theorem zcells21 : zcells Tryz.prog 21 = some [.int .i32 0] := Eq.trans (by kernel_rfl) rfl
@[go_sem] theorem und22 : Tryz.prog.underlying 22 = some (.slice 9) := Eq.trans (by kernel_rfl) rfl
@[go_sem] theorem tsz22 : tsz Tryz.prog 22 = some 1 := Eq.trans (by kernel_rfl) rfl
@[go_sem] theorem tagg22 : tagg Tryz.prog 22 = some false := Eq.trans (by kernel_rfl) rfl
@[go_sem] theorem telt22 : telt Tryz.prog 22 = some (none, 1) := Eq.trans (by kernel_rfl) rfl
@[go_sem] theorem litF22 : litF Tryz.prog 22 = some 1 := Eq.trans (by kernel_rfl) rfl
@[go_sem] theorem appF22 : appF Tryz.prog 22 = some (1, 16) := Eq.trans (by kernel_rfl) rfl
@[go_sem] theorem aapp1_22 (H : List AM.Obj) (u : TypeId) (o n : Nat) (y : V) : aapp Tryz.prog H 22 u (.sl o 0 n n) y = app1 H (some (1, 16)) (oat H o) o n (asrcB (Tryz.prog.underlying u) H y) := aapp_own appF22
@[go_sem] theorem zcells22 : zcells Tryz.prog 22 = some [.list true []] := Eq.trans (by kernel_rfl) rfl
@[go_sem] theorem und23 : Tryz.prog.underlying 23 = some (.slice 143) := Eq.trans (by kernel_rfl) rfl
@[go_sem] theorem tsz23 : tsz Tryz.prog 23 = some 1 := Eq.trans (by kernel_rfl) rfl
@[go_sem] theorem tagg23 : tagg Tryz.prog 23 = some false := Eq.trans (by kernel_rfl) rfl
@[go_sem] theorem telt23 : telt Tryz.prog 23 = some (none, 6) := Eq.trans (by kernel_rfl) rfl
@[go_sem] theorem litF23 : litF Tryz.prog 23 = some 6 := Eq.trans (by kernel_rfl) rfl
@[go_sem] theorem appF23 : appF Tryz.prog 23 = some (6, 80) := Eq.trans (by kernel_rfl) rfl
@[go_sem] theorem aapp1_23 (H : List AM.Obj) (u : TypeId) (o n : Nat) (y : V) : aapp Tryz.prog H 23 u (.sl o 0 n n) y = app1 H (some (6, 80)) (oat H o) o n (asrcB (Tryz.prog.underlying u) H y) := aapp_own appF23
@[go_sem] theorem zcells23 : zcells Tryz.prog 23 = some [.list true []] := Eq.trans (by kernel_rfl) rfl
@[go_sem] theorem tsz25 : tsz Tryz.prog 25 = some 2 := Eq.trans (by kernel_rfl) rfl
@[go_sem] theorem tagg25 : tagg Tryz.prog 25 = some true := Eq.trans (by kernel_rfl) rfl
@[go_sem] theorem tfld25_0 : tfld Tryz.prog 25 0 = some 0 := Eq.trans (by kernel_rfl) rfl
@[go_sem] theorem tfld25_1 : tfld Tryz.prog 25 1 = some 1 := Eq.trans (by kernel_rfl) rfl
@[go_sem] theorem stood25 : Tryz.prog.stoodInHeld 25 = false := Eq.trans (by kernel_rfl) rfl
@[go_sem] theorem tpl25 : tpl Tryz.prog 25 = some (plL [(0, 1), (1, 1)]) := Eq.trans (by kernel_rfl) rfl
@[go_sem] theorem aeq25 (d : Nat) (a b : List PV) : aeqD Tryz.prog d 25 (Tryz.prog.underlying 25) (.agg a) (.agg b) = oand (eqP (aeqT Tryz.prog d 22) (apart Tryz.prog 22 a 0) (apart Tryz.prog 22 b 0)) (oand (eqP (aeqT Tryz.prog d 23) (apart Tryz.prog 23 a 1) (apart Tryz.prog 23 b 1)) (some true)) := by rw [Tryz.underlying25, aeqD_struct stood25]; simp [aeqF_cons, aeqF_nil]
@[go_sem] theorem eqg25 : Tryz.prog.eqGuardType Tryz.prog.depth 25 = false := Eq.trans (by kernel_rfl) rfl
@[go_sem] theorem zcells25 : zcells Tryz.prog 25 = some [.list true [], .list true []] := Eq.trans (by kernel_rfl) rfl
@[go_sem] theorem und26 : Tryz.prog.underlying 26 = some (.slice 108) := Eq.trans (by kernel_rfl) rfl
@[go_sem] theorem tsz26 : tsz Tryz.prog 26 = some 1 := Eq.trans (by kernel_rfl) rfl
@[go_sem] theorem tagg26 : tagg Tryz.prog 26 = some false := Eq.trans (by kernel_rfl) rfl
@[go_sem] theorem telt26 : telt Tryz.prog 26 = some (none, 14) := Eq.trans (by kernel_rfl) rfl
@[go_sem] theorem litF26 : litF Tryz.prog 26 = some 14 := Eq.trans (by kernel_rfl) rfl
@[go_sem] theorem appF26 : appF Tryz.prog 26 = some (14, 136) := Eq.trans (by kernel_rfl) rfl
@[go_sem] theorem aapp1_26 (H : List AM.Obj) (u : TypeId) (o n : Nat) (y : V) : aapp Tryz.prog H 26 u (.sl o 0 n n) y = app1 H (some (14, 136)) (oat H o) o n (asrcB (Tryz.prog.underlying u) H y) := aapp_own appF26
@[go_sem] theorem zcells26 : zcells Tryz.prog 26 = some [.list true []] := Eq.trans (by kernel_rfl) rfl
@[go_sem] theorem und27 : Tryz.prog.underlying 27 = some (.slice 145) := Eq.trans (by kernel_rfl) rfl
@[go_sem] theorem tsz27 : tsz Tryz.prog 27 = some 1 := Eq.trans (by kernel_rfl) rfl
@[go_sem] theorem tagg27 : tagg Tryz.prog 27 = some false := Eq.trans (by kernel_rfl) rfl
@[go_sem] theorem telt27 : telt Tryz.prog 27 = some (none, 16) := Eq.trans (by kernel_rfl) rfl
@[go_sem] theorem litF27 : litF Tryz.prog 27 = some 16 := Eq.trans (by kernel_rfl) rfl
@[go_sem] theorem appF27 : appF Tryz.prog 27 = some (16, 152) := Eq.trans (by kernel_rfl) rfl
@[go_sem] theorem aapp1_27 (H : List AM.Obj) (u : TypeId) (o n : Nat) (y : V) : aapp Tryz.prog H 27 u (.sl o 0 n n) y = app1 H (some (16, 152)) (oat H o) o n (asrcB (Tryz.prog.underlying u) H y) := aapp_own appF27
@[go_sem] theorem zcells27 : zcells Tryz.prog 27 = some [.list true []] := Eq.trans (by kernel_rfl) rfl
@[go_sem] theorem und28 : Tryz.prog.underlying 28 = some (.slice 224) := Eq.trans (by kernel_rfl) rfl
@[go_sem] theorem tsz28 : tsz Tryz.prog 28 = some 1 := Eq.trans (by kernel_rfl) rfl
@[go_sem] theorem tagg28 : tagg Tryz.prog 28 = some false := Eq.trans (by kernel_rfl) rfl
@[go_sem] theorem telt28 : telt Tryz.prog 28 = some (none, 2) := Eq.trans (by kernel_rfl) rfl
@[go_sem] theorem litF28 : litF Tryz.prog 28 = some 2 := Eq.trans (by kernel_rfl) rfl
@[go_sem] theorem appF28 : appF Tryz.prog 28 = some (2, 16) := Eq.trans (by kernel_rfl) rfl
@[go_sem] theorem aapp1_28 (H : List AM.Obj) (u : TypeId) (o n : Nat) (y : V) : aapp Tryz.prog H 28 u (.sl o 0 n n) y = app1 H (some (2, 16)) (oat H o) o n (asrcB (Tryz.prog.underlying u) H y) := aapp_own appF28
@[go_sem] theorem zcells28 : zcells Tryz.prog 28 = some [.list true []] := Eq.trans (by kernel_rfl) rfl
@[go_sem] theorem tsz30 : tsz Tryz.prog 30 = some 6 := Eq.trans (by kernel_rfl) rfl
@[go_sem] theorem tagg30 : tagg Tryz.prog 30 = some true := Eq.trans (by kernel_rfl) rfl
@[go_sem] theorem tfld30_0 : tfld Tryz.prog 30 0 = some 0 := Eq.trans (by kernel_rfl) rfl
@[go_sem] theorem tfld30_1 : tfld Tryz.prog 30 1 = some 2 := Eq.trans (by kernel_rfl) rfl
@[go_sem] theorem tfld30_2 : tfld Tryz.prog 30 2 = some 3 := Eq.trans (by kernel_rfl) rfl
@[go_sem] theorem tfld30_3 : tfld Tryz.prog 30 3 = some 4 := Eq.trans (by kernel_rfl) rfl
@[go_sem] theorem tfld30_4 : tfld Tryz.prog 30 4 = some 5 := Eq.trans (by kernel_rfl) rfl
@[go_sem] theorem stood30 : Tryz.prog.stoodInHeld 30 = false := Eq.trans (by kernel_rfl) rfl
@[go_sem] theorem tpl30 : tpl Tryz.prog 30 = some (plL [(0, 2), (2, 1), (3, 1), (4, 1), (5, 1)]) := Eq.trans (by kernel_rfl) rfl
@[go_sem] theorem aeq30 (d : Nat) (a b : List PV) : aeqD Tryz.prog d 30 (Tryz.prog.underlying 30) (.agg a) (.agg b) = oand (eqP (aeqT Tryz.prog d 25) (apart Tryz.prog 25 a 0) (apart Tryz.prog 25 b 0)) (oand (eqP (aeqT Tryz.prog d 26) (apart Tryz.prog 26 a 2) (apart Tryz.prog 26 b 2)) (oand (eqP (aeqT Tryz.prog d 27) (apart Tryz.prog 27 a 3) (apart Tryz.prog 27 b 3)) (oand (eqP (aeqT Tryz.prog d 28) (apart Tryz.prog 28 a 4) (apart Tryz.prog 28 b 4)) (oand (eqP (aeqT Tryz.prog d 28) (apart Tryz.prog 28 a 5) (apart Tryz.prog 28 b 5)) (some true))))) := by rw [Tryz.underlying30, aeqD_struct stood30]; simp [aeqF_cons, aeqF_nil]
@[go_sem] theorem eqg30 : Tryz.prog.eqGuardType Tryz.prog.depth 30 = false := Eq.trans (by kernel_rfl) rfl
@[go_sem] theorem zcells30 : zcells Tryz.prog 30 = some [.list true [], .list true [], .list true [], .list true [], .list true [], .list true []] := Eq.trans (by kernel_rfl) rfl
@[go_sem] theorem und31 : Tryz.prog.underlying 31 = some (.slice 56) := Eq.trans (by kernel_rfl) rfl
@[go_sem] theorem tsz31 : tsz Tryz.prog 31 = some 1 := Eq.trans (by kernel_rfl) rfl
@[go_sem] theorem tagg31 : tagg Tryz.prog 31 = some false := Eq.trans (by kernel_rfl) rfl
@[go_sem] theorem telt31 : telt Tryz.prog 31 = some (none, 4) := Eq.trans (by kernel_rfl) rfl
@[go_sem] theorem litF31 : litF Tryz.prog 31 = some 4 := Eq.trans (by kernel_rfl) rfl
@[go_sem] theorem appF31 : appF Tryz.prog 31 = some (4, 64) := Eq.trans (by kernel_rfl) rfl
@[go_sem] theorem aapp1_31 (H : List AM.Obj) (u : TypeId) (o n : Nat) (y : V) : aapp Tryz.prog H 31 u (.sl o 0 n n) y = app1 H (some (4, 64)) (oat H o) o n (asrcB (Tryz.prog.underlying u) H y) := aapp_own appF31
@[go_sem] theorem zcells31 : zcells Tryz.prog 31 = some [.list true []] := Eq.trans (by kernel_rfl) rfl
@[go_sem] theorem und32 : Tryz.prog.underlying 32 = some (.slice 3) := Eq.trans (by kernel_rfl) rfl
@[go_sem] theorem tsz32 : tsz Tryz.prog 32 = some 1 := Eq.trans (by kernel_rfl) rfl
@[go_sem] theorem tagg32 : tagg Tryz.prog 32 = some false := Eq.trans (by kernel_rfl) rfl
@[go_sem] theorem telt32 : telt Tryz.prog 32 = some (none, 1) := Eq.trans (by kernel_rfl) rfl
@[go_sem] theorem litF32 : litF Tryz.prog 32 = some 1 := Eq.trans (by kernel_rfl) rfl
@[go_sem] theorem appF32 : appF Tryz.prog 32 = some (1, 8) := Eq.trans (by kernel_rfl) rfl
@[go_sem] theorem aapp1_32 (H : List AM.Obj) (u : TypeId) (o n : Nat) (y : V) : aapp Tryz.prog H 32 u (.sl o 0 n n) y = app1 H (some (1, 8)) (oat H o) o n (asrcB (Tryz.prog.underlying u) H y) := aapp_own appF32
@[go_sem] theorem zcells32 : zcells Tryz.prog 32 = some [.list true []] := Eq.trans (by kernel_rfl) rfl
@[go_sem] theorem tsz34 : tsz Tryz.prog 34 = some 2 := Eq.trans (by kernel_rfl) rfl
@[go_sem] theorem tagg34 : tagg Tryz.prog 34 = some true := Eq.trans (by kernel_rfl) rfl
@[go_sem] theorem tfld34_0 : tfld Tryz.prog 34 0 = some 0 := Eq.trans (by kernel_rfl) rfl
@[go_sem] theorem tfld34_1 : tfld Tryz.prog 34 1 = some 1 := Eq.trans (by kernel_rfl) rfl
@[go_sem] theorem stood34 : Tryz.prog.stoodInHeld 34 = false := Eq.trans (by kernel_rfl) rfl
@[go_sem] theorem tpl34 : tpl Tryz.prog 34 = some (plL [(0, 1), (1, 1)]) := Eq.trans (by kernel_rfl) rfl
@[go_sem] theorem aeq34 (d : Nat) (a b : List PV) : aeqD Tryz.prog d 34 (Tryz.prog.underlying 34) (.agg a) (.agg b) = oand (eqP (aeqT Tryz.prog d 31) (apart Tryz.prog 31 a 0) (apart Tryz.prog 31 b 0)) (oand (eqP (aeqT Tryz.prog d 32) (apart Tryz.prog 32 a 1) (apart Tryz.prog 32 b 1)) (some true)) := by rw [Tryz.underlying34, aeqD_struct stood34]; simp [aeqF_cons, aeqF_nil]
@[go_sem] theorem eqg34 : Tryz.prog.eqGuardType Tryz.prog.depth 34 = false := Eq.trans (by kernel_rfl) rfl
@[go_sem] theorem zcells34 : zcells Tryz.prog 34 = some [.list true [], .list true []] := Eq.trans (by kernel_rfl) rfl
@[go_sem] theorem und37 : Tryz.prog.underlying 37 = some (.slice 62) := Eq.trans (by kernel_rfl) rfl
@[go_sem] theorem tsz37 : tsz Tryz.prog 37 = some 1 := Eq.trans (by kernel_rfl) rfl
@[go_sem] theorem tagg37 : tagg Tryz.prog 37 = some false := Eq.trans (by kernel_rfl) rfl
@[go_sem] theorem telt37 : telt Tryz.prog 37 = some (none, 9) := Eq.trans (by kernel_rfl) rfl
@[go_sem] theorem litF37 : litF Tryz.prog 37 = some 9 := Eq.trans (by kernel_rfl) rfl
@[go_sem] theorem appF37 : appF Tryz.prog 37 = some (9, 88) := Eq.trans (by kernel_rfl) rfl
@[go_sem] theorem aapp1_37 (H : List AM.Obj) (u : TypeId) (o n : Nat) (y : V) : aapp Tryz.prog H 37 u (.sl o 0 n n) y = app1 H (some (9, 88)) (oat H o) o n (asrcB (Tryz.prog.underlying u) H y) := aapp_own appF37
@[go_sem] theorem zcells37 : zcells Tryz.prog 37 = some [.list true []] := Eq.trans (by kernel_rfl) rfl
@[go_sem] theorem und38 : Tryz.prog.underlying 38 = some (.int .i64) := Eq.trans (by kernel_rfl) rfl
@[go_sem] theorem tsz38 : tsz Tryz.prog 38 = some 1 := Eq.trans (by kernel_rfl) rfl
@[go_sem] theorem tagg38 : tagg Tryz.prog 38 = some false := Eq.trans (by kernel_rfl) rfl
@[go_sem] theorem zcells38 : zcells Tryz.prog 38 = some [.int .i64 0] := Eq.trans (by kernel_rfl) rfl
@[go_sem] theorem und41 : Tryz.prog.underlying 41 = some (.slice 74) := Eq.trans (by kernel_rfl) rfl
@[go_sem] theorem tsz41 : tsz Tryz.prog 41 = some 1 := Eq.trans (by kernel_rfl) rfl
@[go_sem] theorem tagg41 : tagg Tryz.prog 41 = some false := Eq.trans (by kernel_rfl) rfl
@[go_sem] theorem telt41 : telt Tryz.prog 41 = some (none, 9) := Eq.trans (by kernel_rfl) rfl
@[go_sem] theorem litF41 : litF Tryz.prog 41 = some 9 := Eq.trans (by kernel_rfl) rfl
@[go_sem] theorem appF41 : appF Tryz.prog 41 = some (9, 88) := Eq.trans (by kernel_rfl) rfl
@[go_sem] theorem aapp1_41 (H : List AM.Obj) (u : TypeId) (o n : Nat) (y : V) : aapp Tryz.prog H 41 u (.sl o 0 n n) y = app1 H (some (9, 88)) (oat H o) o n (asrcB (Tryz.prog.underlying u) H y) := aapp_own appF41
@[go_sem] theorem zcells41 : zcells Tryz.prog 41 = some [.list true []] := Eq.trans (by kernel_rfl) rfl
@[go_sem] theorem und53 : Tryz.prog.underlying 53 = some (.slice 4) := Eq.trans (by kernel_rfl) rfl
@[go_sem] theorem tsz53 : tsz Tryz.prog 53 = some 1 := Eq.trans (by kernel_rfl) rfl
@[go_sem] theorem tagg53 : tagg Tryz.prog 53 = some false := Eq.trans (by kernel_rfl) rfl
@[go_sem] theorem telt53 : telt Tryz.prog 53 = some (none, 1) := Eq.trans (by kernel_rfl) rfl
@[go_sem] theorem litF53 : litF Tryz.prog 53 = some 1 := Eq.trans (by kernel_rfl) rfl
@[go_sem] theorem appF53 : appF Tryz.prog 53 = some (1, 1) := Eq.trans (by kernel_rfl) rfl
@[go_sem] theorem aapp1_53 (H : List AM.Obj) (u : TypeId) (o n : Nat) (y : V) : aapp Tryz.prog H 53 u (.sl o 0 n n) y = app1 H (some (1, 1)) (oat H o) o n (asrcB (Tryz.prog.underlying u) H y) := aapp_own appF53
@[go_sem] theorem zcells53 : zcells Tryz.prog 53 = some [.list true []] := Eq.trans (by kernel_rfl) rfl
@[go_sem] theorem und54 : Tryz.prog.underlying 54 = some (.slice 58) := Eq.trans (by kernel_rfl) rfl
@[go_sem] theorem tsz54 : tsz Tryz.prog 54 = some 1 := Eq.trans (by kernel_rfl) rfl
@[go_sem] theorem tagg54 : tagg Tryz.prog 54 = some false := Eq.trans (by kernel_rfl) rfl
@[go_sem] theorem telt54 : telt Tryz.prog 54 = some (none, 2) := Eq.trans (by kernel_rfl) rfl
@[go_sem] theorem litF54 : litF Tryz.prog 54 = some 2 := Eq.trans (by kernel_rfl) rfl
@[go_sem] theorem appF54 : appF Tryz.prog 54 = some (2, 16) := Eq.trans (by kernel_rfl) rfl
@[go_sem] theorem aapp1_54 (H : List AM.Obj) (u : TypeId) (o n : Nat) (y : V) : aapp Tryz.prog H 54 u (.sl o 0 n n) y = app1 H (some (2, 16)) (oat H o) o n (asrcB (Tryz.prog.underlying u) H y) := aapp_own appF54
@[go_sem] theorem zcells54 : zcells Tryz.prog 54 = some [.list true []] := Eq.trans (by kernel_rfl) rfl
@[go_sem] theorem tsz56 : tsz Tryz.prog 56 = some 4 := Eq.trans (by kernel_rfl) rfl
@[go_sem] theorem tagg56 : tagg Tryz.prog 56 = some true := Eq.trans (by kernel_rfl) rfl
@[go_sem] theorem tfld56_0 : tfld Tryz.prog 56 0 = some 0 := Eq.trans (by kernel_rfl) rfl
@[go_sem] theorem tfld56_1 : tfld Tryz.prog 56 1 = some 1 := Eq.trans (by kernel_rfl) rfl
@[go_sem] theorem tfld56_2 : tfld Tryz.prog 56 2 = some 2 := Eq.trans (by kernel_rfl) rfl
@[go_sem] theorem tfld56_3 : tfld Tryz.prog 56 3 = some 3 := Eq.trans (by kernel_rfl) rfl
@[go_sem] theorem stood56 : Tryz.prog.stoodInHeld 56 = false := Eq.trans (by kernel_rfl) rfl
@[go_sem] theorem tpl56 : tpl Tryz.prog 56 = some (plL [(0, 1), (1, 1), (2, 1), (3, 1)]) := Eq.trans (by kernel_rfl) rfl
@[go_sem] theorem aeq56 (d : Nat) (a b : List PV) : aeqD Tryz.prog d 56 (Tryz.prog.underlying 56) (.agg a) (.agg b) = oand (eqP (aeqT Tryz.prog d 3) (apart Tryz.prog 3 a 0) (apart Tryz.prog 3 b 0)) (oand (eqP (aeqT Tryz.prog d 3) (apart Tryz.prog 3 a 1) (apart Tryz.prog 3 b 1)) (oand (eqP (aeqT Tryz.prog d 53) (apart Tryz.prog 53 a 2) (apart Tryz.prog 53 b 2)) (oand (eqP (aeqT Tryz.prog d 54) (apart Tryz.prog 54 a 3) (apart Tryz.prog 54 b 3)) (some true)))) := by rw [Tryz.underlying56, aeqD_struct stood56]; simp [aeqF_cons, aeqF_nil]
@[go_sem] theorem eqg56 : Tryz.prog.eqGuardType Tryz.prog.depth 56 = false := Eq.trans (by kernel_rfl) rfl
@[go_sem] theorem zcells56 : zcells Tryz.prog 56 = some [.int .i64 0, .int .i64 0, .list true [], .list true []] := Eq.trans (by kernel_rfl) rfl
@[go_sem] theorem tsz58 : tsz Tryz.prog 58 = some 2 := Eq.trans (by kernel_rfl) rfl
@[go_sem] theorem tagg58 : tagg Tryz.prog 58 = some true := Eq.trans (by kernel_rfl) rfl
@[go_sem] theorem tfld58_0 : tfld Tryz.prog 58 0 = some 0 := Eq.trans (by kernel_rfl) rfl
@[go_sem] theorem tfld58_1 : tfld Tryz.prog 58 1 = some 1 := Eq.trans (by kernel_rfl) rfl
@[go_sem] theorem stood58 : Tryz.prog.stoodInHeld 58 = false := Eq.trans (by kernel_rfl) rfl
@[go_sem] theorem tpl58 : tpl Tryz.prog 58 = some (plL [(0, 1), (1, 1)]) := Eq.trans (by kernel_rfl) rfl
@[go_sem] theorem aeq58 (d : Nat) (a b : List PV) : aeqD Tryz.prog d 58 (Tryz.prog.underlying 58) (.agg a) (.agg b) = oand (eqP (aeqT Tryz.prog d 3) (apart Tryz.prog 3 a 0) (apart Tryz.prog 3 b 0)) (oand (eqP (aeqT Tryz.prog d 4) (apart Tryz.prog 4 a 1) (apart Tryz.prog 4 b 1)) (some true)) := by rw [Tryz.underlying58, aeqD_struct stood58]; simp [aeqF_cons, aeqF_nil]
@[go_sem] theorem eqg58 : Tryz.prog.eqGuardType Tryz.prog.depth 58 = false := Eq.trans (by kernel_rfl) rfl
@[go_sem] theorem zcells58 : zcells Tryz.prog 58 = some [.int .i64 0, .bool false] := Eq.trans (by kernel_rfl) rfl
@[go_sem] theorem tsz60 : tsz Tryz.prog 60 = some 4 := Eq.trans (by kernel_rfl) rfl
@[go_sem] theorem tagg60 : tagg Tryz.prog 60 = some true := Eq.trans (by kernel_rfl) rfl
@[go_sem] theorem tfld60_0 : tfld Tryz.prog 60 0 = some 0 := Eq.trans (by kernel_rfl) rfl
@[go_sem] theorem tfld60_1 : tfld Tryz.prog 60 1 = some 1 := Eq.trans (by kernel_rfl) rfl
@[go_sem] theorem tfld60_2 : tfld Tryz.prog 60 2 = some 2 := Eq.trans (by kernel_rfl) rfl
@[go_sem] theorem tfld60_3 : tfld Tryz.prog 60 3 = some 3 := Eq.trans (by kernel_rfl) rfl
@[go_sem] theorem stood60 : Tryz.prog.stoodInHeld 60 = false := Eq.trans (by kernel_rfl) rfl
@[go_sem] theorem tpl60 : tpl Tryz.prog 60 = some (plL [(0, 1), (1, 1), (2, 1), (3, 1)]) := Eq.trans (by kernel_rfl) rfl
@[go_sem] theorem aeq60 (d : Nat) (a b : List PV) : aeqD Tryz.prog d 60 (Tryz.prog.underlying 60) (.agg a) (.agg b) = oand (eqP (aeqT Tryz.prog d 3) (apart Tryz.prog 3 a 0) (apart Tryz.prog 3 b 0)) (oand (eqP (aeqT Tryz.prog d 3) (apart Tryz.prog 3 a 1) (apart Tryz.prog 3 b 1)) (oand (eqP (aeqT Tryz.prog d 3) (apart Tryz.prog 3 a 2) (apart Tryz.prog 3 b 2)) (oand (eqP (aeqT Tryz.prog d 4) (apart Tryz.prog 4 a 3) (apart Tryz.prog 4 b 3)) (some true)))) := by rw [Tryz.underlying60, aeqD_struct stood60]; simp [aeqF_cons, aeqF_nil]
@[go_sem] theorem eqg60 : Tryz.prog.eqGuardType Tryz.prog.depth 60 = false := Eq.trans (by kernel_rfl) rfl
@[go_sem] theorem zcells60 : zcells Tryz.prog 60 = some [.int .i64 0, .int .i64 0, .int .i64 0, .bool false] := Eq.trans (by kernel_rfl) rfl
@[go_sem] theorem tsz62 : tsz Tryz.prog 62 = some 9 := Eq.trans (by kernel_rfl) rfl
@[go_sem] theorem tagg62 : tagg Tryz.prog 62 = some true := Eq.trans (by kernel_rfl) rfl
@[go_sem] theorem tfld62_0 : tfld Tryz.prog 62 0 = some 0 := Eq.trans (by kernel_rfl) rfl
@[go_sem] theorem tfld62_1 : tfld Tryz.prog 62 1 = some 1 := Eq.trans (by kernel_rfl) rfl
@[go_sem] theorem tfld62_2 : tfld Tryz.prog 62 2 = some 3 := Eq.trans (by kernel_rfl) rfl
@[go_sem] theorem tfld62_3 : tfld Tryz.prog 62 3 = some 4 := Eq.trans (by kernel_rfl) rfl
@[go_sem] theorem tfld62_4 : tfld Tryz.prog 62 4 = some 8 := Eq.trans (by kernel_rfl) rfl
@[go_sem] theorem stood62 : Tryz.prog.stoodInHeld 62 = false := Eq.trans (by kernel_rfl) rfl
@[go_sem] theorem tpl62 : tpl Tryz.prog 62 = some (plL [(0, 1), (1, 2), (3, 1), (4, 4), (8, 1)]) := Eq.trans (by kernel_rfl) rfl
@[go_sem] theorem aeq62 (d : Nat) (a b : List PV) : aeqD Tryz.prog d 62 (Tryz.prog.underlying 62) (.agg a) (.agg b) = oand (eqP (aeqT Tryz.prog d 3) (apart Tryz.prog 3 a 0) (apart Tryz.prog 3 b 0)) (oand (eqP (aeqT Tryz.prog d 58) (apart Tryz.prog 58 a 1) (apart Tryz.prog 58 b 1)) (oand (eqP (aeqT Tryz.prog d 3) (apart Tryz.prog 3 a 3) (apart Tryz.prog 3 b 3)) (oand (eqP (aeqT Tryz.prog d 60) (apart Tryz.prog 60 a 4) (apart Tryz.prog 60 b 4)) (oand (eqP (aeqT Tryz.prog d 32) (apart Tryz.prog 32 a 8) (apart Tryz.prog 32 b 8)) (some true))))) := by rw [Tryz.underlying62, aeqD_struct stood62]; simp [aeqF_cons, aeqF_nil]
@[go_sem] theorem eqg62 : Tryz.prog.eqGuardType Tryz.prog.depth 62 = false := Eq.trans (by kernel_rfl) rfl
@[go_sem] theorem zcells62 : zcells Tryz.prog 62 = some [.int .i64 0, .int .i64 0, .bool false, .int .i64 0, .int .i64 0, .int .i64 0, .int .i64 0, .bool false, .list true []] := Eq.trans (by kernel_rfl) rfl
@[go_sem] theorem tsz74 : tsz Tryz.prog 74 = some 9 := Eq.trans (by kernel_rfl) rfl
@[go_sem] theorem tagg74 : tagg Tryz.prog 74 = some true := Eq.trans (by kernel_rfl) rfl
@[go_sem] theorem tfld74_0 : tfld Tryz.prog 74 0 = some 0 := Eq.trans (by kernel_rfl) rfl
@[go_sem] theorem tfld74_1 : tfld Tryz.prog 74 1 = some 1 := Eq.trans (by kernel_rfl) rfl
@[go_sem] theorem tfld74_2 : tfld Tryz.prog 74 2 = some 3 := Eq.trans (by kernel_rfl) rfl
@[go_sem] theorem tfld74_3 : tfld Tryz.prog 74 3 = some 4 := Eq.trans (by kernel_rfl) rfl
@[go_sem] theorem tfld74_4 : tfld Tryz.prog 74 4 = some 8 := Eq.trans (by kernel_rfl) rfl
@[go_sem] theorem stood74 : Tryz.prog.stoodInHeld 74 = false := Eq.trans (by kernel_rfl) rfl
@[go_sem] theorem tpl74 : tpl Tryz.prog 74 = some (plL [(0, 1), (1, 2), (3, 1), (4, 4), (8, 1)]) := Eq.trans (by kernel_rfl) rfl
@[go_sem] theorem aeq74 (d : Nat) (a b : List PV) : aeqD Tryz.prog d 74 (Tryz.prog.underlying 74) (.agg a) (.agg b) = oand (eqP (aeqT Tryz.prog d 3) (apart Tryz.prog 3 a 0) (apart Tryz.prog 3 b 0)) (oand (eqP (aeqT Tryz.prog d 58) (apart Tryz.prog 58 a 1) (apart Tryz.prog 58 b 1)) (oand (eqP (aeqT Tryz.prog d 3) (apart Tryz.prog 3 a 3) (apart Tryz.prog 3 b 3)) (oand (eqP (aeqT Tryz.prog d 60) (apart Tryz.prog 60 a 4) (apart Tryz.prog 60 b 4)) (oand (eqP (aeqT Tryz.prog d 32) (apart Tryz.prog 32 a 8) (apart Tryz.prog 32 b 8)) (some true))))) := by rw [Tryz.underlying74, aeqD_struct stood74]; simp [aeqF_cons, aeqF_nil]
@[go_sem] theorem eqg74 : Tryz.prog.eqGuardType Tryz.prog.depth 74 = false := Eq.trans (by kernel_rfl) rfl
@[go_sem] theorem zcells74 : zcells Tryz.prog 74 = some [.int .i64 0, .int .i64 0, .bool false, .int .i64 0, .int .i64 0, .int .i64 0, .int .i64 0, .bool false, .list true []] := Eq.trans (by kernel_rfl) rfl
@[go_sem] theorem und81 : Tryz.prog.underlying 81 = some (.slice 171) := Eq.trans (by kernel_rfl) rfl
@[go_sem] theorem tsz81 : tsz Tryz.prog 81 = some 1 := Eq.trans (by kernel_rfl) rfl
@[go_sem] theorem tagg81 : tagg Tryz.prog 81 = some false := Eq.trans (by kernel_rfl) rfl
@[go_sem] theorem telt81 : telt Tryz.prog 81 = some (none, 2) := Eq.trans (by kernel_rfl) rfl
@[go_sem] theorem litF81 : litF Tryz.prog 81 = some 2 := Eq.trans (by kernel_rfl) rfl
@[go_sem] theorem appF81 : appF Tryz.prog 81 = some (2, 24) := Eq.trans (by kernel_rfl) rfl
@[go_sem] theorem aapp1_81 (H : List AM.Obj) (u : TypeId) (o n : Nat) (y : V) : aapp Tryz.prog H 81 u (.sl o 0 n n) y = app1 H (some (2, 24)) (oat H o) o n (asrcB (Tryz.prog.underlying u) H y) := aapp_own appF81
@[go_sem] theorem zcells81 : zcells Tryz.prog 81 = some [.list true []] := Eq.trans (by kernel_rfl) rfl
@[go_sem] theorem und85 : Tryz.prog.underlying 85 = some (.slice 92) := Eq.trans (by kernel_rfl) rfl
@[go_sem] theorem tsz85 : tsz Tryz.prog 85 = some 1 := Eq.trans (by kernel_rfl) rfl
@[go_sem] theorem tagg85 : tagg Tryz.prog 85 = some false := Eq.trans (by kernel_rfl) rfl
@[go_sem] theorem telt85 : telt Tryz.prog 85 = some (none, 10) := Eq.trans (by kernel_rfl) rfl
@[go_sem] theorem litF85 : litF Tryz.prog 85 = some 10 := Eq.trans (by kernel_rfl) rfl
@[go_sem] theorem appF85 : appF Tryz.prog 85 = some (10, 144) := Eq.trans (by kernel_rfl) rfl
@[go_sem] theorem aapp1_85 (H : List AM.Obj) (u : TypeId) (o n : Nat) (y : V) : aapp Tryz.prog H 85 u (.sl o 0 n n) y = app1 H (some (10, 144)) (oat H o) o n (asrcB (Tryz.prog.underlying u) H y) := aapp_own appF85
@[go_sem] theorem zcells85 : zcells Tryz.prog 85 = some [.list true []] := Eq.trans (by kernel_rfl) rfl
@[go_sem] theorem und88 : Tryz.prog.underlying 88 = some (.slice 60) := Eq.trans (by kernel_rfl) rfl
@[go_sem] theorem tsz88 : tsz Tryz.prog 88 = some 1 := Eq.trans (by kernel_rfl) rfl
@[go_sem] theorem tagg88 : tagg Tryz.prog 88 = some false := Eq.trans (by kernel_rfl) rfl
@[go_sem] theorem telt88 : telt Tryz.prog 88 = some (none, 4) := Eq.trans (by kernel_rfl) rfl
@[go_sem] theorem litF88 : litF Tryz.prog 88 = some 4 := Eq.trans (by kernel_rfl) rfl
@[go_sem] theorem appF88 : appF Tryz.prog 88 = some (4, 32) := Eq.trans (by kernel_rfl) rfl
@[go_sem] theorem aapp1_88 (H : List AM.Obj) (u : TypeId) (o n : Nat) (y : V) : aapp Tryz.prog H 88 u (.sl o 0 n n) y = app1 H (some (4, 32)) (oat H o) o n (asrcB (Tryz.prog.underlying u) H y) := aapp_own appF88
@[go_sem] theorem zcells88 : zcells Tryz.prog 88 = some [.list true []] := Eq.trans (by kernel_rfl) rfl
@[go_sem] theorem tsz90 : tsz Tryz.prog 90 = some 5 := Eq.trans (by kernel_rfl) rfl
@[go_sem] theorem tagg90 : tagg Tryz.prog 90 = some true := Eq.trans (by kernel_rfl) rfl
@[go_sem] theorem tfld90_0 : tfld Tryz.prog 90 0 = some 0 := Eq.trans (by kernel_rfl) rfl
@[go_sem] theorem tfld90_1 : tfld Tryz.prog 90 1 = some 1 := Eq.trans (by kernel_rfl) rfl
@[go_sem] theorem tfld90_2 : tfld Tryz.prog 90 2 = some 2 := Eq.trans (by kernel_rfl) rfl
@[go_sem] theorem tfld90_3 : tfld Tryz.prog 90 3 = some 3 := Eq.trans (by kernel_rfl) rfl
@[go_sem] theorem tfld90_4 : tfld Tryz.prog 90 4 = some 4 := Eq.trans (by kernel_rfl) rfl
@[go_sem] theorem stood90 : Tryz.prog.stoodInHeld 90 = false := Eq.trans (by kernel_rfl) rfl
@[go_sem] theorem tpl90 : tpl Tryz.prog 90 = some (plL [(0, 1), (1, 1), (2, 1), (3, 1), (4, 1)]) := Eq.trans (by kernel_rfl) rfl
@[go_sem] theorem aeq90 (d : Nat) (a b : List PV) : aeqD Tryz.prog d 90 (Tryz.prog.underlying 90) (.agg a) (.agg b) = oand (eqP (aeqT Tryz.prog d 4) (apart Tryz.prog 4 a 0) (apart Tryz.prog 4 b 0)) (oand (eqP (aeqT Tryz.prog d 3) (apart Tryz.prog 3 a 1) (apart Tryz.prog 3 b 1)) (oand (eqP (aeqT Tryz.prog d 88) (apart Tryz.prog 88 a 2) (apart Tryz.prog 88 b 2)) (oand (eqP (aeqT Tryz.prog d 3) (apart Tryz.prog 3 a 3) (apart Tryz.prog 3 b 3)) (oand (eqP (aeqT Tryz.prog d 3) (apart Tryz.prog 3 a 4) (apart Tryz.prog 3 b 4)) (some true))))) := by rw [Tryz.underlying90, aeqD_struct stood90]; simp [aeqF_cons, aeqF_nil]
@[go_sem] theorem eqg90 : Tryz.prog.eqGuardType Tryz.prog.depth 90 = false := Eq.trans (by kernel_rfl) rfl
@[go_sem] theorem zcells90 : zcells Tryz.prog 90 = some [.bool false, .int .i64 0, .list true [], .int .i64 0, .int .i64 0] := Eq.trans (by kernel_rfl) rfl
@[go_sem] theorem tsz92 : tsz Tryz.prog 92 = some 10 := Eq.trans (by kernel_rfl) rfl
@[go_sem] theorem tagg92 : tagg Tryz.prog 92 = some true := Eq.trans (by kernel_rfl) rfl
@[go_sem] theorem tfld92_0 : tfld Tryz.prog 92 0 = some 0 := Eq.trans (by kernel_rfl) rfl
@[go_sem] theorem tfld92_1 : tfld Tryz.prog 92 1 = some 4 := Eq.trans (by kernel_rfl) rfl
@[go_sem] theorem tfld92_2 : tfld Tryz.prog 92 2 = some 9 := Eq.trans (by kernel_rfl) rfl
@[go_sem] theorem stood92 : Tryz.prog.stoodInHeld 92 = false := Eq.trans (by kernel_rfl) rfl
@[go_sem] theorem tpl92 : tpl Tryz.prog 92 = some (plL [(0, 4), (4, 5), (9, 1)]) := Eq.trans (by kernel_rfl) rfl
@[go_sem] theorem aeq92 (d : Nat) (a b : List PV) : aeqD Tryz.prog d 92 (Tryz.prog.underlying 92) (.agg a) (.agg b) = oand (eqP (aeqT Tryz.prog d 56) (apart Tryz.prog 56 a 0) (apart Tryz.prog 56 b 0)) (oand (eqP (aeqT Tryz.prog d 90) (apart Tryz.prog 90 a 4) (apart Tryz.prog 90 b 4)) (oand (eqP (aeqT Tryz.prog d 37) (apart Tryz.prog 37 a 9) (apart Tryz.prog 37 b 9)) (some true))) := by rw [Tryz.underlying92, aeqD_struct stood92]; simp [aeqF_cons, aeqF_nil]
@[go_sem] theorem eqg92 : Tryz.prog.eqGuardType Tryz.prog.depth 92 = false := Eq.trans (by kernel_rfl) rfl
@[go_sem] theorem zcells92 : zcells Tryz.prog 92 = some [.int .i64 0, .int .i64 0, .list true [], .list true [], .bool false, .int .i64 0, .list true [], .int .i64 0, .int .i64 0, .list true []] := Eq.trans (by kernel_rfl) rfl
@[go_sem] theorem tsz94 : tsz Tryz.prog 94 = some 4 := Eq.trans (by kernel_rfl) rfl
@[go_sem] theorem tagg94 : tagg Tryz.prog 94 = some true := Eq.trans (by kernel_rfl) rfl
@[go_sem] theorem tfld94_0 : tfld Tryz.prog 94 0 = some 0 := Eq.trans (by kernel_rfl) rfl
@[go_sem] theorem tfld94_1 : tfld Tryz.prog 94 1 = some 1 := Eq.trans (by kernel_rfl) rfl
@[go_sem] theorem tfld94_2 : tfld Tryz.prog 94 2 = some 2 := Eq.trans (by kernel_rfl) rfl
@[go_sem] theorem tfld94_3 : tfld Tryz.prog 94 3 = some 3 := Eq.trans (by kernel_rfl) rfl
@[go_sem] theorem stood94 : Tryz.prog.stoodInHeld 94 = false := Eq.trans (by kernel_rfl) rfl
@[go_sem] theorem tpl94 : tpl Tryz.prog 94 = some (plL [(0, 1), (1, 1), (2, 1), (3, 1)]) := Eq.trans (by kernel_rfl) rfl
@[go_sem] theorem aeq94 (d : Nat) (a b : List PV) : aeqD Tryz.prog d 94 (Tryz.prog.underlying 94) (.agg a) (.agg b) = oand (eqP (aeqT Tryz.prog d 3) (apart Tryz.prog 3 a 0) (apart Tryz.prog 3 b 0)) (oand (eqP (aeqT Tryz.prog d 3) (apart Tryz.prog 3 a 1) (apart Tryz.prog 3 b 1)) (oand (eqP (aeqT Tryz.prog d 3) (apart Tryz.prog 3 a 2) (apart Tryz.prog 3 b 2)) (oand (eqP (aeqT Tryz.prog d 3) (apart Tryz.prog 3 a 3) (apart Tryz.prog 3 b 3)) (some true)))) := by rw [Tryz.underlying94, aeqD_struct stood94]; simp [aeqF_cons, aeqF_nil]
@[go_sem] theorem eqg94 : Tryz.prog.eqGuardType Tryz.prog.depth 94 = false := Eq.trans (by kernel_rfl) rfl
@[go_sem] theorem zcells94 : zcells Tryz.prog 94 = some [.int .i64 0, .int .i64 0, .int .i64 0, .int .i64 0] := Eq.trans (by kernel_rfl) rfl
@[go_sem] theorem und97 : Tryz.prog.underlying 97 = some (.slice 32) := Eq.trans (by kernel_rfl) rfl
@[go_sem] theorem tsz97 : tsz Tryz.prog 97 = some 1 := Eq.trans (by kernel_rfl) rfl
@[go_sem] theorem tagg97 : tagg Tryz.prog 97 = some false := Eq.trans (by kernel_rfl) rfl
@[go_sem] theorem telt97 : telt Tryz.prog 97 = some (none, 1) := Eq.trans (by kernel_rfl) rfl
@[go_sem] theorem litF97 : litF Tryz.prog 97 = some 1 := Eq.trans (by kernel_rfl) rfl
@[go_sem] theorem appF97 : appF Tryz.prog 97 = some (1, 24) := Eq.trans (by kernel_rfl) rfl
@[go_sem] theorem aapp1_97 (H : List AM.Obj) (u : TypeId) (o n : Nat) (y : V) : aapp Tryz.prog H 97 u (.sl o 0 n n) y = app1 H (some (1, 24)) (oat H o) o n (asrcB (Tryz.prog.underlying u) H y) := aapp_own appF97
@[go_sem] theorem zcells97 : zcells Tryz.prog 97 = some [.list true []] := Eq.trans (by kernel_rfl) rfl
@[go_sem] theorem tsz101 : tsz Tryz.prog 101 = some 4 := Eq.trans (by kernel_rfl) rfl
@[go_sem] theorem tagg101 : tagg Tryz.prog 101 = some true := Eq.trans (by kernel_rfl) rfl
@[go_sem] theorem tfld101_0 : tfld Tryz.prog 101 0 = some 0 := Eq.trans (by kernel_rfl) rfl
@[go_sem] theorem tfld101_1 : tfld Tryz.prog 101 1 = some 1 := Eq.trans (by kernel_rfl) rfl
@[go_sem] theorem tfld101_2 : tfld Tryz.prog 101 2 = some 2 := Eq.trans (by kernel_rfl) rfl
@[go_sem] theorem tfld101_3 : tfld Tryz.prog 101 3 = some 3 := Eq.trans (by kernel_rfl) rfl
@[go_sem] theorem stood101 : Tryz.prog.stoodInHeld 101 = false := Eq.trans (by kernel_rfl) rfl
@[go_sem] theorem tpl101 : tpl Tryz.prog 101 = some (plL [(0, 1), (1, 1), (2, 1), (3, 1)]) := Eq.trans (by kernel_rfl) rfl
@[go_sem] theorem aeq101 (d : Nat) (a b : List PV) : aeqD Tryz.prog d 101 (Tryz.prog.underlying 101) (.agg a) (.agg b) = oand (eqP (aeqT Tryz.prog d 3) (apart Tryz.prog 3 a 0) (apart Tryz.prog 3 b 0)) (oand (eqP (aeqT Tryz.prog d 3) (apart Tryz.prog 3 a 1) (apart Tryz.prog 3 b 1)) (oand (eqP (aeqT Tryz.prog d 3) (apart Tryz.prog 3 a 2) (apart Tryz.prog 3 b 2)) (oand (eqP (aeqT Tryz.prog d 3) (apart Tryz.prog 3 a 3) (apart Tryz.prog 3 b 3)) (some true)))) := by rw [Tryz.underlying101, aeqD_struct stood101]; simp [aeqF_cons, aeqF_nil]
@[go_sem] theorem eqg101 : Tryz.prog.eqGuardType Tryz.prog.depth 101 = false := Eq.trans (by kernel_rfl) rfl
@[go_sem] theorem zcells101 : zcells Tryz.prog 101 = some [.int .i64 0, .int .i64 0, .int .i64 0, .int .i64 0] := Eq.trans (by kernel_rfl) rfl
@[go_sem] theorem tsz108 : tsz Tryz.prog 108 = some 14 := Eq.trans (by kernel_rfl) rfl
@[go_sem] theorem tagg108 : tagg Tryz.prog 108 = some true := Eq.trans (by kernel_rfl) rfl
@[go_sem] theorem tfld108_0 : tfld Tryz.prog 108 0 = some 0 := Eq.trans (by kernel_rfl) rfl
@[go_sem] theorem tfld108_1 : tfld Tryz.prog 108 1 = some 1 := Eq.trans (by kernel_rfl) rfl
@[go_sem] theorem tfld108_2 : tfld Tryz.prog 108 2 = some 2 := Eq.trans (by kernel_rfl) rfl
@[go_sem] theorem tfld108_3 : tfld Tryz.prog 108 3 = some 3 := Eq.trans (by kernel_rfl) rfl
@[go_sem] theorem tfld108_4 : tfld Tryz.prog 108 4 = some 4 := Eq.trans (by kernel_rfl) rfl
@[go_sem] theorem tfld108_5 : tfld Tryz.prog 108 5 = some 5 := Eq.trans (by kernel_rfl) rfl
@[go_sem] theorem tfld108_6 : tfld Tryz.prog 108 6 = some 6 := Eq.trans (by kernel_rfl) rfl
@[go_sem] theorem tfld108_7 : tfld Tryz.prog 108 7 = some 7 := Eq.trans (by kernel_rfl) rfl
@[go_sem] theorem tfld108_8 : tfld Tryz.prog 108 8 = some 8 := Eq.trans (by kernel_rfl) rfl
@[go_sem] theorem tfld108_9 : tfld Tryz.prog 108 9 = some 9 := Eq.trans (by kernel_rfl) rfl
@[go_sem] theorem tfld108_10 : tfld Tryz.prog 108 10 = some 10 := Eq.trans (by kernel_rfl) rfl
@[go_sem] theorem tfld108_11 : tfld Tryz.prog 108 11 = some 11 := Eq.trans (by kernel_rfl) rfl
@[go_sem] theorem tfld108_12 : tfld Tryz.prog 108 12 = some 12 := Eq.trans (by kernel_rfl) rfl
@[go_sem] theorem tfld108_13 : tfld Tryz.prog 108 13 = some 13 := Eq.trans (by kernel_rfl) rfl
@[go_sem] theorem stood108 : Tryz.prog.stoodInHeld 108 = false := Eq.trans (by kernel_rfl) rfl
@[go_sem] theorem tpl108 : tpl Tryz.prog 108 = some (plL [(0, 1), (1, 1), (2, 1), (3, 1), (4, 1), (5, 1), (6, 1), (7, 1), (8, 1), (9, 1), (10, 1), (11, 1), (12, 1), (13, 1)]) := Eq.trans (by kernel_rfl) rfl
@[go_sem] theorem aeq108 (d : Nat) (a b : List PV) : aeqD Tryz.prog d 108 (Tryz.prog.underlying 108) (.agg a) (.agg b) = oand (eqP (aeqT Tryz.prog d 9) (apart Tryz.prog 9 a 0) (apart Tryz.prog 9 b 0)) (oand (eqP (aeqT Tryz.prog d 3) (apart Tryz.prog 3 a 1) (apart Tryz.prog 3 b 1)) (oand (eqP (aeqT Tryz.prog d 3) (apart Tryz.prog 3 a 2) (apart Tryz.prog 3 b 2)) (oand (eqP (aeqT Tryz.prog d 3) (apart Tryz.prog 3 a 3) (apart Tryz.prog 3 b 3)) (oand (eqP (aeqT Tryz.prog d 32) (apart Tryz.prog 32 a 4) (apart Tryz.prog 32 b 4)) (oand (eqP (aeqT Tryz.prog d 3) (apart Tryz.prog 3 a 5) (apart Tryz.prog 3 b 5)) (oand (eqP (aeqT Tryz.prog d 3) (apart Tryz.prog 3 a 6) (apart Tryz.prog 3 b 6)) (oand (eqP (aeqT Tryz.prog d 3) (apart Tryz.prog 3 a 7) (apart Tryz.prog 3 b 7)) (oand (eqP (aeqT Tryz.prog d 3) (apart Tryz.prog 3 a 8) (apart Tryz.prog 3 b 8)) (oand (eqP (aeqT Tryz.prog d 3) (apart Tryz.prog 3 a 9) (apart Tryz.prog 3 b 9)) (oand (eqP (aeqT Tryz.prog d 3) (apart Tryz.prog 3 a 10) (apart Tryz.prog 3 b 10)) (oand (eqP (aeqT Tryz.prog d 3) (apart Tryz.prog 3 a 11) (apart Tryz.prog 3 b 11)) (oand (eqP (aeqT Tryz.prog d 3) (apart Tryz.prog 3 a 12) (apart Tryz.prog 3 b 12)) (oand (eqP (aeqT Tryz.prog d 3) (apart Tryz.prog 3 a 13) (apart Tryz.prog 3 b 13)) (some true)))))))))))))) := by rw [Tryz.underlying108, aeqD_struct stood108]; simp [aeqF_cons, aeqF_nil]
@[go_sem] theorem eqg108 : Tryz.prog.eqGuardType Tryz.prog.depth 108 = false := Eq.trans (by kernel_rfl) rfl
@[go_sem] theorem zcells108 : zcells Tryz.prog 108 = some [.str [], .int .i64 0, .int .i64 0, .int .i64 0, .list true [], .int .i64 0, .int .i64 0, .int .i64 0, .int .i64 0, .int .i64 0, .int .i64 0, .int .i64 0, .int .i64 0, .int .i64 0] := Eq.trans (by kernel_rfl) rfl
@[go_sem] theorem tsz116 : tsz Tryz.prog 116 = some 1 := Eq.trans (by kernel_rfl) rfl
@[go_sem] theorem tagg116 : tagg Tryz.prog 116 = some false := Eq.trans (by kernel_rfl) rfl
@[go_sem] theorem zcells116 : zcells Tryz.prog 116 = some [.nilp] := Eq.trans (by kernel_rfl) rfl
@[go_sem] theorem und117 : Tryz.prog.underlying 117 = some (.slice 5) := Eq.trans (by kernel_rfl) rfl
@[go_sem] theorem tsz117 : tsz Tryz.prog 117 = some 1 := Eq.trans (by kernel_rfl) rfl
@[go_sem] theorem tagg117 : tagg Tryz.prog 117 = some false := Eq.trans (by kernel_rfl) rfl
@[go_sem] theorem telt117 : telt Tryz.prog 117 = some (none, 1) := Eq.trans (by kernel_rfl) rfl
@[go_sem] theorem litF117 : litF Tryz.prog 117 = some 1 := Eq.trans (by kernel_rfl) rfl
@[go_sem] theorem appF117 : appF Tryz.prog 117 = some (1, 1) := Eq.trans (by kernel_rfl) rfl
@[go_sem] theorem aapp1_117 (H : List AM.Obj) (u : TypeId) (o n : Nat) (y : V) : aapp Tryz.prog H 117 u (.sl o 0 n n) y = app1 H (some (1, 1)) (oat H o) o n (asrcB (Tryz.prog.underlying u) H y) := aapp_own appF117
@[go_sem] theorem zcells117 : zcells Tryz.prog 117 = some [.list true []] := Eq.trans (by kernel_rfl) rfl
@[go_sem] theorem tsz119 : tsz Tryz.prog 119 = some 2 := Eq.trans (by kernel_rfl) rfl
@[go_sem] theorem tagg119 : tagg Tryz.prog 119 = some true := Eq.trans (by kernel_rfl) rfl
@[go_sem] theorem tfld119_0 : tfld Tryz.prog 119 0 = some 0 := Eq.trans (by kernel_rfl) rfl
@[go_sem] theorem tfld119_1 : tfld Tryz.prog 119 1 = some 1 := Eq.trans (by kernel_rfl) rfl
@[go_sem] theorem stood119 : Tryz.prog.stoodInHeld 119 = false := Eq.trans (by kernel_rfl) rfl
@[go_sem] theorem tpl119 : tpl Tryz.prog 119 = some (plL [(0, 1), (1, 1)]) := Eq.trans (by kernel_rfl) rfl
@[go_sem] theorem aeq119 (d : Nat) (a b : List PV) : aeqD Tryz.prog d 119 (Tryz.prog.underlying 119) (.agg a) (.agg b) = oand (eqP (aeqT Tryz.prog d 116) (apart Tryz.prog 116 a 0) (apart Tryz.prog 116 b 0)) (oand (eqP (aeqT Tryz.prog d 117) (apart Tryz.prog 117 a 1) (apart Tryz.prog 117 b 1)) (some true)) := by rw [Tryz.underlying119, aeqD_struct stood119]; simp [aeqF_cons, aeqF_nil]
@[go_sem] theorem eqg119 : Tryz.prog.eqGuardType Tryz.prog.depth 119 = false := Eq.trans (by kernel_rfl) rfl
@[go_sem] theorem zcells119 : zcells Tryz.prog 119 = some [.nilp, .list true []] := Eq.trans (by kernel_rfl) rfl
@[go_sem] theorem tsz121 : tsz Tryz.prog 121 = some 1 := Eq.trans (by kernel_rfl) rfl
@[go_sem] theorem tagg121 : tagg Tryz.prog 121 = some false := Eq.trans (by kernel_rfl) rfl
@[go_sem] theorem zcells121 : zcells Tryz.prog 121 = some [.nili] := Eq.trans (by kernel_rfl) rfl
@[go_sem] theorem tsz140 : tsz Tryz.prog 140 = some 2 := Eq.trans (by kernel_rfl) rfl
@[go_sem] theorem tagg140 : tagg Tryz.prog 140 = some true := Eq.trans (by kernel_rfl) rfl
@[go_sem] theorem tfld140_0 : tfld Tryz.prog 140 0 = some 0 := Eq.trans (by kernel_rfl) rfl
@[go_sem] theorem tfld140_1 : tfld Tryz.prog 140 1 = some 1 := Eq.trans (by kernel_rfl) rfl
@[go_sem] theorem stood140 : Tryz.prog.stoodInHeld 140 = false := Eq.trans (by kernel_rfl) rfl
@[go_sem] theorem tpl140 : tpl Tryz.prog 140 = some (plL [(0, 1), (1, 1)]) := Eq.trans (by kernel_rfl) rfl
@[go_sem] theorem aeq140 (d : Nat) (a b : List PV) : aeqD Tryz.prog d 140 (Tryz.prog.underlying 140) (.agg a) (.agg b) = oand (eqP (aeqT Tryz.prog d 3) (apart Tryz.prog 3 a 0) (apart Tryz.prog 3 b 0)) (oand (eqP (aeqT Tryz.prog d 3) (apart Tryz.prog 3 a 1) (apart Tryz.prog 3 b 1)) (some true)) := by rw [Tryz.underlying140, aeqD_struct stood140]; simp [aeqF_cons, aeqF_nil]
@[go_sem] theorem eqg140 : Tryz.prog.eqGuardType Tryz.prog.depth 140 = false := Eq.trans (by kernel_rfl) rfl
@[go_sem] theorem zcells140 : zcells Tryz.prog 140 = some [.int .i64 0, .int .i64 0] := Eq.trans (by kernel_rfl) rfl
@[go_sem] theorem und141 : Tryz.prog.underlying 141 = some (.slice 140) := Eq.trans (by kernel_rfl) rfl
@[go_sem] theorem tsz141 : tsz Tryz.prog 141 = some 1 := Eq.trans (by kernel_rfl) rfl
@[go_sem] theorem tagg141 : tagg Tryz.prog 141 = some false := Eq.trans (by kernel_rfl) rfl
@[go_sem] theorem telt141 : telt Tryz.prog 141 = some (none, 2) := Eq.trans (by kernel_rfl) rfl
@[go_sem] theorem litF141 : litF Tryz.prog 141 = some 2 := Eq.trans (by kernel_rfl) rfl
@[go_sem] theorem appF141 : appF Tryz.prog 141 = some (2, 16) := Eq.trans (by kernel_rfl) rfl
@[go_sem] theorem aapp1_141 (H : List AM.Obj) (u : TypeId) (o n : Nat) (y : V) : aapp Tryz.prog H 141 u (.sl o 0 n n) y = app1 H (some (2, 16)) (oat H o) o n (asrcB (Tryz.prog.underlying u) H y) := aapp_own appF141
@[go_sem] theorem zcells141 : zcells Tryz.prog 141 = some [.list true []] := Eq.trans (by kernel_rfl) rfl
@[go_sem] theorem tsz143 : tsz Tryz.prog 143 = some 6 := Eq.trans (by kernel_rfl) rfl
@[go_sem] theorem tagg143 : tagg Tryz.prog 143 = some true := Eq.trans (by kernel_rfl) rfl
@[go_sem] theorem tfld143_0 : tfld Tryz.prog 143 0 = some 0 := Eq.trans (by kernel_rfl) rfl
@[go_sem] theorem tfld143_1 : tfld Tryz.prog 143 1 = some 1 := Eq.trans (by kernel_rfl) rfl
@[go_sem] theorem tfld143_2 : tfld Tryz.prog 143 2 = some 2 := Eq.trans (by kernel_rfl) rfl
@[go_sem] theorem tfld143_3 : tfld Tryz.prog 143 3 = some 3 := Eq.trans (by kernel_rfl) rfl
@[go_sem] theorem tfld143_4 : tfld Tryz.prog 143 4 = some 4 := Eq.trans (by kernel_rfl) rfl
@[go_sem] theorem tfld143_5 : tfld Tryz.prog 143 5 = some 5 := Eq.trans (by kernel_rfl) rfl
@[go_sem] theorem stood143 : Tryz.prog.stoodInHeld 143 = false := Eq.trans (by kernel_rfl) rfl
@[go_sem] theorem tpl143 : tpl Tryz.prog 143 = some (plL [(0, 1), (1, 1), (2, 1), (3, 1), (4, 1), (5, 1)]) := Eq.trans (by kernel_rfl) rfl
@[go_sem] theorem aeq143 (d : Nat) (a b : List PV) : aeqD Tryz.prog d 143 (Tryz.prog.underlying 143) (.agg a) (.agg b) = oand (eqP (aeqT Tryz.prog d 3) (apart Tryz.prog 3 a 0) (apart Tryz.prog 3 b 0)) (oand (eqP (aeqT Tryz.prog d 3) (apart Tryz.prog 3 a 1) (apart Tryz.prog 3 b 1)) (oand (eqP (aeqT Tryz.prog d 3) (apart Tryz.prog 3 a 2) (apart Tryz.prog 3 b 2)) (oand (eqP (aeqT Tryz.prog d 3) (apart Tryz.prog 3 a 3) (apart Tryz.prog 3 b 3)) (oand (eqP (aeqT Tryz.prog d 141) (apart Tryz.prog 141 a 4) (apart Tryz.prog 141 b 4)) (oand (eqP (aeqT Tryz.prog d 141) (apart Tryz.prog 141 a 5) (apart Tryz.prog 141 b 5)) (some true)))))) := by rw [Tryz.underlying143, aeqD_struct stood143]; simp [aeqF_cons, aeqF_nil]
@[go_sem] theorem eqg143 : Tryz.prog.eqGuardType Tryz.prog.depth 143 = false := Eq.trans (by kernel_rfl) rfl
@[go_sem] theorem zcells143 : zcells Tryz.prog 143 = some [.int .i64 0, .int .i64 0, .int .i64 0, .int .i64 0, .list true [], .list true []] := Eq.trans (by kernel_rfl) rfl
@[go_sem] theorem tsz145 : tsz Tryz.prog 145 = some 16 := Eq.trans (by kernel_rfl) rfl
@[go_sem] theorem tagg145 : tagg Tryz.prog 145 = some true := Eq.trans (by kernel_rfl) rfl
@[go_sem] theorem tfld145_0 : tfld Tryz.prog 145 0 = some 0 := Eq.trans (by kernel_rfl) rfl
@[go_sem] theorem tfld145_1 : tfld Tryz.prog 145 1 = some 1 := Eq.trans (by kernel_rfl) rfl
@[go_sem] theorem tfld145_2 : tfld Tryz.prog 145 2 = some 2 := Eq.trans (by kernel_rfl) rfl
@[go_sem] theorem tfld145_3 : tfld Tryz.prog 145 3 = some 6 := Eq.trans (by kernel_rfl) rfl
@[go_sem] theorem tfld145_4 : tfld Tryz.prog 145 4 = some 10 := Eq.trans (by kernel_rfl) rfl
@[go_sem] theorem tfld145_5 : tfld Tryz.prog 145 5 = some 11 := Eq.trans (by kernel_rfl) rfl
@[go_sem] theorem tfld145_6 : tfld Tryz.prog 145 6 = some 12 := Eq.trans (by kernel_rfl) rfl
@[go_sem] theorem tfld145_7 : tfld Tryz.prog 145 7 = some 13 := Eq.trans (by kernel_rfl) rfl
@[go_sem] theorem tfld145_8 : tfld Tryz.prog 145 8 = some 14 := Eq.trans (by kernel_rfl) rfl
@[go_sem] theorem tfld145_9 : tfld Tryz.prog 145 9 = some 15 := Eq.trans (by kernel_rfl) rfl
@[go_sem] theorem stood145 : Tryz.prog.stoodInHeld 145 = false := Eq.trans (by kernel_rfl) rfl
@[go_sem] theorem tpl145 : tpl Tryz.prog 145 = some (plL [(0, 1), (1, 1), (2, 4), (6, 4), (10, 1), (11, 1), (12, 1), (13, 1), (14, 1), (15, 1)]) := Eq.trans (by kernel_rfl) rfl
@[go_sem] theorem aeq145 (d : Nat) (a b : List PV) : aeqD Tryz.prog d 145 (Tryz.prog.underlying 145) (.agg a) (.agg b) = oand (eqP (aeqT Tryz.prog d 9) (apart Tryz.prog 9 a 0) (apart Tryz.prog 9 b 0)) (oand (eqP (aeqT Tryz.prog d 32) (apart Tryz.prog 32 a 1) (apart Tryz.prog 32 b 1)) (oand (eqP (aeqT Tryz.prog d 101) (apart Tryz.prog 101 a 2) (apart Tryz.prog 101 b 2)) (oand (eqP (aeqT Tryz.prog d 101) (apart Tryz.prog 101 a 6) (apart Tryz.prog 101 b 6)) (oand (eqP (aeqT Tryz.prog d 3) (apart Tryz.prog 3 a 10) (apart Tryz.prog 3 b 10)) (oand (eqP (aeqT Tryz.prog d 3) (apart Tryz.prog 3 a 11) (apart Tryz.prog 3 b 11)) (oand (eqP (aeqT Tryz.prog d 3) (apart Tryz.prog 3 a 12) (apart Tryz.prog 3 b 12)) (oand (eqP (aeqT Tryz.prog d 3) (apart Tryz.prog 3 a 13) (apart Tryz.prog 3 b 13)) (oand (eqP (aeqT Tryz.prog d 3) (apart Tryz.prog 3 a 14) (apart Tryz.prog 3 b 14)) (oand (eqP (aeqT Tryz.prog d 4) (apart Tryz.prog 4 a 15) (apart Tryz.prog 4 b 15)) (some true)))))))))) := by rw [Tryz.underlying145, aeqD_struct stood145]; simp [aeqF_cons, aeqF_nil]
@[go_sem] theorem eqg145 : Tryz.prog.eqGuardType Tryz.prog.depth 145 = false := Eq.trans (by kernel_rfl) rfl
@[go_sem] theorem zcells145 : zcells Tryz.prog 145 = some [.str [], .list true [], .int .i64 0, .int .i64 0, .int .i64 0, .int .i64 0, .int .i64 0, .int .i64 0, .int .i64 0, .int .i64 0, .int .i64 0, .int .i64 0, .int .i64 0, .int .i64 0, .int .i64 0, .bool false] := Eq.trans (by kernel_rfl) rfl
@[go_sem] theorem tsz146 : tsz Tryz.prog 146 = some 1 := Eq.trans (by kernel_rfl) rfl
@[go_sem] theorem tagg146 : tagg Tryz.prog 146 = some false := Eq.trans (by kernel_rfl) rfl
@[go_sem] theorem zcells146 : zcells Tryz.prog 146 = some [.nilf] := Eq.trans (by kernel_rfl) rfl
@[go_sem] theorem und155 : Tryz.prog.underlying 155 = some (.int .u64) := Eq.trans (by kernel_rfl) rfl
@[go_sem] theorem tsz155 : tsz Tryz.prog 155 = some 1 := Eq.trans (by kernel_rfl) rfl
@[go_sem] theorem tagg155 : tagg Tryz.prog 155 = some false := Eq.trans (by kernel_rfl) rfl
@[go_sem] theorem zcells155 : zcells Tryz.prog 155 = some [.int .u64 0] := Eq.trans (by kernel_rfl) rfl
@[go_sem] theorem tsz161 : tsz Tryz.prog 161 = some 1 := Eq.trans (by kernel_rfl) rfl
@[go_sem] theorem tagg161 : tagg Tryz.prog 161 = some false := Eq.trans (by kernel_rfl) rfl
@[go_sem] theorem zcells161 : zcells Tryz.prog 161 = some [.nilp] := Eq.trans (by kernel_rfl) rfl
@[go_sem] theorem tsz171 : tsz Tryz.prog 171 = some 2 := Eq.trans (by kernel_rfl) rfl
@[go_sem] theorem tagg171 : tagg Tryz.prog 171 = some true := Eq.trans (by kernel_rfl) rfl
@[go_sem] theorem tfld171_0 : tfld Tryz.prog 171 0 = some 0 := Eq.trans (by kernel_rfl) rfl
@[go_sem] theorem tfld171_1 : tfld Tryz.prog 171 1 = some 1 := Eq.trans (by kernel_rfl) rfl
@[go_sem] theorem stood171 : Tryz.prog.stoodInHeld 171 = false := Eq.trans (by kernel_rfl) rfl
@[go_sem] theorem tpl171 : tpl Tryz.prog 171 = some (plL [(0, 1), (1, 1)]) := Eq.trans (by kernel_rfl) rfl
@[go_sem] theorem aeq171 (d : Nat) (a b : List PV) : aeqD Tryz.prog d 171 (Tryz.prog.underlying 171) (.agg a) (.agg b) = oand (eqP (aeqT Tryz.prog d 38) (apart Tryz.prog 38 a 0) (apart Tryz.prog 38 b 0)) (oand (eqP (aeqT Tryz.prog d 9) (apart Tryz.prog 9 a 1) (apart Tryz.prog 9 b 1)) (some true)) := by rw [Tryz.underlying171, aeqD_struct stood171]; simp [aeqF_cons, aeqF_nil]
@[go_sem] theorem eqg171 : Tryz.prog.eqGuardType Tryz.prog.depth 171 = false := Eq.trans (by kernel_rfl) rfl
@[go_sem] theorem zcells171 : zcells Tryz.prog 171 = some [.int .i64 0, .str []] := Eq.trans (by kernel_rfl) rfl
@[go_sem] theorem und174 : Tryz.prog.underlying 174 = some (.slice 38) := Eq.trans (by kernel_rfl) rfl
@[go_sem] theorem tsz174 : tsz Tryz.prog 174 = some 1 := Eq.trans (by kernel_rfl) rfl
@[go_sem] theorem tagg174 : tagg Tryz.prog 174 = some false := Eq.trans (by kernel_rfl) rfl
@[go_sem] theorem telt174 : telt Tryz.prog 174 = some (none, 1) := Eq.trans (by kernel_rfl) rfl
@[go_sem] theorem litF174 : litF Tryz.prog 174 = some 1 := Eq.trans (by kernel_rfl) rfl
@[go_sem] theorem appF174 : appF Tryz.prog 174 = some (1, 8) := Eq.trans (by kernel_rfl) rfl
@[go_sem] theorem aapp1_174 (H : List AM.Obj) (u : TypeId) (o n : Nat) (y : V) : aapp Tryz.prog H 174 u (.sl o 0 n n) y = app1 H (some (1, 8)) (oat H o) o n (asrcB (Tryz.prog.underlying u) H y) := aapp_own appF174
@[go_sem] theorem zcells174 : zcells Tryz.prog 174 = some [.list true []] := Eq.trans (by kernel_rfl) rfl
@[go_sem] theorem und178 : Tryz.prog.underlying 178 = some (.slice 146) := Eq.trans (by kernel_rfl) rfl
@[go_sem] theorem tsz178 : tsz Tryz.prog 178 = some 1 := Eq.trans (by kernel_rfl) rfl
@[go_sem] theorem tagg178 : tagg Tryz.prog 178 = some false := Eq.trans (by kernel_rfl) rfl
@[go_sem] theorem telt178 : telt Tryz.prog 178 = some (none, 1) := Eq.trans (by kernel_rfl) rfl
@[go_sem] theorem litF178 : litF Tryz.prog 178 = some 1 := Eq.trans (by kernel_rfl) rfl
@[go_sem] theorem appF178 : appF Tryz.prog 178 = some (1, 8) := Eq.trans (by kernel_rfl) rfl
@[go_sem] theorem aapp1_178 (H : List AM.Obj) (u : TypeId) (o n : Nat) (y : V) : aapp Tryz.prog H 178 u (.sl o 0 n n) y = app1 H (some (1, 8)) (oat H o) o n (asrcB (Tryz.prog.underlying u) H y) := aapp_own appF178
@[go_sem] theorem zcells178 : zcells Tryz.prog 178 = some [.list true []] := Eq.trans (by kernel_rfl) rfl
@[go_sem] theorem und194 : Tryz.prog.underlying 194 = some (.int .i64) := Eq.trans (by kernel_rfl) rfl
@[go_sem] theorem tsz194 : tsz Tryz.prog 194 = some 1 := Eq.trans (by kernel_rfl) rfl
@[go_sem] theorem tagg194 : tagg Tryz.prog 194 = some false := Eq.trans (by kernel_rfl) rfl
@[go_sem] theorem zcells194 : zcells Tryz.prog 194 = some [.int .i64 0] := Eq.trans (by kernel_rfl) rfl
@[go_sem] theorem und202 : Tryz.prog.underlying 202 = some (.int .u32) := Eq.trans (by kernel_rfl) rfl
@[go_sem] theorem tsz202 : tsz Tryz.prog 202 = some 1 := Eq.trans (by kernel_rfl) rfl
@[go_sem] theorem tagg202 : tagg Tryz.prog 202 = some false := Eq.trans (by kernel_rfl) rfl
@[go_sem] theorem zcells202 : zcells Tryz.prog 202 = some [.int .u32 0] := Eq.trans (by kernel_rfl) rfl
@[go_sem] theorem und204 : Tryz.prog.underlying 204 = some (.int .u64) := Eq.trans (by kernel_rfl) rfl
@[go_sem] theorem tsz204 : tsz Tryz.prog 204 = some 1 := Eq.trans (by kernel_rfl) rfl
@[go_sem] theorem tagg204 : tagg Tryz.prog 204 = some false := Eq.trans (by kernel_rfl) rfl
@[go_sem] theorem zcells204 : zcells Tryz.prog 204 = some [.int .u64 0] := Eq.trans (by kernel_rfl) rfl
@[go_sem] theorem und209 : Tryz.prog.underlying 209 = some (.array 4 3) := Eq.trans (by kernel_rfl) rfl
@[go_sem] theorem tsz209 : tsz Tryz.prog 209 = some 4 := Eq.trans (by kernel_rfl) rfl
@[go_sem] theorem tagg209 : tagg Tryz.prog 209 = some true := Eq.trans (by kernel_rfl) rfl
@[go_sem] theorem telt209 : telt Tryz.prog 209 = some ((some 4), 1) := Eq.trans (by kernel_rfl) rfl
@[go_sem] theorem tpl209 : tpl Tryz.prog 209 = some (plA 1) := Eq.trans (by kernel_rfl) rfl
@[go_sem] theorem aeq209 (d : Nat) (a b : List PV) : aeqD Tryz.prog d 209 (some (.array 4 3)) (.agg a) (.agg b) = aeqA (aeqT Tryz.prog d 3) Tryz.prog 3 1 4 0 a b := aeqD_array tsz3
@[go_sem] theorem eqg209 : Tryz.prog.eqGuardType Tryz.prog.depth 209 = false := Eq.trans (by kernel_rfl) rfl
@[go_sem] theorem zcells209 : zcells Tryz.prog 209 = some [.int .i64 0, .int .i64 0, .int .i64 0, .int .i64 0] := Eq.trans (by kernel_rfl) rfl
@[go_sem] theorem tsz214 : tsz Tryz.prog 214 = some 1 := Eq.trans (by kernel_rfl) rfl
@[go_sem] theorem tagg214 : tagg Tryz.prog 214 = some false := Eq.trans (by kernel_rfl) rfl
@[go_sem] theorem zcells214 : zcells Tryz.prog 214 = some [.nilp] := Eq.trans (by kernel_rfl) rfl
@[go_sem] theorem und224 : Tryz.prog.underlying 224 = some (.array 2 3) := Eq.trans (by kernel_rfl) rfl
@[go_sem] theorem tsz224 : tsz Tryz.prog 224 = some 2 := Eq.trans (by kernel_rfl) rfl
@[go_sem] theorem tagg224 : tagg Tryz.prog 224 = some true := Eq.trans (by kernel_rfl) rfl
@[go_sem] theorem telt224 : telt Tryz.prog 224 = some ((some 2), 1) := Eq.trans (by kernel_rfl) rfl
@[go_sem] theorem tpl224 : tpl Tryz.prog 224 = some (plA 1) := Eq.trans (by kernel_rfl) rfl
@[go_sem] theorem aeq224 (d : Nat) (a b : List PV) : aeqD Tryz.prog d 224 (some (.array 2 3)) (.agg a) (.agg b) = aeqA (aeqT Tryz.prog d 3) Tryz.prog 3 1 2 0 a b := aeqD_array tsz3
@[go_sem] theorem eqg224 : Tryz.prog.eqGuardType Tryz.prog.depth 224 = false := Eq.trans (by kernel_rfl) rfl
@[go_sem] theorem zcells224 : zcells Tryz.prog 224 = some [.int .i64 0, .int .i64 0] := Eq.trans (by kernel_rfl) rfl
@[go_sem] theorem und231 : Tryz.prog.underlying 231 = some (.slice 101) := Eq.trans (by kernel_rfl) rfl
@[go_sem] theorem tsz231 : tsz Tryz.prog 231 = some 1 := Eq.trans (by kernel_rfl) rfl
@[go_sem] theorem tagg231 : tagg Tryz.prog 231 = some false := Eq.trans (by kernel_rfl) rfl
@[go_sem] theorem telt231 : telt Tryz.prog 231 = some (none, 4) := Eq.trans (by kernel_rfl) rfl
@[go_sem] theorem litF231 : litF Tryz.prog 231 = some 4 := Eq.trans (by kernel_rfl) rfl
@[go_sem] theorem appF231 : appF Tryz.prog 231 = some (4, 32) := Eq.trans (by kernel_rfl) rfl
@[go_sem] theorem aapp1_231 (H : List AM.Obj) (u : TypeId) (o n : Nat) (y : V) : aapp Tryz.prog H 231 u (.sl o 0 n n) y = app1 H (some (4, 32)) (oat H o) o n (asrcB (Tryz.prog.underlying u) H y) := aapp_own appF231
@[go_sem] theorem zcells231 : zcells Tryz.prog 231 = some [.list true []] := Eq.trans (by kernel_rfl) rfl
@[go_sem] theorem tsz233 : tsz Tryz.prog 233 = some 25 := Eq.trans (by kernel_rfl) rfl
@[go_sem] theorem tagg233 : tagg Tryz.prog 233 = some true := Eq.trans (by kernel_rfl) rfl
@[go_sem] theorem tfld233_0 : tfld Tryz.prog 233 0 = some 0 := Eq.trans (by kernel_rfl) rfl
@[go_sem] theorem tfld233_1 : tfld Tryz.prog 233 1 = some 6 := Eq.trans (by kernel_rfl) rfl
@[go_sem] theorem tfld233_2 : tfld Tryz.prog 233 2 = some 20 := Eq.trans (by kernel_rfl) rfl
@[go_sem] theorem tfld233_3 : tfld Tryz.prog 233 3 = some 24 := Eq.trans (by kernel_rfl) rfl
@[go_sem] theorem stood233 : Tryz.prog.stoodInHeld 233 = false := Eq.trans (by kernel_rfl) rfl
@[go_sem] theorem tpl233 : tpl Tryz.prog 233 = some (plL [(0, 6), (6, 14), (20, 4), (24, 1)]) := Eq.trans (by kernel_rfl) rfl
@[go_sem] theorem aeq233 (d : Nat) (a b : List PV) : aeqD Tryz.prog d 233 (Tryz.prog.underlying 233) (.agg a) (.agg b) = oand (eqP (aeqT Tryz.prog d 30) (apart Tryz.prog 30 a 0) (apart Tryz.prog 30 b 0)) (oand (eqP (aeqT Tryz.prog d 108) (apart Tryz.prog 108 a 6) (apart Tryz.prog 108 b 6)) (oand (eqP (aeqT Tryz.prog d 56) (apart Tryz.prog 56 a 20) (apart Tryz.prog 56 b 20)) (oand (eqP (aeqT Tryz.prog d 231) (apart Tryz.prog 231 a 24) (apart Tryz.prog 231 b 24)) (some true)))) := by rw [Tryz.underlying233, aeqD_struct stood233]; simp [aeqF_cons, aeqF_nil]
@[go_sem] theorem eqg233 : Tryz.prog.eqGuardType Tryz.prog.depth 233 = false := Eq.trans (by kernel_rfl) rfl
@[go_sem] theorem zcells233 : zcells Tryz.prog 233 = some [.list true [], .list true [], .list true [], .list true [], .list true [], .list true [], .str [], .int .i64 0, .int .i64 0, .int .i64 0, .list true [], .int .i64 0, .int .i64 0, .int .i64 0, .int .i64 0, .int .i64 0, .int .i64 0, .int .i64 0, .int .i64 0, .int .i64 0, .int .i64 0, .int .i64 0, .list true [], .list true [], .list true []] := Eq.trans (by kernel_rfl) rfl
@[go_sem] theorem tsz237 : tsz Tryz.prog 237 = some 7 := Eq.trans (by kernel_rfl) rfl
@[go_sem] theorem tagg237 : tagg Tryz.prog 237 = some true := Eq.trans (by kernel_rfl) rfl
@[go_sem] theorem tfld237_0 : tfld Tryz.prog 237 0 = some 0 := Eq.trans (by kernel_rfl) rfl
@[go_sem] theorem tfld237_1 : tfld Tryz.prog 237 1 = some 1 := Eq.trans (by kernel_rfl) rfl
@[go_sem] theorem tfld237_2 : tfld Tryz.prog 237 2 = some 2 := Eq.trans (by kernel_rfl) rfl
@[go_sem] theorem stood237 : Tryz.prog.stoodInHeld 237 = false := Eq.trans (by kernel_rfl) rfl
@[go_sem] theorem tpl237 : tpl Tryz.prog 237 = some (plL [(0, 1), (1, 1), (2, 5)]) := Eq.trans (by kernel_rfl) rfl
@[go_sem] theorem aeq237 (d : Nat) (a b : List PV) : aeqD Tryz.prog d 237 (Tryz.prog.underlying 237) (.agg a) (.agg b) = oand (eqP (aeqT Tryz.prog d 3) (apart Tryz.prog 3 a 0) (apart Tryz.prog 3 b 0)) (oand (eqP (aeqT Tryz.prog d 3) (apart Tryz.prog 3 a 1) (apart Tryz.prog 3 b 1)) (oand (eqP (aeqT Tryz.prog d 90) (apart Tryz.prog 90 a 2) (apart Tryz.prog 90 b 2)) (some true))) := by rw [Tryz.underlying237, aeqD_struct stood237]; simp [aeqF_cons, aeqF_nil]
@[go_sem] theorem eqg237 : Tryz.prog.eqGuardType Tryz.prog.depth 237 = false := Eq.trans (by kernel_rfl) rfl
@[go_sem] theorem zcells237 : zcells Tryz.prog 237 = some [.int .i64 0, .int .i64 0, .bool false, .int .i64 0, .list true [], .int .i64 0, .int .i64 0] := Eq.trans (by kernel_rfl) rfl
@[go_sem] theorem und239 : Tryz.prog.underlying 239 = some (.slice 237) := Eq.trans (by kernel_rfl) rfl
@[go_sem] theorem tsz239 : tsz Tryz.prog 239 = some 1 := Eq.trans (by kernel_rfl) rfl
@[go_sem] theorem tagg239 : tagg Tryz.prog 239 = some false := Eq.trans (by kernel_rfl) rfl
@[go_sem] theorem telt239 : telt Tryz.prog 239 = some (none, 7) := Eq.trans (by kernel_rfl) rfl
@[go_sem] theorem litF239 : litF Tryz.prog 239 = some 7 := Eq.trans (by kernel_rfl) rfl
@[go_sem] theorem appF239 : appF Tryz.prog 239 = some (7, 72) := Eq.trans (by kernel_rfl) rfl
@[go_sem] theorem aapp1_239 (H : List AM.Obj) (u : TypeId) (o n : Nat) (y : V) : aapp Tryz.prog H 239 u (.sl o 0 n n) y = app1 H (some (7, 72)) (oat H o) o n (asrcB (Tryz.prog.underlying u) H y) := aapp_own appF239
@[go_sem] theorem zcells239 : zcells Tryz.prog 239 = some [.list true []] := Eq.trans (by kernel_rfl) rfl
@[go_sem] theorem tsz242 : tsz Tryz.prog 242 = some 1 := Eq.trans (by kernel_rfl) rfl
@[go_sem] theorem tagg242 : tagg Tryz.prog 242 = some false := Eq.trans (by kernel_rfl) rfl
@[go_sem] theorem zcells242 : zcells Tryz.prog 242 = some [.nilm] := Eq.trans (by kernel_rfl) rfl
@[go_sem] theorem und253 : Tryz.prog.underlying 253 = some (.int .u64) := Eq.trans (by kernel_rfl) rfl
@[go_sem] theorem tsz253 : tsz Tryz.prog 253 = some 1 := Eq.trans (by kernel_rfl) rfl
@[go_sem] theorem tagg253 : tagg Tryz.prog 253 = some false := Eq.trans (by kernel_rfl) rfl
@[go_sem] theorem zcells253 : zcells Tryz.prog 253 = some [.int .u64 0] := Eq.trans (by kernel_rfl) rfl
@[go_sem] theorem tsz274 : tsz Tryz.prog 274 = some 4 := Eq.trans (by kernel_rfl) rfl
@[go_sem] theorem tagg274 : tagg Tryz.prog 274 = some true := Eq.trans (by kernel_rfl) rfl
@[go_sem] theorem tfld274_0 : tfld Tryz.prog 274 0 = some 0 := Eq.trans (by kernel_rfl) rfl
@[go_sem] theorem tfld274_1 : tfld Tryz.prog 274 1 = some 1 := Eq.trans (by kernel_rfl) rfl
@[go_sem] theorem tfld274_2 : tfld Tryz.prog 274 2 = some 2 := Eq.trans (by kernel_rfl) rfl
@[go_sem] theorem tfld274_3 : tfld Tryz.prog 274 3 = some 3 := Eq.trans (by kernel_rfl) rfl
@[go_sem] theorem stood274 : Tryz.prog.stoodInHeld 274 = false := Eq.trans (by kernel_rfl) rfl
@[go_sem] theorem tpl274 : tpl Tryz.prog 274 = some (plL [(0, 1), (1, 1), (2, 1), (3, 1)]) := Eq.trans (by kernel_rfl) rfl
@[go_sem] theorem aeq274 (d : Nat) (a b : List PV) : aeqD Tryz.prog d 274 (Tryz.prog.underlying 274) (.agg a) (.agg b) = oand (eqP (aeqT Tryz.prog d 3) (apart Tryz.prog 3 a 0) (apart Tryz.prog 3 b 0)) (oand (eqP (aeqT Tryz.prog d 3) (apart Tryz.prog 3 a 1) (apart Tryz.prog 3 b 1)) (oand (eqP (aeqT Tryz.prog d 3) (apart Tryz.prog 3 a 2) (apart Tryz.prog 3 b 2)) (oand (eqP (aeqT Tryz.prog d 3) (apart Tryz.prog 3 a 3) (apart Tryz.prog 3 b 3)) (some true)))) := by rw [Tryz.underlying274, aeqD_struct stood274]; simp [aeqF_cons, aeqF_nil]
@[go_sem] theorem eqg274 : Tryz.prog.eqGuardType Tryz.prog.depth 274 = false := Eq.trans (by kernel_rfl) rfl
@[go_sem] theorem zcells274 : zcells Tryz.prog 274 = some [.int .i64 0, .int .i64 0, .int .i64 0, .int .i64 0] := Eq.trans (by kernel_rfl) rfl
@[go_sem] theorem und293 : Tryz.prog.underlying 293 = some (.array 24 5) := Eq.trans (by kernel_rfl) rfl
@[go_sem] theorem tsz293 : tsz Tryz.prog 293 = some 24 := Eq.trans (by kernel_rfl) rfl
@[go_sem] theorem tagg293 : tagg Tryz.prog 293 = some true := Eq.trans (by kernel_rfl) rfl
@[go_sem] theorem telt293 : telt Tryz.prog 293 = some ((some 24), 1) := Eq.trans (by kernel_rfl) rfl
@[go_sem] theorem tpl293 : tpl Tryz.prog 293 = some (plA 1) := Eq.trans (by kernel_rfl) rfl
@[go_sem] theorem aeq293 (d : Nat) (a b : List PV) : aeqD Tryz.prog d 293 (some (.array 24 5)) (.agg a) (.agg b) = aeqA (aeqT Tryz.prog d 5) Tryz.prog 5 1 24 0 a b := aeqD_array tsz5
@[go_sem] theorem eqg293 : Tryz.prog.eqGuardType Tryz.prog.depth 293 = false := Eq.trans (by kernel_rfl) rfl
@[go_sem] theorem zcells293 : zcells Tryz.prog 293 = some [.int .u8 0, .int .u8 0, .int .u8 0, .int .u8 0, .int .u8 0, .int .u8 0, .int .u8 0, .int .u8 0, .int .u8 0, .int .u8 0, .int .u8 0, .int .u8 0, .int .u8 0, .int .u8 0, .int .u8 0, .int .u8 0, .int .u8 0, .int .u8 0, .int .u8 0, .int .u8 0, .int .u8 0, .int .u8 0, .int .u8 0, .int .u8 0] := Eq.trans (by kernel_rfl) rfl
@[go_sem] theorem und310 : Tryz.prog.underlying 310 = some (.array 20 204) := Eq.trans (by kernel_rfl) rfl
@[go_sem] theorem tsz310 : tsz Tryz.prog 310 = some 20 := Eq.trans (by kernel_rfl) rfl
@[go_sem] theorem tagg310 : tagg Tryz.prog 310 = some true := Eq.trans (by kernel_rfl) rfl
@[go_sem] theorem telt310 : telt Tryz.prog 310 = some ((some 20), 1) := Eq.trans (by kernel_rfl) rfl
@[go_sem] theorem tpl310 : tpl Tryz.prog 310 = some (plA 1) := Eq.trans (by kernel_rfl) rfl
@[go_sem] theorem aeq310 (d : Nat) (a b : List PV) : aeqD Tryz.prog d 310 (some (.array 20 204)) (.agg a) (.agg b) = aeqA (aeqT Tryz.prog d 204) Tryz.prog 204 1 20 0 a b := aeqD_array tsz204
@[go_sem] theorem eqg310 : Tryz.prog.eqGuardType Tryz.prog.depth 310 = false := Eq.trans (by kernel_rfl) rfl
@[go_sem] theorem zcells310 : zcells Tryz.prog 310 = some [.int .u64 0, .int .u64 0, .int .u64 0, .int .u64 0, .int .u64 0, .int .u64 0, .int .u64 0, .int .u64 0, .int .u64 0, .int .u64 0, .int .u64 0, .int .u64 0, .int .u64 0, .int .u64 0, .int .u64 0, .int .u64 0, .int .u64 0, .int .u64 0, .int .u64 0, .int .u64 0] := Eq.trans (by kernel_rfl) rfl
@[go_sem] theorem und311 : Tryz.prog.underlying 311 = some (.array 65 5) := Eq.trans (by kernel_rfl) rfl
@[go_sem] theorem tsz311 : tsz Tryz.prog 311 = some 65 := Eq.trans (by kernel_rfl) rfl
@[go_sem] theorem tagg311 : tagg Tryz.prog 311 = some true := Eq.trans (by kernel_rfl) rfl
@[go_sem] theorem telt311 : telt Tryz.prog 311 = some ((some 65), 1) := Eq.trans (by kernel_rfl) rfl
@[go_sem] theorem tpl311 : tpl Tryz.prog 311 = some (plA 1) := Eq.trans (by kernel_rfl) rfl
@[go_sem] theorem aeq311 (d : Nat) (a b : List PV) : aeqD Tryz.prog d 311 (some (.array 65 5)) (.agg a) (.agg b) = aeqA (aeqT Tryz.prog d 5) Tryz.prog 5 1 65 0 a b := aeqD_array tsz5
@[go_sem] theorem eqg311 : Tryz.prog.eqGuardType Tryz.prog.depth 311 = false := Eq.trans (by kernel_rfl) rfl
@[go_sem] theorem tsz316 : tsz Tryz.prog 316 = some 3 := Eq.trans (by kernel_rfl) rfl
@[go_sem] theorem tagg316 : tagg Tryz.prog 316 = some true := Eq.trans (by kernel_rfl) rfl
@[go_sem] theorem tfld316_0 : tfld Tryz.prog 316 0 = some 0 := Eq.trans (by kernel_rfl) rfl
@[go_sem] theorem tfld316_1 : tfld Tryz.prog 316 1 = some 1 := Eq.trans (by kernel_rfl) rfl
@[go_sem] theorem tfld316_2 : tfld Tryz.prog 316 2 = some 2 := Eq.trans (by kernel_rfl) rfl
@[go_sem] theorem stood316 : Tryz.prog.stoodInHeld 316 = false := Eq.trans (by kernel_rfl) rfl
@[go_sem] theorem tpl316 : tpl Tryz.prog 316 = some (plL [(0, 1), (1, 1), (2, 1)]) := Eq.trans (by kernel_rfl) rfl
@[go_sem] theorem eqg316 : Tryz.prog.eqGuardType Tryz.prog.depth 316 = true := Eq.trans (by kernel_rfl) rfl
@[go_sem] theorem zcells316 : zcells Tryz.prog 316 = some [.str [], .str [], .nili] := Eq.trans (by kernel_rfl) rfl
@[go_sem] theorem tsz319 : tsz Tryz.prog 319 = some 3 := Eq.trans (by kernel_rfl) rfl
@[go_sem] theorem tagg319 : tagg Tryz.prog 319 = some true := Eq.trans (by kernel_rfl) rfl
@[go_sem] theorem tfld319_0 : tfld Tryz.prog 319 0 = some 0 := Eq.trans (by kernel_rfl) rfl
@[go_sem] theorem tfld319_1 : tfld Tryz.prog 319 1 = some 1 := Eq.trans (by kernel_rfl) rfl
@[go_sem] theorem tfld319_2 : tfld Tryz.prog 319 2 = some 2 := Eq.trans (by kernel_rfl) rfl
@[go_sem] theorem stood319 : Tryz.prog.stoodInHeld 319 = false := Eq.trans (by kernel_rfl) rfl
@[go_sem] theorem tpl319 : tpl Tryz.prog 319 = some (plL [(0, 1), (1, 1), (2, 1)]) := Eq.trans (by kernel_rfl) rfl
@[go_sem] theorem aeq319 (d : Nat) (a b : List PV) : aeqD Tryz.prog d 319 (Tryz.prog.underlying 319) (.agg a) (.agg b) = oand (eqP (aeqT Tryz.prog d 3) (apart Tryz.prog 3 a 0) (apart Tryz.prog 3 b 0)) (oand (eqP (aeqT Tryz.prog d 3) (apart Tryz.prog 3 a 1) (apart Tryz.prog 3 b 1)) (oand (eqP (aeqT Tryz.prog d 3) (apart Tryz.prog 3 a 2) (apart Tryz.prog 3 b 2)) (some true))) := by rw [Tryz.underlying319, aeqD_struct stood319]; simp [aeqF_cons, aeqF_nil]
@[go_sem] theorem eqg319 : Tryz.prog.eqGuardType Tryz.prog.depth 319 = false := Eq.trans (by kernel_rfl) rfl
@[go_sem] theorem zcells319 : zcells Tryz.prog 319 = some [.int .i64 0, .int .i64 0, .int .i64 0] := Eq.trans (by kernel_rfl) rfl
@[go_sem] theorem tsz325 : tsz Tryz.prog 325 = some 1 := Eq.trans (by kernel_rfl) rfl
@[go_sem] theorem tagg325 : tagg Tryz.prog 325 = some true := Eq.trans (by kernel_rfl) rfl
@[go_sem] theorem tfld325_0 : tfld Tryz.prog 325 0 = some 0 := Eq.trans (by kernel_rfl) rfl
@[go_sem] theorem stood325 : Tryz.prog.stoodInHeld 325 = false := Eq.trans (by kernel_rfl) rfl
@[go_sem] theorem tpl325 : tpl Tryz.prog 325 = some (plL [(0, 1)]) := Eq.trans (by kernel_rfl) rfl
@[go_sem] theorem aeq325 (d : Nat) (a b : List PV) : aeqD Tryz.prog d 325 (Tryz.prog.underlying 325) (.agg a) (.agg b) = oand (eqP (aeqT Tryz.prog d 9) (apart Tryz.prog 9 a 0) (apart Tryz.prog 9 b 0)) (some true) := by rw [Tryz.underlying325, aeqD_struct stood325]; simp [aeqF_cons, aeqF_nil]
@[go_sem] theorem eqg325 : Tryz.prog.eqGuardType Tryz.prog.depth 325 = false := Eq.trans (by kernel_rfl) rfl
@[go_sem] theorem zcells325 : zcells Tryz.prog 325 = some [.str []] := Eq.trans (by kernel_rfl) rfl
@[go_sem] theorem und327 : Tryz.prog.underlying 327 = some (.array 32 5) := Eq.trans (by kernel_rfl) rfl
@[go_sem] theorem tsz327 : tsz Tryz.prog 327 = some 32 := Eq.trans (by kernel_rfl) rfl
@[go_sem] theorem tagg327 : tagg Tryz.prog 327 = some true := Eq.trans (by kernel_rfl) rfl
@[go_sem] theorem telt327 : telt Tryz.prog 327 = some ((some 32), 1) := Eq.trans (by kernel_rfl) rfl
@[go_sem] theorem tpl327 : tpl Tryz.prog 327 = some (plA 1) := Eq.trans (by kernel_rfl) rfl
@[go_sem] theorem aeq327 (d : Nat) (a b : List PV) : aeqD Tryz.prog d 327 (some (.array 32 5)) (.agg a) (.agg b) = aeqA (aeqT Tryz.prog d 5) Tryz.prog 5 1 32 0 a b := aeqD_array tsz5
@[go_sem] theorem eqg327 : Tryz.prog.eqGuardType Tryz.prog.depth 327 = false := Eq.trans (by kernel_rfl) rfl
@[go_sem] theorem zcells327 : zcells Tryz.prog 327 = some [.int .u8 0, .int .u8 0, .int .u8 0, .int .u8 0, .int .u8 0, .int .u8 0, .int .u8 0, .int .u8 0, .int .u8 0, .int .u8 0, .int .u8 0, .int .u8 0, .int .u8 0, .int .u8 0, .int .u8 0, .int .u8 0, .int .u8 0, .int .u8 0, .int .u8 0, .int .u8 0, .int .u8 0, .int .u8 0, .int .u8 0, .int .u8 0, .int .u8 0, .int .u8 0, .int .u8 0, .int .u8 0, .int .u8 0, .int .u8 0, .int .u8 0, .int .u8 0] := Eq.trans (by kernel_rfl) rfl
@[go_sem] theorem und328 : Tryz.prog.underlying 328 = some (.array 64 5) := Eq.trans (by kernel_rfl) rfl
@[go_sem] theorem tsz328 : tsz Tryz.prog 328 = some 64 := Eq.trans (by kernel_rfl) rfl
@[go_sem] theorem tagg328 : tagg Tryz.prog 328 = some true := Eq.trans (by kernel_rfl) rfl
@[go_sem] theorem telt328 : telt Tryz.prog 328 = some ((some 64), 1) := Eq.trans (by kernel_rfl) rfl
@[go_sem] theorem tpl328 : tpl Tryz.prog 328 = some (plA 1) := Eq.trans (by kernel_rfl) rfl
@[go_sem] theorem aeq328 (d : Nat) (a b : List PV) : aeqD Tryz.prog d 328 (some (.array 64 5)) (.agg a) (.agg b) = aeqA (aeqT Tryz.prog d 5) Tryz.prog 5 1 64 0 a b := aeqD_array tsz5
@[go_sem] theorem eqg328 : Tryz.prog.eqGuardType Tryz.prog.depth 328 = false := Eq.trans (by kernel_rfl) rfl
@[go_sem] theorem zcells328 : zcells Tryz.prog 328 = some [.int .u8 0, .int .u8 0, .int .u8 0, .int .u8 0, .int .u8 0, .int .u8 0, .int .u8 0, .int .u8 0, .int .u8 0, .int .u8 0, .int .u8 0, .int .u8 0, .int .u8 0, .int .u8 0, .int .u8 0, .int .u8 0, .int .u8 0, .int .u8 0, .int .u8 0, .int .u8 0, .int .u8 0, .int .u8 0, .int .u8 0, .int .u8 0, .int .u8 0, .int .u8 0, .int .u8 0, .int .u8 0, .int .u8 0, .int .u8 0, .int .u8 0, .int .u8 0, .int .u8 0, .int .u8 0, .int .u8 0, .int .u8 0, .int .u8 0, .int .u8 0, .int .u8 0, .int .u8 0, .int .u8 0, .int .u8 0, .int .u8 0, .int .u8 0, .int .u8 0, .int .u8 0, .int .u8 0, .int .u8 0, .int .u8 0, .int .u8 0, .int .u8 0, .int .u8 0, .int .u8 0, .int .u8 0, .int .u8 0, .int .u8 0, .int .u8 0, .int .u8 0, .int .u8 0, .int .u8 0, .int .u8 0, .int .u8 0, .int .u8 0, .int .u8 0] := Eq.trans (by kernel_rfl) rfl
theorem isF8 : IsFun Tryz.prog 8 := fun args w => Tryz.call8 args w
theorem isF26 : IsFun Tryz.prog 26 := fun args w => Tryz.call26 args w
theorem isF27 : IsFun Tryz.prog 27 := fun args w => Tryz.call27 args w
theorem isF30 : IsFun Tryz.prog 30 := fun args w => Tryz.call30 args w
theorem isF31 : IsFun Tryz.prog 31 := fun args w => Tryz.call31 args w
theorem isF32 : IsFun Tryz.prog 32 := fun args w => Tryz.call32 args w
theorem isF33 : IsFun Tryz.prog 33 := fun args w => Tryz.call33 args w
theorem isF50 : IsFun Tryz.prog 50 := fun args w => Tryz.call50 args w
theorem isF53 : IsFun Tryz.prog 53 := fun args w => Tryz.call53 args w
theorem isF55 : IsFun Tryz.prog 55 := fun args w => Tryz.call55 args w
theorem isF56 : IsFun Tryz.prog 56 := fun args w => Tryz.call56 args w
theorem isF57 : IsFun Tryz.prog 57 := fun args w => Tryz.call57 args w
theorem isF73 : IsFun Tryz.prog 73 := fun args w => Tryz.call73 args w
theorem isF81 : IsFun Tryz.prog 81 := fun args w => Tryz.call81 args w
theorem isF84 : IsFun Tryz.prog 84 := fun args w => Tryz.call84 args w
theorem isF107 : IsFun Tryz.prog 107 := fun args w => Tryz.call107 args w
theorem isF112 : IsFun Tryz.prog 112 := fun args w => Tryz.call112 args w
theorem isF166 : IsFun Tryz.prog 166 := fun args w => Tryz.call166 args w
theorem isF167 : IsFun Tryz.prog 167 := fun args w => Tryz.call167 args w
theorem isF168 : IsFun Tryz.prog 168 := fun args w => Tryz.call168 args w
theorem isF169 : IsFun Tryz.prog 169 := fun args w => Tryz.call169 args w
theorem isF170 : IsFun Tryz.prog 170 := fun args w => Tryz.call170 args w
theorem isF171 : IsFun Tryz.prog 171 := fun args w => Tryz.call171 args w
theorem isF172 : IsFun Tryz.prog 172 := fun args w => Tryz.call172 args w
theorem isF211 : IsFun Tryz.prog 211 := fun args w => Tryz.call211 args w
theorem isF212 : IsFun Tryz.prog 212 := fun args w => Tryz.call212 args w
theorem isF213 : IsFun Tryz.prog 213 := fun args w => Tryz.call213 args w
theorem isF214 : IsFun Tryz.prog 214 := fun args w => Tryz.call214 args w
theorem isF215 : IsFun Tryz.prog 215 := fun args w => Tryz.call215 args w
theorem isF216 : IsFun Tryz.prog 216 := fun args w => Tryz.call216 args w
theorem isF234 : IsFun Tryz.prog 234 := fun args w => Tryz.call234 args w
theorem mixed : Tryz.prog.follows .mixedOrders = true := by kernel_rfl
end Go.Proofs.YtccjopdlbolnhaaGreatDoor.K
