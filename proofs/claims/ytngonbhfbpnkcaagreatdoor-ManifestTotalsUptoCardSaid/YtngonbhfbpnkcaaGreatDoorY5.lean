/- Declarations that the closing texts need, part 5: joined by tools/slim.py. -/
import Derived.Test.YtngonbhfbpnkcaaGreatDoorY4
import Derived.KernelRfl
namespace Go.Proofs.YtngonbhfbpnkcaaGreatDoor.K
open Go Go.AM Go.Proofs
@[go_sem] theorem und3 : Tryz.prog.underlying 3 = some (.int .i64) := Eq.trans (by kernel_rfl) rfl
@[go_sem] theorem tsz3 : tsz Tryz.prog 3 = some 1 := Eq.trans (by kernel_rfl) rfl
@[go_sem] theorem tagg3 : tagg Tryz.prog 3 = some false := Eq.trans (by kernel_rfl) rfl
@[go_sem] theorem und4 : Tryz.prog.underlying 4 = some .bool := Eq.trans (by kernel_rfl) rfl
@[go_sem] theorem tsz4 : tsz Tryz.prog 4 = some 1 := Eq.trans (by kernel_rfl) rfl
@[go_sem] theorem tagg4 : tagg Tryz.prog 4 = some false := Eq.trans (by kernel_rfl) rfl
@[go_sem] theorem und5 : Tryz.prog.underlying 5 = some (.int .u8) := Eq.trans (by kernel_rfl) rfl
@[go_sem] theorem und9 : Tryz.prog.underlying 9 = some .string := Eq.trans (by kernel_rfl) rfl
@[go_sem] theorem tsz9 : tsz Tryz.prog 9 = some 1 := Eq.trans (by kernel_rfl) rfl
@[go_sem] theorem tagg9 : tagg Tryz.prog 9 = some false := Eq.trans (by kernel_rfl) rfl
@[go_sem] theorem und22 : Tryz.prog.underlying 22 = some (.slice 9) := Eq.trans (by kernel_rfl) rfl
@[go_sem] theorem tsz22 : tsz Tryz.prog 22 = some 1 := Eq.trans (by kernel_rfl) rfl
@[go_sem] theorem tagg22 : tagg Tryz.prog 22 = some false := Eq.trans (by kernel_rfl) rfl
@[go_sem] theorem telt22 : telt Tryz.prog 22 = some (none, 1) := Eq.trans (by kernel_rfl) rfl
@[go_sem] theorem litF22 : litF Tryz.prog 22 = some 1 := Eq.trans (by kernel_rfl) rfl
@[go_sem] theorem appF22 : appF Tryz.prog 22 = some (1, 16) := Eq.trans (by kernel_rfl) rfl
@[go_sem] theorem aapp1_22 (H : List AM.Obj) (u : TypeId) (o n : Nat) (y : V) : aapp Tryz.prog H 22 u (.sl o 0 n n) y = app1 H (some (1, 16)) (oat H o) o n (asrcB (Tryz.prog.underlying u) H y) := aapp_own appF22
@[go_sem] theorem und23 : Tryz.prog.underlying 23 = some (.slice 178) := Eq.trans (by kernel_rfl) rfl
@[go_sem] theorem tsz23 : tsz Tryz.prog 23 = some 1 := Eq.trans (by kernel_rfl) rfl
@[go_sem] theorem tagg23 : tagg Tryz.prog 23 = some false := Eq.trans (by kernel_rfl) rfl
@[go_sem] theorem telt23 : telt Tryz.prog 23 = some (none, 6) := Eq.trans (by kernel_rfl) rfl
@[go_sem] theorem litF23 : litF Tryz.prog 23 = some 6 := Eq.trans (by kernel_rfl) rfl
@[go_sem] theorem tsz25 : tsz Tryz.prog 25 = some 2 := Eq.trans (by kernel_rfl) rfl
@[go_sem] theorem tagg25 : tagg Tryz.prog 25 = some true := Eq.trans (by kernel_rfl) rfl
@[go_sem] theorem tfld25_0 : tfld Tryz.prog 25 0 = some 0 := Eq.trans (by kernel_rfl) rfl
@[go_sem] theorem tfld25_1 : tfld Tryz.prog 25 1 = some 1 := Eq.trans (by kernel_rfl) rfl
@[go_sem] theorem tpl25 : tpl Tryz.prog 25 = some (plL [(0, 1), (1, 1)]) := Eq.trans (by kernel_rfl) rfl
@[go_sem] theorem zcells25 : zcells Tryz.prog 25 = some [.list true [], .list true []] := Eq.trans (by kernel_rfl) rfl
@[go_sem] theorem und26 : Tryz.prog.underlying 26 = some (.slice 114) := Eq.trans (by kernel_rfl) rfl
@[go_sem] theorem tsz26 : tsz Tryz.prog 26 = some 1 := Eq.trans (by kernel_rfl) rfl
@[go_sem] theorem tagg26 : tagg Tryz.prog 26 = some false := Eq.trans (by kernel_rfl) rfl
@[go_sem] theorem telt26 : telt Tryz.prog 26 = some (none, 14) := Eq.trans (by kernel_rfl) rfl
@[go_sem] theorem litF26 : litF Tryz.prog 26 = some 14 := Eq.trans (by kernel_rfl) rfl
@[go_sem] theorem und27 : Tryz.prog.underlying 27 = some (.slice 153) := Eq.trans (by kernel_rfl) rfl
@[go_sem] theorem tsz27 : tsz Tryz.prog 27 = some 1 := Eq.trans (by kernel_rfl) rfl
@[go_sem] theorem tagg27 : tagg Tryz.prog 27 = some false := Eq.trans (by kernel_rfl) rfl
@[go_sem] theorem telt27 : telt Tryz.prog 27 = some (none, 16) := Eq.trans (by kernel_rfl) rfl
@[go_sem] theorem litF27 : litF Tryz.prog 27 = some 16 := Eq.trans (by kernel_rfl) rfl
@[go_sem] theorem und28 : Tryz.prog.underlying 28 = some (.slice 244) := Eq.trans (by kernel_rfl) rfl
@[go_sem] theorem tsz28 : tsz Tryz.prog 28 = some 1 := Eq.trans (by kernel_rfl) rfl
@[go_sem] theorem tagg28 : tagg Tryz.prog 28 = some false := Eq.trans (by kernel_rfl) rfl
@[go_sem] theorem telt28 : telt Tryz.prog 28 = some (none, 2) := Eq.trans (by kernel_rfl) rfl
@[go_sem] theorem tsz30 : tsz Tryz.prog 30 = some 6 := Eq.trans (by kernel_rfl) rfl
@[go_sem] theorem tagg30 : tagg Tryz.prog 30 = some true := Eq.trans (by kernel_rfl) rfl
@[go_sem] theorem tfld30_0 : tfld Tryz.prog 30 0 = some 0 := Eq.trans (by kernel_rfl) rfl
@[go_sem] theorem tfld30_1 : tfld Tryz.prog 30 1 = some 2 := Eq.trans (by kernel_rfl) rfl
@[go_sem] theorem tfld30_2 : tfld Tryz.prog 30 2 = some 3 := Eq.trans (by kernel_rfl) rfl
@[go_sem] theorem tfld30_3 : tfld Tryz.prog 30 3 = some 4 := Eq.trans (by kernel_rfl) rfl
@[go_sem] theorem tfld30_4 : tfld Tryz.prog 30 4 = some 5 := Eq.trans (by kernel_rfl) rfl
@[go_sem] theorem tpl30 : tpl Tryz.prog 30 = some (plL [(0, 2), (2, 1), (3, 1), (4, 1), (5, 1)]) := Eq.trans (by kernel_rfl) rfl
@[go_sem] theorem zcells30 : zcells Tryz.prog 30 = some [.list true [], .list true [], .list true [], .list true [], .list true [], .list true []] := Eq.trans (by kernel_rfl) rfl
@[go_sem] theorem und31 : Tryz.prog.underlying 31 = some (.slice 56) := Eq.trans (by kernel_rfl) rfl
@[go_sem] theorem tsz31 : tsz Tryz.prog 31 = some 1 := Eq.trans (by kernel_rfl) rfl
@[go_sem] theorem tagg31 : tagg Tryz.prog 31 = some false := Eq.trans (by kernel_rfl) rfl
@[go_sem] theorem telt31 : telt Tryz.prog 31 = some (none, 4) := Eq.trans (by kernel_rfl) rfl
@[go_sem] theorem litF31 : litF Tryz.prog 31 = some 4 := Eq.trans (by kernel_rfl) rfl
@[go_sem] theorem und32 : Tryz.prog.underlying 32 = some (.slice 3) := Eq.trans (by kernel_rfl) rfl
@[go_sem] theorem tsz32 : tsz Tryz.prog 32 = some 1 := Eq.trans (by kernel_rfl) rfl
@[go_sem] theorem tagg32 : tagg Tryz.prog 32 = some false := Eq.trans (by kernel_rfl) rfl
@[go_sem] theorem telt32 : telt Tryz.prog 32 = some (none, 1) := Eq.trans (by kernel_rfl) rfl
@[go_sem] theorem litF32 : litF Tryz.prog 32 = some 1 := Eq.trans (by kernel_rfl) rfl
@[go_sem] theorem appF32 : appF Tryz.prog 32 = some (1, 8) := Eq.trans (by kernel_rfl) rfl
@[go_sem] theorem aapp1_32 (H : List AM.Obj) (u : TypeId) (o n : Nat) (y : V) : aapp Tryz.prog H 32 u (.sl o 0 n n) y = app1 H (some (1, 8)) (oat H o) o n (asrcB (Tryz.prog.underlying u) H y) := aapp_own appF32
@[go_sem] theorem makeF32 : makeF Tryz.prog 32 = some (1, 8, .int .i64 0) := Eq.trans (by kernel_rfl) rfl
@[go_sem] theorem amk32 (H : List AM.Obj) (fr : List V) (x y : Operand) : amem Tryz.prog (.makeSlice 32 x y) fr H = amakeB (some (1, 8, .int .i64 0)) H (ev fr x) (ev fr y) := amem_makeB makeF32
@[go_sem] theorem tsz34 : tsz Tryz.prog 34 = some 2 := Eq.trans (by kernel_rfl) rfl
@[go_sem] theorem tagg34 : tagg Tryz.prog 34 = some true := Eq.trans (by kernel_rfl) rfl
@[go_sem] theorem tfld34_0 : tfld Tryz.prog 34 0 = some 0 := Eq.trans (by kernel_rfl) rfl
@[go_sem] theorem tpl34 : tpl Tryz.prog 34 = some (plL [(0, 1), (1, 1)]) := Eq.trans (by kernel_rfl) rfl
@[go_sem] theorem zcells34 : zcells Tryz.prog 34 = some [.list true [], .list true []] := Eq.trans (by kernel_rfl) rfl
@[go_sem] theorem und37 : Tryz.prog.underlying 37 = some (.slice 62) := Eq.trans (by kernel_rfl) rfl
@[go_sem] theorem tsz37 : tsz Tryz.prog 37 = some 1 := Eq.trans (by kernel_rfl) rfl
@[go_sem] theorem tagg37 : tagg Tryz.prog 37 = some false := Eq.trans (by kernel_rfl) rfl
@[go_sem] theorem telt37 : telt Tryz.prog 37 = some (none, 9) := Eq.trans (by kernel_rfl) rfl
@[go_sem] theorem litF37 : litF Tryz.prog 37 = some 9 := Eq.trans (by kernel_rfl) rfl
@[go_sem] theorem appF37 : appF Tryz.prog 37 = some (9, 88) := Eq.trans (by kernel_rfl) rfl
@[go_sem] theorem aapp1_37 (H : List AM.Obj) (u : TypeId) (o n : Nat) (y : V) : aapp Tryz.prog H 37 u (.sl o 0 n n) y = app1 H (some (9, 88)) (oat H o) o n (asrcB (Tryz.prog.underlying u) H y) := aapp_own appF37
@[go_sem] theorem tsz38 : tsz Tryz.prog 38 = some 1 := Eq.trans (by kernel_rfl) rfl
@[go_sem] theorem tagg38 : tagg Tryz.prog 38 = some false := Eq.trans (by kernel_rfl) rfl
@[go_sem] theorem und41 : Tryz.prog.underlying 41 = some (.slice 63) := Eq.trans (by kernel_rfl) rfl
@[go_sem] theorem telt41 : telt Tryz.prog 41 = some (none, 9) := Eq.trans (by kernel_rfl) rfl
@[go_sem] theorem litF41 : litF Tryz.prog 41 = some 9 := Eq.trans (by kernel_rfl) rfl
@[go_sem] theorem appF41 : appF Tryz.prog 41 = some (9, 88) := Eq.trans (by kernel_rfl) rfl
@[go_sem] theorem aapp1_41 (H : List AM.Obj) (u : TypeId) (o n : Nat) (y : V) : aapp Tryz.prog H 41 u (.sl o 0 n n) y = app1 H (some (9, 88)) (oat H o) o n (asrcB (Tryz.prog.underlying u) H y) := aapp_own appF41
@[go_sem] theorem und53 : Tryz.prog.underlying 53 = some (.slice 4) := Eq.trans (by kernel_rfl) rfl
@[go_sem] theorem tsz53 : tsz Tryz.prog 53 = some 1 := Eq.trans (by kernel_rfl) rfl
@[go_sem] theorem tagg53 : tagg Tryz.prog 53 = some false := Eq.trans (by kernel_rfl) rfl
@[go_sem] theorem telt53 : telt Tryz.prog 53 = some (none, 1) := Eq.trans (by kernel_rfl) rfl
@[go_sem] theorem litF53 : litF Tryz.prog 53 = some 1 := Eq.trans (by kernel_rfl) rfl
@[go_sem] theorem appF53 : appF Tryz.prog 53 = some (1, 1) := Eq.trans (by kernel_rfl) rfl
@[go_sem] theorem aapp0_53 (H : List AM.Obj) (u : TypeId) (y : V) : aapp Tryz.prog H 53 u (.p (.list true [])) y = app0 H (some (1, 1)) (asrcB (Tryz.prog.underlying u) H y) := aapp_nil appF53
@[go_sem] theorem makeF53 : makeF Tryz.prog 53 = some (1, 1, .bool false) := Eq.trans (by kernel_rfl) rfl
@[go_sem] theorem amk53 (H : List AM.Obj) (fr : List V) (x y : Operand) : amem Tryz.prog (.makeSlice 53 x y) fr H = amakeB (some (1, 1, .bool false)) H (ev fr x) (ev fr y) := amem_makeB makeF53
@[go_sem] theorem und54 : Tryz.prog.underlying 54 = some (.slice 58) := Eq.trans (by kernel_rfl) rfl
@[go_sem] theorem tsz54 : tsz Tryz.prog 54 = some 1 := Eq.trans (by kernel_rfl) rfl
@[go_sem] theorem tagg54 : tagg Tryz.prog 54 = some false := Eq.trans (by kernel_rfl) rfl
@[go_sem] theorem telt54 : telt Tryz.prog 54 = some (none, 2) := Eq.trans (by kernel_rfl) rfl
@[go_sem] theorem litF54 : litF Tryz.prog 54 = some 2 := Eq.trans (by kernel_rfl) rfl
@[go_sem] theorem appF54 : appF Tryz.prog 54 = some (2, 16) := Eq.trans (by kernel_rfl) rfl
@[go_sem] theorem aapp1_54 (H : List AM.Obj) (u : TypeId) (o n : Nat) (y : V) : aapp Tryz.prog H 54 u (.sl o 0 n n) y = app1 H (some (2, 16)) (oat H o) o n (asrcB (Tryz.prog.underlying u) H y) := aapp_own appF54
@[go_sem] theorem tsz56 : tsz Tryz.prog 56 = some 4 := Eq.trans (by kernel_rfl) rfl
@[go_sem] theorem tagg56 : tagg Tryz.prog 56 = some true := Eq.trans (by kernel_rfl) rfl
@[go_sem] theorem tfld56_0 : tfld Tryz.prog 56 0 = some 0 := Eq.trans (by kernel_rfl) rfl
@[go_sem] theorem tfld56_1 : tfld Tryz.prog 56 1 = some 1 := Eq.trans (by kernel_rfl) rfl
@[go_sem] theorem tfld56_2 : tfld Tryz.prog 56 2 = some 2 := Eq.trans (by kernel_rfl) rfl
@[go_sem] theorem tfld56_3 : tfld Tryz.prog 56 3 = some 3 := Eq.trans (by kernel_rfl) rfl
@[go_sem] theorem tpl56 : tpl Tryz.prog 56 = some (plL [(0, 1), (1, 1), (2, 1), (3, 1)]) := Eq.trans (by kernel_rfl) rfl
@[go_sem] theorem zcells56 : zcells Tryz.prog 56 = some [.int .i64 0, .int .i64 0, .list true [], .list true []] := Eq.trans (by kernel_rfl) rfl
@[go_sem] theorem tsz58 : tsz Tryz.prog 58 = some 2 := Eq.trans (by kernel_rfl) rfl
@[go_sem] theorem tagg58 : tagg Tryz.prog 58 = some true := Eq.trans (by kernel_rfl) rfl
@[go_sem] theorem tfld58_0 : tfld Tryz.prog 58 0 = some 0 := Eq.trans (by kernel_rfl) rfl
@[go_sem] theorem tfld58_1 : tfld Tryz.prog 58 1 = some 1 := Eq.trans (by kernel_rfl) rfl
@[go_sem] theorem stood58 : Tryz.prog.stoodInHeld 58 = false := Eq.trans (by kernel_rfl) rfl
@[go_sem] theorem tpl58 : tpl Tryz.prog 58 = some (plL [(0, 1), (1, 1)]) := Eq.trans (by kernel_rfl) rfl
@[go_sem] theorem aeq58 (d : Nat) (a b : List PV) : aeqD Tryz.prog d 58 (Tryz.prog.underlying 58) (.agg a) (.agg b) = oand (eqP (aeqT Tryz.prog d 3) (apart Tryz.prog 3 a 0) (apart Tryz.prog 3 b 0)) (oand (eqP (aeqT Tryz.prog d 4) (apart Tryz.prog 4 a 1) (apart Tryz.prog 4 b 1)) (some true)) := by rw [Tryz.underlying58, aeqD_struct stood58]; simp [aeqF_cons, aeqF_nil]
@[go_sem] theorem eqg58 : Tryz.prog.eqGuardType Tryz.prog.depth 58 = false := Eq.trans (by kernel_rfl) rfl
@[go_sem] theorem zcells58 : zcells Tryz.prog 58 = some [.int .i64 0, .bool false] := Eq.trans (by kernel_rfl) rfl
@[go_sem] theorem tsz60 : tsz Tryz.prog 60 = some 4 := Eq.trans (by kernel_rfl) rfl
@[go_sem] theorem tagg60 : tagg Tryz.prog 60 = some true := Eq.trans (by kernel_rfl) rfl
@[go_sem] theorem tfld60_0 : tfld Tryz.prog 60 0 = some 0 := Eq.trans (by kernel_rfl) rfl
@[go_sem] theorem tfld60_1 : tfld Tryz.prog 60 1 = some 1 := Eq.trans (by kernel_rfl) rfl
@[go_sem] theorem tfld60_2 : tfld Tryz.prog 60 2 = some 2 := Eq.trans (by kernel_rfl) rfl
@[go_sem] theorem tfld60_3 : tfld Tryz.prog 60 3 = some 3 := Eq.trans (by kernel_rfl) rfl
@[go_sem] theorem stood60 : Tryz.prog.stoodInHeld 60 = false := Eq.trans (by kernel_rfl) rfl
@[go_sem] theorem tpl60 : tpl Tryz.prog 60 = some (plL [(0, 1), (1, 1), (2, 1), (3, 1)]) := Eq.trans (by kernel_rfl) rfl
@[go_sem] theorem aeq60 (d : Nat) (a b : List PV) : aeqD Tryz.prog d 60 (Tryz.prog.underlying 60) (.agg a) (.agg b) = oand (eqP (aeqT Tryz.prog d 3) (apart Tryz.prog 3 a 0) (apart Tryz.prog 3 b 0)) (oand (eqP (aeqT Tryz.prog d 3) (apart Tryz.prog 3 a 1) (apart Tryz.prog 3 b 1)) (oand (eqP (aeqT Tryz.prog d 3) (apart Tryz.prog 3 a 2) (apart Tryz.prog 3 b 2)) (oand (eqP (aeqT Tryz.prog d 4) (apart Tryz.prog 4 a 3) (apart Tryz.prog 4 b 3)) (some true)))) := by rw [Tryz.underlying60, aeqD_struct stood60]; simp [aeqF_cons, aeqF_nil]
@[go_sem] theorem eqg60 : Tryz.prog.eqGuardType Tryz.prog.depth 60 = false := Eq.trans (by kernel_rfl) rfl
@[go_sem] theorem zcells60 : zcells Tryz.prog 60 = some [.int .i64 0, .int .i64 0, .int .i64 0, .bool false] := Eq.trans (by kernel_rfl) rfl
@[go_sem] theorem tsz62 : tsz Tryz.prog 62 = some 9 := Eq.trans (by kernel_rfl) rfl
@[go_sem] theorem tagg62 : tagg Tryz.prog 62 = some true := Eq.trans (by kernel_rfl) rfl
@[go_sem] theorem tfld62_0 : tfld Tryz.prog 62 0 = some 0 := Eq.trans (by kernel_rfl) rfl
@[go_sem] theorem tfld62_1 : tfld Tryz.prog 62 1 = some 1 := Eq.trans (by kernel_rfl) rfl
@[go_sem] theorem tfld62_2 : tfld Tryz.prog 62 2 = some 3 := Eq.trans (by kernel_rfl) rfl
@[go_sem] theorem tfld62_3 : tfld Tryz.prog 62 3 = some 4 := Eq.trans (by kernel_rfl) rfl
@[go_sem] theorem tfld62_4 : tfld Tryz.prog 62 4 = some 8 := Eq.trans (by kernel_rfl) rfl
@[go_sem] theorem tpl62 : tpl Tryz.prog 62 = some (plL [(0, 1), (1, 2), (3, 1), (4, 4), (8, 1)]) := Eq.trans (by kernel_rfl) rfl
@[go_sem] theorem zcells62 : zcells Tryz.prog 62 = some [.int .i64 0, .int .i64 0, .bool false, .int .i64 0, .int .i64 0, .int .i64 0, .int .i64 0, .bool false, .list true []] := Eq.trans (by kernel_rfl) rfl
@[go_sem] theorem tsz63 : tsz Tryz.prog 63 = some 9 := Eq.trans (by kernel_rfl) rfl
@[go_sem] theorem tagg63 : tagg Tryz.prog 63 = some true := Eq.trans (by kernel_rfl) rfl
@[go_sem] theorem tfld63_0 : tfld Tryz.prog 63 0 = some 0 := Eq.trans (by kernel_rfl) rfl
@[go_sem] theorem tfld63_1 : tfld Tryz.prog 63 1 = some 1 := Eq.trans (by kernel_rfl) rfl
@[go_sem] theorem tfld63_2 : tfld Tryz.prog 63 2 = some 3 := Eq.trans (by kernel_rfl) rfl
@[go_sem] theorem tfld63_3 : tfld Tryz.prog 63 3 = some 4 := Eq.trans (by kernel_rfl) rfl
@[go_sem] theorem tfld63_4 : tfld Tryz.prog 63 4 = some 8 := Eq.trans (by kernel_rfl) rfl
@[go_sem] theorem tpl63 : tpl Tryz.prog 63 = some (plL [(0, 1), (1, 2), (3, 1), (4, 4), (8, 1)]) := Eq.trans (by kernel_rfl) rfl
@[go_sem] theorem zcells63 : zcells Tryz.prog 63 = some [.int .i64 0, .int .i64 0, .bool false, .int .i64 0, .int .i64 0, .int .i64 0, .int .i64 0, .bool false, .list true []] := Eq.trans (by kernel_rfl) rfl
@[go_sem] theorem und78 : Tryz.prog.underlying 78 = some (.slice 198) := Eq.trans (by kernel_rfl) rfl
@[go_sem] theorem telt78 : telt Tryz.prog 78 = some (none, 2) := Eq.trans (by kernel_rfl) rfl
@[go_sem] theorem litF78 : litF Tryz.prog 78 = some 2 := Eq.trans (by kernel_rfl) rfl
@[go_sem] theorem appF78 : appF Tryz.prog 78 = some (2, 24) := Eq.trans (by kernel_rfl) rfl
@[go_sem] theorem aapp0_78 (H : List AM.Obj) (u : TypeId) (y : V) : aapp Tryz.prog H 78 u (.p (.list true [])) y = app0 H (some (2, 24)) (asrcB (Tryz.prog.underlying u) H y) := aapp_nil appF78
@[go_sem] theorem aapp1_78 (H : List AM.Obj) (u : TypeId) (o n : Nat) (y : V) : aapp Tryz.prog H 78 u (.sl o 0 n n) y = app1 H (some (2, 24)) (oat H o) o n (asrcB (Tryz.prog.underlying u) H y) := aapp_own appF78
@[go_sem] theorem tsz85 : tsz Tryz.prog 85 = some 4 := Eq.trans (by kernel_rfl) rfl
@[go_sem] theorem tagg85 : tagg Tryz.prog 85 = some true := Eq.trans (by kernel_rfl) rfl
@[go_sem] theorem tfld85_1 : tfld Tryz.prog 85 1 = some 1 := Eq.trans (by kernel_rfl) rfl
@[go_sem] theorem tfld85_2 : tfld Tryz.prog 85 2 = some 2 := Eq.trans (by kernel_rfl) rfl
@[go_sem] theorem tpl85 : tpl Tryz.prog 85 = some (plL [(0, 1), (1, 1), (2, 1), (3, 1)]) := Eq.trans (by kernel_rfl) rfl
@[go_sem] theorem zcells85 : zcells Tryz.prog 85 = some [.int .i64 0, .int .i64 0, .int .i64 0, .int .i64 0] := Eq.trans (by kernel_rfl) rfl
@[go_sem] theorem und93 : Tryz.prog.underlying 93 = some (.slice 100) := Eq.trans (by kernel_rfl) rfl
@[go_sem] theorem telt93 : telt Tryz.prog 93 = some (none, 10) := Eq.trans (by kernel_rfl) rfl
@[go_sem] theorem litF93 : litF Tryz.prog 93 = some 10 := Eq.trans (by kernel_rfl) rfl
@[go_sem] theorem appF93 : appF Tryz.prog 93 = some (10, 144) := Eq.trans (by kernel_rfl) rfl
@[go_sem] theorem aapp1_93 (H : List AM.Obj) (u : TypeId) (o n : Nat) (y : V) : aapp Tryz.prog H 93 u (.sl o 0 n n) y = app1 H (some (10, 144)) (oat H o) o n (asrcB (Tryz.prog.underlying u) H y) := aapp_own appF93
@[go_sem] theorem und96 : Tryz.prog.underlying 96 = some (.slice 60) := Eq.trans (by kernel_rfl) rfl
@[go_sem] theorem tsz96 : tsz Tryz.prog 96 = some 1 := Eq.trans (by kernel_rfl) rfl
@[go_sem] theorem tagg96 : tagg Tryz.prog 96 = some false := Eq.trans (by kernel_rfl) rfl
@[go_sem] theorem telt96 : telt Tryz.prog 96 = some (none, 4) := Eq.trans (by kernel_rfl) rfl
@[go_sem] theorem litF96 : litF Tryz.prog 96 = some 4 := Eq.trans (by kernel_rfl) rfl
@[go_sem] theorem appF96 : appF Tryz.prog 96 = some (4, 32) := Eq.trans (by kernel_rfl) rfl
@[go_sem] theorem aapp1_96 (H : List AM.Obj) (u : TypeId) (o n : Nat) (y : V) : aapp Tryz.prog H 96 u (.sl o 0 n n) y = app1 H (some (4, 32)) (oat H o) o n (asrcB (Tryz.prog.underlying u) H y) := aapp_own appF96
@[go_sem] theorem tsz98 : tsz Tryz.prog 98 = some 5 := Eq.trans (by kernel_rfl) rfl
@[go_sem] theorem tagg98 : tagg Tryz.prog 98 = some true := Eq.trans (by kernel_rfl) rfl
@[go_sem] theorem tfld98_0 : tfld Tryz.prog 98 0 = some 0 := Eq.trans (by kernel_rfl) rfl
@[go_sem] theorem tfld98_1 : tfld Tryz.prog 98 1 = some 1 := Eq.trans (by kernel_rfl) rfl
@[go_sem] theorem tfld98_2 : tfld Tryz.prog 98 2 = some 2 := Eq.trans (by kernel_rfl) rfl
@[go_sem] theorem tfld98_3 : tfld Tryz.prog 98 3 = some 3 := Eq.trans (by kernel_rfl) rfl
@[go_sem] theorem tfld98_4 : tfld Tryz.prog 98 4 = some 4 := Eq.trans (by kernel_rfl) rfl
@[go_sem] theorem tpl98 : tpl Tryz.prog 98 = some (plL [(0, 1), (1, 1), (2, 1), (3, 1), (4, 1)]) := Eq.trans (by kernel_rfl) rfl
@[go_sem] theorem zcells98 : zcells Tryz.prog 98 = some [.bool false, .int .i64 0, .list true [], .int .i64 0, .int .i64 0] := Eq.trans (by kernel_rfl) rfl
@[go_sem] theorem tsz100 : tsz Tryz.prog 100 = some 10 := Eq.trans (by kernel_rfl) rfl
@[go_sem] theorem tagg100 : tagg Tryz.prog 100 = some true := Eq.trans (by kernel_rfl) rfl
@[go_sem] theorem tfld100_0 : tfld Tryz.prog 100 0 = some 0 := Eq.trans (by kernel_rfl) rfl
@[go_sem] theorem tfld100_1 : tfld Tryz.prog 100 1 = some 4 := Eq.trans (by kernel_rfl) rfl
@[go_sem] theorem tfld100_2 : tfld Tryz.prog 100 2 = some 9 := Eq.trans (by kernel_rfl) rfl
@[go_sem] theorem tpl100 : tpl Tryz.prog 100 = some (plL [(0, 4), (4, 5), (9, 1)]) := Eq.trans (by kernel_rfl) rfl
@[go_sem] theorem zcells100 : zcells Tryz.prog 100 = some [.int .i64 0, .int .i64 0, .list true [], .list true [], .bool false, .int .i64 0, .list true [], .int .i64 0, .int .i64 0, .list true []] := Eq.trans (by kernel_rfl) rfl
@[go_sem] theorem und103 : Tryz.prog.underlying 103 = some (.slice 32) := Eq.trans (by kernel_rfl) rfl
@[go_sem] theorem telt103 : telt Tryz.prog 103 = some (none, 1) := Eq.trans (by kernel_rfl) rfl
@[go_sem] theorem litF103 : litF Tryz.prog 103 = some 1 := Eq.trans (by kernel_rfl) rfl
@[go_sem] theorem appF103 : appF Tryz.prog 103 = some (1, 24) := Eq.trans (by kernel_rfl) rfl
@[go_sem] theorem aapp1_103 (H : List AM.Obj) (u : TypeId) (o n : Nat) (y : V) : aapp Tryz.prog H 103 u (.sl o 0 n n) y = app1 H (some (1, 24)) (oat H o) o n (asrcB (Tryz.prog.underlying u) H y) := aapp_own appF103
@[go_sem] theorem tsz107 : tsz Tryz.prog 107 = some 4 := Eq.trans (by kernel_rfl) rfl
@[go_sem] theorem tagg107 : tagg Tryz.prog 107 = some true := Eq.trans (by kernel_rfl) rfl
@[go_sem] theorem tfld107_0 : tfld Tryz.prog 107 0 = some 0 := Eq.trans (by kernel_rfl) rfl
@[go_sem] theorem tfv107_0 : tfv Tryz.prog 107 0 = some (3, 0) := Eq.trans (by kernel_rfl) rfl
@[go_sem] theorem tfld107_1 : tfld Tryz.prog 107 1 = some 1 := Eq.trans (by kernel_rfl) rfl
@[go_sem] theorem tfld107_2 : tfld Tryz.prog 107 2 = some 2 := Eq.trans (by kernel_rfl) rfl
@[go_sem] theorem tfld107_3 : tfld Tryz.prog 107 3 = some 3 := Eq.trans (by kernel_rfl) rfl
@[go_sem] theorem tfv107_3 : tfv Tryz.prog 107 3 = some (3, 3) := Eq.trans (by kernel_rfl) rfl
@[go_sem] theorem tpl107 : tpl Tryz.prog 107 = some (plL [(0, 1), (1, 1), (2, 1), (3, 1)]) := Eq.trans (by kernel_rfl) rfl
@[go_sem] theorem zcells107 : zcells Tryz.prog 107 = some [.int .i64 0, .int .i64 0, .int .i64 0, .int .i64 0] := Eq.trans (by kernel_rfl) rfl
@[go_sem] theorem tsz114 : tsz Tryz.prog 114 = some 14 := Eq.trans (by kernel_rfl) rfl
@[go_sem] theorem tagg114 : tagg Tryz.prog 114 = some true := Eq.trans (by kernel_rfl) rfl
@[go_sem] theorem tfld114_0 : tfld Tryz.prog 114 0 = some 0 := Eq.trans (by kernel_rfl) rfl
@[go_sem] theorem tfld114_1 : tfld Tryz.prog 114 1 = some 1 := Eq.trans (by kernel_rfl) rfl
@[go_sem] theorem tfld114_2 : tfld Tryz.prog 114 2 = some 2 := Eq.trans (by kernel_rfl) rfl
@[go_sem] theorem tfld114_3 : tfld Tryz.prog 114 3 = some 3 := Eq.trans (by kernel_rfl) rfl
@[go_sem] theorem tfld114_4 : tfld Tryz.prog 114 4 = some 4 := Eq.trans (by kernel_rfl) rfl
@[go_sem] theorem tfld114_5 : tfld Tryz.prog 114 5 = some 5 := Eq.trans (by kernel_rfl) rfl
@[go_sem] theorem tfld114_6 : tfld Tryz.prog 114 6 = some 6 := Eq.trans (by kernel_rfl) rfl
@[go_sem] theorem tfld114_7 : tfld Tryz.prog 114 7 = some 7 := Eq.trans (by kernel_rfl) rfl
@[go_sem] theorem tfld114_8 : tfld Tryz.prog 114 8 = some 8 := Eq.trans (by kernel_rfl) rfl
@[go_sem] theorem tfld114_9 : tfld Tryz.prog 114 9 = some 9 := Eq.trans (by kernel_rfl) rfl
@[go_sem] theorem tfld114_10 : tfld Tryz.prog 114 10 = some 10 := Eq.trans (by kernel_rfl) rfl
@[go_sem] theorem tfld114_11 : tfld Tryz.prog 114 11 = some 11 := Eq.trans (by kernel_rfl) rfl
@[go_sem] theorem tfld114_12 : tfld Tryz.prog 114 12 = some 12 := Eq.trans (by kernel_rfl) rfl
@[go_sem] theorem tfld114_13 : tfld Tryz.prog 114 13 = some 13 := Eq.trans (by kernel_rfl) rfl
@[go_sem] theorem tpl114 : tpl Tryz.prog 114 = some (plL [(0, 1), (1, 1), (2, 1), (3, 1), (4, 1), (5, 1), (6, 1), (7, 1), (8, 1), (9, 1), (10, 1), (11, 1), (12, 1), (13, 1)]) := Eq.trans (by kernel_rfl) rfl
@[go_sem] theorem zcells114 : zcells Tryz.prog 114 = some [.str [], .int .i64 0, .int .i64 0, .int .i64 0, .list true [], .int .i64 0, .int .i64 0, .int .i64 0, .int .i64 0, .int .i64 0, .int .i64 0, .int .i64 0, .int .i64 0, .int .i64 0] := Eq.trans (by kernel_rfl) rfl
@[go_sem] theorem und117 : Tryz.prog.underlying 117 = some (.slice 5) := Eq.trans (by kernel_rfl) rfl
@[go_sem] theorem litF117 : litF Tryz.prog 117 = some 1 := Eq.trans (by kernel_rfl) rfl
@[go_sem] theorem tsz153 : tsz Tryz.prog 153 = some 16 := Eq.trans (by kernel_rfl) rfl
@[go_sem] theorem tagg153 : tagg Tryz.prog 153 = some true := Eq.trans (by kernel_rfl) rfl
@[go_sem] theorem tfld153_0 : tfld Tryz.prog 153 0 = some 0 := Eq.trans (by kernel_rfl) rfl
@[go_sem] theorem tfld153_1 : tfld Tryz.prog 153 1 = some 1 := Eq.trans (by kernel_rfl) rfl
@[go_sem] theorem tfld153_2 : tfld Tryz.prog 153 2 = some 2 := Eq.trans (by kernel_rfl) rfl
@[go_sem] theorem tfld153_3 : tfld Tryz.prog 153 3 = some 6 := Eq.trans (by kernel_rfl) rfl
@[go_sem] theorem tfld153_4 : tfld Tryz.prog 153 4 = some 10 := Eq.trans (by kernel_rfl) rfl
@[go_sem] theorem tfld153_5 : tfld Tryz.prog 153 5 = some 11 := Eq.trans (by kernel_rfl) rfl
@[go_sem] theorem tfld153_6 : tfld Tryz.prog 153 6 = some 12 := Eq.trans (by kernel_rfl) rfl
@[go_sem] theorem tfld153_7 : tfld Tryz.prog 153 7 = some 13 := Eq.trans (by kernel_rfl) rfl
@[go_sem] theorem tfld153_8 : tfld Tryz.prog 153 8 = some 14 := Eq.trans (by kernel_rfl) rfl
@[go_sem] theorem tfld153_9 : tfld Tryz.prog 153 9 = some 15 := Eq.trans (by kernel_rfl) rfl
@[go_sem] theorem tpl153 : tpl Tryz.prog 153 = some (plL [(0, 1), (1, 1), (2, 4), (6, 4), (10, 1), (11, 1), (12, 1), (13, 1), (14, 1), (15, 1)]) := Eq.trans (by kernel_rfl) rfl
@[go_sem] theorem zcells153 : zcells Tryz.prog 153 = some [.str [], .list true [], .int .i64 0, .int .i64 0, .int .i64 0, .int .i64 0, .int .i64 0, .int .i64 0, .int .i64 0, .int .i64 0, .int .i64 0, .int .i64 0, .int .i64 0, .int .i64 0, .int .i64 0, .bool false] := Eq.trans (by kernel_rfl) rfl
@[go_sem] theorem tsz154 : tsz Tryz.prog 154 = some 1 := Eq.trans (by kernel_rfl) rfl
@[go_sem] theorem tagg154 : tagg Tryz.prog 154 = some false := Eq.trans (by kernel_rfl) rfl
@[go_sem] theorem tsz175 : tsz Tryz.prog 175 = some 2 := Eq.trans (by kernel_rfl) rfl
@[go_sem] theorem tagg175 : tagg Tryz.prog 175 = some true := Eq.trans (by kernel_rfl) rfl
@[go_sem] theorem tfld175_0 : tfld Tryz.prog 175 0 = some 0 := Eq.trans (by kernel_rfl) rfl
@[go_sem] theorem tfld175_1 : tfld Tryz.prog 175 1 = some 1 := Eq.trans (by kernel_rfl) rfl
@[go_sem] theorem tpl175 : tpl Tryz.prog 175 = some (plL [(0, 1), (1, 1)]) := Eq.trans (by kernel_rfl) rfl
@[go_sem] theorem zcells175 : zcells Tryz.prog 175 = some [.int .i64 0, .int .i64 0] := Eq.trans (by kernel_rfl) rfl
@[go_sem] theorem und176 : Tryz.prog.underlying 176 = some (.slice 175) := Eq.trans (by kernel_rfl) rfl
@[go_sem] theorem tsz176 : tsz Tryz.prog 176 = some 1 := Eq.trans (by kernel_rfl) rfl
@[go_sem] theorem tagg176 : tagg Tryz.prog 176 = some false := Eq.trans (by kernel_rfl) rfl
@[go_sem] theorem telt176 : telt Tryz.prog 176 = some (none, 2) := Eq.trans (by kernel_rfl) rfl
@[go_sem] theorem litF176 : litF Tryz.prog 176 = some 2 := Eq.trans (by kernel_rfl) rfl
@[go_sem] theorem tsz178 : tsz Tryz.prog 178 = some 6 := Eq.trans (by kernel_rfl) rfl
@[go_sem] theorem tagg178 : tagg Tryz.prog 178 = some true := Eq.trans (by kernel_rfl) rfl
@[go_sem] theorem tfld178_0 : tfld Tryz.prog 178 0 = some 0 := Eq.trans (by kernel_rfl) rfl
@[go_sem] theorem tfld178_1 : tfld Tryz.prog 178 1 = some 1 := Eq.trans (by kernel_rfl) rfl
@[go_sem] theorem tfld178_2 : tfld Tryz.prog 178 2 = some 2 := Eq.trans (by kernel_rfl) rfl
@[go_sem] theorem tfld178_3 : tfld Tryz.prog 178 3 = some 3 := Eq.trans (by kernel_rfl) rfl
@[go_sem] theorem tfld178_4 : tfld Tryz.prog 178 4 = some 4 := Eq.trans (by kernel_rfl) rfl
@[go_sem] theorem tfld178_5 : tfld Tryz.prog 178 5 = some 5 := Eq.trans (by kernel_rfl) rfl
@[go_sem] theorem tpl178 : tpl Tryz.prog 178 = some (plL [(0, 1), (1, 1), (2, 1), (3, 1), (4, 1), (5, 1)]) := Eq.trans (by kernel_rfl) rfl
@[go_sem] theorem zcells178 : zcells Tryz.prog 178 = some [.int .i64 0, .int .i64 0, .int .i64 0, .int .i64 0, .list true [], .list true []] := Eq.trans (by kernel_rfl) rfl
@[go_sem] theorem tfld198_0 : tfld Tryz.prog 198 0 = some 0 := Eq.trans (by kernel_rfl) rfl
@[go_sem] theorem tfld198_1 : tfld Tryz.prog 198 1 = some 1 := Eq.trans (by kernel_rfl) rfl
@[go_sem] theorem tpl198 : tpl Tryz.prog 198 = some (plL [(0, 1), (1, 1)]) := Eq.trans (by kernel_rfl) rfl
@[go_sem] theorem zcells198 : zcells Tryz.prog 198 = some [.int .i64 0, .str []] := Eq.trans (by kernel_rfl) rfl
@[go_sem] theorem und201 : Tryz.prog.underlying 201 = some (.slice 38) := Eq.trans (by kernel_rfl) rfl
@[go_sem] theorem telt201 : telt Tryz.prog 201 = some (none, 1) := Eq.trans (by kernel_rfl) rfl
@[go_sem] theorem litF201 : litF Tryz.prog 201 = some 1 := Eq.trans (by kernel_rfl) rfl
@[go_sem] theorem appF201 : appF Tryz.prog 201 = some (1, 8) := Eq.trans (by kernel_rfl) rfl
@[go_sem] theorem aapp1_201 (H : List AM.Obj) (u : TypeId) (o n : Nat) (y : V) : aapp Tryz.prog H 201 u (.sl o 0 n n) y = app1 H (some (1, 8)) (oat H o) o n (asrcB (Tryz.prog.underlying u) H y) := aapp_own appF201
@[go_sem] theorem und206 : Tryz.prog.underlying 206 = some (.slice 154) := Eq.trans (by kernel_rfl) rfl
@[go_sem] theorem telt206 : telt Tryz.prog 206 = some (none, 1) := Eq.trans (by kernel_rfl) rfl
@[go_sem] theorem litF206 : litF Tryz.prog 206 = some 1 := Eq.trans (by kernel_rfl) rfl
@[go_sem] theorem und216 : Tryz.prog.underlying 216 = some (.int .u64) := Eq.trans (by kernel_rfl) rfl
@[go_sem] theorem tsz244 : tsz Tryz.prog 244 = some 2 := Eq.trans (by kernel_rfl) rfl
@[go_sem] theorem tagg244 : tagg Tryz.prog 244 = some true := Eq.trans (by kernel_rfl) rfl
@[go_sem] theorem telt244 : telt Tryz.prog 244 = some ((some 2), 1) := Eq.trans (by kernel_rfl) rfl
@[go_sem] theorem zcells244 : zcells Tryz.prog 244 = some [.int .i64 0, .int .i64 0] := Eq.trans (by kernel_rfl) rfl
@[go_sem] theorem und251 : Tryz.prog.underlying 251 = some (.slice 107) := Eq.trans (by kernel_rfl) rfl
@[go_sem] theorem tsz251 : tsz Tryz.prog 251 = some 1 := Eq.trans (by kernel_rfl) rfl
@[go_sem] theorem tagg251 : tagg Tryz.prog 251 = some false := Eq.trans (by kernel_rfl) rfl
@[go_sem] theorem telt251 : telt Tryz.prog 251 = some (none, 4) := Eq.trans (by kernel_rfl) rfl
@[go_sem] theorem litF251 : litF Tryz.prog 251 = some 4 := Eq.trans (by kernel_rfl) rfl
@[go_sem] theorem appF251 : appF Tryz.prog 251 = some (4, 32) := Eq.trans (by kernel_rfl) rfl
@[go_sem] theorem aapp1_251 (H : List AM.Obj) (u : TypeId) (o n : Nat) (y : V) : aapp Tryz.prog H 251 u (.sl o 0 n n) y = app1 H (some (4, 32)) (oat H o) o n (asrcB (Tryz.prog.underlying u) H y) := aapp_own appF251
@[go_sem] theorem tsz253 : tsz Tryz.prog 253 = some 25 := Eq.trans (by kernel_rfl) rfl
@[go_sem] theorem tagg253 : tagg Tryz.prog 253 = some true := Eq.trans (by kernel_rfl) rfl
@[go_sem] theorem tfld253_0 : tfld Tryz.prog 253 0 = some 0 := Eq.trans (by kernel_rfl) rfl
@[go_sem] theorem tfld253_1 : tfld Tryz.prog 253 1 = some 6 := Eq.trans (by kernel_rfl) rfl
@[go_sem] theorem tfld253_2 : tfld Tryz.prog 253 2 = some 20 := Eq.trans (by kernel_rfl) rfl
@[go_sem] theorem tfld253_3 : tfld Tryz.prog 253 3 = some 24 := Eq.trans (by kernel_rfl) rfl
@[go_sem] theorem tpl253 : tpl Tryz.prog 253 = some (plL [(0, 6), (6, 14), (20, 4), (24, 1)]) := Eq.trans (by kernel_rfl) rfl
@[go_sem] theorem zcells253 : zcells Tryz.prog 253 = some [.list true [], .list true [], .list true [], .list true [], .list true [], .list true [], .str [], .int .i64 0, .int .i64 0, .int .i64 0, .list true [], .int .i64 0, .int .i64 0, .int .i64 0, .int .i64 0, .int .i64 0, .int .i64 0, .int .i64 0, .int .i64 0, .int .i64 0, .int .i64 0, .int .i64 0, .list true [], .list true [], .list true []] := Eq.trans (by kernel_rfl) rfl
@[go_sem] theorem tsz257 : tsz Tryz.prog 257 = some 7 := Eq.trans (by kernel_rfl) rfl
@[go_sem] theorem tagg257 : tagg Tryz.prog 257 = some true := Eq.trans (by kernel_rfl) rfl
@[go_sem] theorem tfld257_0 : tfld Tryz.prog 257 0 = some 0 := Eq.trans (by kernel_rfl) rfl
@[go_sem] theorem tfld257_1 : tfld Tryz.prog 257 1 = some 1 := Eq.trans (by kernel_rfl) rfl
@[go_sem] theorem tfld257_2 : tfld Tryz.prog 257 2 = some 2 := Eq.trans (by kernel_rfl) rfl
@[go_sem] theorem tpl257 : tpl Tryz.prog 257 = some (plL [(0, 1), (1, 1), (2, 5)]) := Eq.trans (by kernel_rfl) rfl
@[go_sem] theorem zcells257 : zcells Tryz.prog 257 = some [.int .i64 0, .int .i64 0, .bool false, .int .i64 0, .list true [], .int .i64 0, .int .i64 0] := Eq.trans (by kernel_rfl) rfl
@[go_sem] theorem und259 : Tryz.prog.underlying 259 = some (.slice 257) := Eq.trans (by kernel_rfl) rfl
@[go_sem] theorem telt259 : telt Tryz.prog 259 = some (none, 7) := Eq.trans (by kernel_rfl) rfl
@[go_sem] theorem litF259 : litF Tryz.prog 259 = some 7 := Eq.trans (by kernel_rfl) rfl
@[go_sem] theorem appF259 : appF Tryz.prog 259 = some (7, 72) := Eq.trans (by kernel_rfl) rfl
@[go_sem] theorem aapp1_259 (H : List AM.Obj) (u : TypeId) (o n : Nat) (y : V) : aapp Tryz.prog H 259 u (.sl o 0 n n) y = app1 H (some (7, 72)) (oat H o) o n (asrcB (Tryz.prog.underlying u) H y) := aapp_own appF259
@[go_sem] theorem tsz306 : tsz Tryz.prog 306 = some 4 := Eq.trans (by kernel_rfl) rfl
@[go_sem] theorem tagg306 : tagg Tryz.prog 306 = some true := Eq.trans (by kernel_rfl) rfl
@[go_sem] theorem tfld306_0 : tfld Tryz.prog 306 0 = some 0 := Eq.trans (by kernel_rfl) rfl
@[go_sem] theorem tfld306_1 : tfld Tryz.prog 306 1 = some 1 := Eq.trans (by kernel_rfl) rfl
@[go_sem] theorem tfld306_2 : tfld Tryz.prog 306 2 = some 2 := Eq.trans (by kernel_rfl) rfl
@[go_sem] theorem tfld306_3 : tfld Tryz.prog 306 3 = some 3 := Eq.trans (by kernel_rfl) rfl
@[go_sem] theorem tpl306 : tpl Tryz.prog 306 = some (plL [(0, 1), (1, 1), (2, 1), (3, 1)]) := Eq.trans (by kernel_rfl) rfl
@[go_sem] theorem zcells306 : zcells Tryz.prog 306 = some [.int .i64 0, .int .i64 0, .int .i64 0, .int .i64 0] := Eq.trans (by kernel_rfl) rfl
@[go_sem] theorem tsz351 : tsz Tryz.prog 351 = some 3 := Eq.trans (by kernel_rfl) rfl
@[go_sem] theorem tagg351 : tagg Tryz.prog 351 = some true := Eq.trans (by kernel_rfl) rfl
@[go_sem] theorem stood351 : Tryz.prog.stoodInHeld 351 = false := Eq.trans (by kernel_rfl) rfl
@[go_sem] theorem tpl351 : tpl Tryz.prog 351 = some (plL [(0, 1), (1, 1), (2, 1)]) := Eq.trans (by kernel_rfl) rfl
@[go_sem] theorem aeq351 (d : Nat) (a b : List PV) : aeqD Tryz.prog d 351 (Tryz.prog.underlying 351) (.agg a) (.agg b) = oand (eqP (aeqT Tryz.prog d 3) (apart Tryz.prog 3 a 0) (apart Tryz.prog 3 b 0)) (oand (eqP (aeqT Tryz.prog d 3) (apart Tryz.prog 3 a 1) (apart Tryz.prog 3 b 1)) (oand (eqP (aeqT Tryz.prog d 3) (apart Tryz.prog 3 a 2) (apart Tryz.prog 3 b 2)) (some true))) := by rw [Tryz.underlying351, aeqD_struct stood351]; simp [aeqF_cons, aeqF_nil]
@[go_sem] theorem eqg351 : Tryz.prog.eqGuardType Tryz.prog.depth 351 = false := Eq.trans (by kernel_rfl) rfl
@[go_sem] theorem zcells351 : zcells Tryz.prog 351 = some [.int .i64 0, .int .i64 0, .int .i64 0] := Eq.trans (by kernel_rfl) rfl
theorem isF3 : IsFun Tryz.prog 3 := fun args w => Tryz.call3 args w
theorem isF4 : IsFun Tryz.prog 4 := fun args w => Tryz.call4 args w
theorem isF5 : IsFun Tryz.prog 5 := fun args w => Tryz.call5 args w
theorem isF6 : IsFun Tryz.prog 6 := fun args w => Tryz.call6 args w
theorem isF14 : IsFun Tryz.prog 14 := fun args w => Tryz.call14 args w
theorem isF15 : IsFun Tryz.prog 15 := fun args w => Tryz.call15 args w
theorem isF16 : IsFun Tryz.prog 16 := fun args w => Tryz.call16 args w
theorem isF17 : IsFun Tryz.prog 17 := fun args w => Tryz.call17 args w
theorem isF18 : IsFun Tryz.prog 18 := fun args w => Tryz.call18 args w
theorem isF19 : IsFun Tryz.prog 19 := fun args w => Tryz.call19 args w
theorem isF20 : IsFun Tryz.prog 20 := fun args w => Tryz.call20 args w
theorem isF21 : IsFun Tryz.prog 21 := fun args w => Tryz.call21 args w
theorem isF22 : IsFun Tryz.prog 22 := fun args w => Tryz.call22 args w
theorem isF23 : IsFun Tryz.prog 23 := fun args w => Tryz.call23 args w
theorem isF24 : IsFun Tryz.prog 24 := fun args w => Tryz.call24 args w
theorem isF35 : IsFun Tryz.prog 35 := fun args w => Tryz.call35 args w
theorem isF47 : IsFun Tryz.prog 47 := fun args w => Tryz.call47 args w
theorem isF48 : IsFun Tryz.prog 48 := fun args w => Tryz.call48 args w
theorem isF49 : IsFun Tryz.prog 49 := fun args w => Tryz.call49 args w
theorem isF50 : IsFun Tryz.prog 50 := fun args w => Tryz.call50 args w
theorem isF51 : IsFun Tryz.prog 51 := fun args w => Tryz.call51 args w
theorem isF52 : IsFun Tryz.prog 52 := fun args w => Tryz.call52 args w
theorem isF53 : IsFun Tryz.prog 53 := fun args w => Tryz.call53 args w
theorem isF54 : IsFun Tryz.prog 54 := fun args w => Tryz.call54 args w
theorem isF55 : IsFun Tryz.prog 55 := fun args w => Tryz.call55 args w
theorem isF56 : IsFun Tryz.prog 56 := fun args w => Tryz.call56 args w
theorem isF57 : IsFun Tryz.prog 57 := fun args w => Tryz.call57 args w
theorem isF58 : IsFun Tryz.prog 58 := fun args w => Tryz.call58 args w
theorem isF64 : IsFun Tryz.prog 64 := fun args w => Tryz.call64 args w
theorem isF65 : IsFun Tryz.prog 65 := fun args w => Tryz.call65 args w
theorem isF66 : IsFun Tryz.prog 66 := fun args w => Tryz.call66 args w
theorem isF68 : IsFun Tryz.prog 68 := fun args w => Tryz.call68 args w
theorem isF76 : IsFun Tryz.prog 76 := fun args w => Tryz.call76 args w
theorem isF77 : IsFun Tryz.prog 77 := fun args w => Tryz.call77 args w
theorem isF78 : IsFun Tryz.prog 78 := fun args w => Tryz.call78 args w
theorem isF79 : IsFun Tryz.prog 79 := fun args w => Tryz.call79 args w
theorem isF80 : IsFun Tryz.prog 80 := fun args w => Tryz.call80 args w
theorem isF81 : IsFun Tryz.prog 81 := fun args w => Tryz.call81 args w
theorem isF89 : IsFun Tryz.prog 89 := fun args w => Tryz.call89 args w
theorem isF110 : IsFun Tryz.prog 110 := fun args w => Tryz.call110 args w
theorem isF111 : IsFun Tryz.prog 111 := fun args w => Tryz.call111 args w
theorem isF112 : IsFun Tryz.prog 112 := fun args w => Tryz.call112 args w
theorem isF113 : IsFun Tryz.prog 113 := fun args w => Tryz.call113 args w
theorem isF114 : IsFun Tryz.prog 114 := fun args w => Tryz.call114 args w
theorem isF115 : IsFun Tryz.prog 115 := fun args w => Tryz.call115 args w
theorem isF116 : IsFun Tryz.prog 116 := fun args w => Tryz.call116 args w
theorem isF117 : IsFun Tryz.prog 117 := fun args w => Tryz.call117 args w
theorem isF124 : IsFun Tryz.prog 124 := fun args w => Tryz.call124 args w
theorem isF126 : IsFun Tryz.prog 126 := fun args w => Tryz.call126 args w
theorem isF132 : IsFun Tryz.prog 132 := fun args w => Tryz.call132 args w
theorem isF133 : IsFun Tryz.prog 133 := fun args w => Tryz.call133 args w
theorem isF134 : IsFun Tryz.prog 134 := fun args w => Tryz.call134 args w
theorem isF135 : IsFun Tryz.prog 135 := fun args w => Tryz.call135 args w
theorem isF136 : IsFun Tryz.prog 136 := fun args w => Tryz.call136 args w
theorem isF137 : IsFun Tryz.prog 137 := fun args w => Tryz.call137 args w
theorem isF138 : IsFun Tryz.prog 138 := fun args w => Tryz.call138 args w
theorem isF139 : IsFun Tryz.prog 139 := fun args w => Tryz.call139 args w
theorem isF140 : IsFun Tryz.prog 140 := fun args w => Tryz.call140 args w
theorem isF141 : IsFun Tryz.prog 141 := fun args w => Tryz.call141 args w
theorem isF142 : IsFun Tryz.prog 142 := fun args w => Tryz.call142 args w
theorem isF143 : IsFun Tryz.prog 143 := fun args w => Tryz.call143 args w
theorem isF156 : IsFun Tryz.prog 156 := fun args w => Tryz.call156 args w
theorem isF157 : IsFun Tryz.prog 157 := fun args w => Tryz.call157 args w
theorem isF158 : IsFun Tryz.prog 158 := fun args w => Tryz.call158 args w
theorem isF159 : IsFun Tryz.prog 159 := fun args w => Tryz.call159 args w
theorem isF160 : IsFun Tryz.prog 160 := fun args w => Tryz.call160 args w
theorem isF161 : IsFun Tryz.prog 161 := fun args w => Tryz.call161 args w
theorem isF162 : IsFun Tryz.prog 162 := fun args w => Tryz.call162 args w
theorem isF163 : IsFun Tryz.prog 163 := fun args w => Tryz.call163 args w
theorem isF164 : IsFun Tryz.prog 164 := fun args w => Tryz.call164 args w
theorem isF165 : IsFun Tryz.prog 165 := fun args w => Tryz.call165 args w
theorem isF166 : IsFun Tryz.prog 166 := fun args w => Tryz.call166 args w
theorem isF167 : IsFun Tryz.prog 167 := fun args w => Tryz.call167 args w
theorem isF168 : IsFun Tryz.prog 168 := fun args w => Tryz.call168 args w
theorem isF169 : IsFun Tryz.prog 169 := fun args w => Tryz.call169 args w
theorem isF170 : IsFun Tryz.prog 170 := fun args w => Tryz.call170 args w
theorem isF171 : IsFun Tryz.prog 171 := fun args w => Tryz.call171 args w
theorem isF174 : IsFun Tryz.prog 174 := fun args w => Tryz.call174 args w
theorem isF175 : IsFun Tryz.prog 175 := fun args w => Tryz.call175 args w
theorem isF184 : IsFun Tryz.prog 184 := fun args w => Tryz.call184 args w
theorem isF185 : IsFun Tryz.prog 185 := fun args w => Tryz.call185 args w
theorem isF186 : IsFun Tryz.prog 186 := fun args w => Tryz.call186 args w
theorem isF187 : IsFun Tryz.prog 187 := fun args w => Tryz.call187 args w
theorem isF188 : IsFun Tryz.prog 188 := fun args w => Tryz.call188 args w
theorem isF189 : IsFun Tryz.prog 189 := fun args w => Tryz.call189 args w
theorem isF190 : IsFun Tryz.prog 190 := fun args w => Tryz.call190 args w
theorem isF191 : IsFun Tryz.prog 191 := fun args w => Tryz.call191 args w
theorem isF192 : IsFun Tryz.prog 192 := fun args w => Tryz.call192 args w
theorem isF193 : IsFun Tryz.prog 193 := fun args w => Tryz.call193 args w
theorem isF194 : IsFun Tryz.prog 194 := fun args w => Tryz.call194 args w
theorem isF195 : IsFun Tryz.prog 195 := fun args w => Tryz.call195 args w
theorem isF196 : IsFun Tryz.prog 196 := fun args w => Tryz.call196 args w
theorem isF197 : IsFun Tryz.prog 197 := fun args w => Tryz.call197 args w
theorem isF198 : IsFun Tryz.prog 198 := fun args w => Tryz.call198 args w
theorem isF199 : IsFun Tryz.prog 199 := fun args w => Tryz.call199 args w
theorem isF200 : IsFun Tryz.prog 200 := fun args w => Tryz.call200 args w
theorem isF201 : IsFun Tryz.prog 201 := fun args w => Tryz.call201 args w
theorem isF202 : IsFun Tryz.prog 202 := fun args w => Tryz.call202 args w
theorem isF203 : IsFun Tryz.prog 203 := fun args w => Tryz.call203 args w
theorem isF204 : IsFun Tryz.prog 204 := fun args w => Tryz.call204 args w
theorem isF205 : IsFun Tryz.prog 205 := fun args w => Tryz.call205 args w
theorem isF206 : IsFun Tryz.prog 206 := fun args w => Tryz.call206 args w
theorem isF207 : IsFun Tryz.prog 207 := fun args w => Tryz.call207 args w
theorem isF208 : IsFun Tryz.prog 208 := fun args w => Tryz.call208 args w
theorem isF222 : IsFun Tryz.prog 222 := fun args w => Tryz.call222 args w
theorem isF223 : IsFun Tryz.prog 223 := fun args w => Tryz.call223 args w
theorem isF224 : IsFun Tryz.prog 224 := fun args w => Tryz.call224 args w
theorem isF225 : IsFun Tryz.prog 225 := fun args w => Tryz.call225 args w
theorem isF226 : IsFun Tryz.prog 226 := fun args w => Tryz.call226 args w
theorem isF227 : IsFun Tryz.prog 227 := fun args w => Tryz.call227 args w
theorem isF228 : IsFun Tryz.prog 228 := fun args w => Tryz.call228 args w
theorem isF229 : IsFun Tryz.prog 229 := fun args w => Tryz.call229 args w
theorem isF230 : IsFun Tryz.prog 230 := fun args w => Tryz.call230 args w
theorem isF231 : IsFun Tryz.prog 231 := fun args w => Tryz.call231 args w
theorem isF236 : IsFun Tryz.prog 236 := fun args w => Tryz.call236 args w
theorem isF242 : IsFun Tryz.prog 242 := fun args w => Tryz.call242 args w
theorem isF243 : IsFun Tryz.prog 243 := fun args w => Tryz.call243 args w
theorem isF244 : IsFun Tryz.prog 244 := fun args w => Tryz.call244 args w
theorem isF245 : IsFun Tryz.prog 245 := fun args w => Tryz.call245 args w
theorem isF246 : IsFun Tryz.prog 246 := fun args w => Tryz.call246 args w
theorem isF247 : IsFun Tryz.prog 247 := fun args w => Tryz.call247 args w
theorem isF248 : IsFun Tryz.prog 248 := fun args w => Tryz.call248 args w
theorem isF249 : IsFun Tryz.prog 249 := fun args w => Tryz.call249 args w
theorem isF250 : IsFun Tryz.prog 250 := fun args w => Tryz.call250 args w
theorem isF251 : IsFun Tryz.prog 251 := fun args w => Tryz.call251 args w
theorem isF252 : IsFun Tryz.prog 252 := fun args w => Tryz.call252 args w
theorem isF253 : IsFun Tryz.prog 253 := fun args w => Tryz.call253 args w
theorem isF260 : IsFun Tryz.prog 260 := fun args w => Tryz.call260 args w
theorem isF261 : IsFun Tryz.prog 261 := fun args w => Tryz.call261 args w
theorem isF262 : IsFun Tryz.prog 262 := fun args w => Tryz.call262 args w
theorem isF265 : IsFun Tryz.prog 265 := fun args w => Tryz.call265 args w
theorem isF276 : IsFun Tryz.prog 276 := fun args w => Tryz.call276 args w
theorem isF277 : IsFun Tryz.prog 277 := fun args w => Tryz.call277 args w
theorem isF278 : IsFun Tryz.prog 278 := fun args w => Tryz.call278 args w
theorem isF279 : IsFun Tryz.prog 279 := fun args w => Tryz.call279 args w
theorem isF280 : IsFun Tryz.prog 280 := fun args w => Tryz.call280 args w
theorem isF281 : IsFun Tryz.prog 281 := fun args w => Tryz.call281 args w
theorem isF284 : IsFun Tryz.prog 284 := fun args w => Tryz.call284 args w
theorem isF292 : IsFun Tryz.prog 292 := fun args w => Tryz.call292 args w
theorem isF293 : IsFun Tryz.prog 293 := fun args w => Tryz.call293 args w
theorem isF294 : IsFun Tryz.prog 294 := fun args w => Tryz.call294 args w
theorem isF295 : IsFun Tryz.prog 295 := fun args w => Tryz.call295 args w
theorem isF300 : IsFun Tryz.prog 300 := fun args w => Tryz.call300 args w
theorem isF301 : IsFun Tryz.prog 301 := fun args w => Tryz.call301 args w
theorem isF302 : IsFun Tryz.prog 302 := fun args w => Tryz.call302 args w
theorem isF303 : IsFun Tryz.prog 303 := fun args w => Tryz.call303 args w
theorem isF304 : IsFun Tryz.prog 304 := fun args w => Tryz.call304 args w
theorem isF305 : IsFun Tryz.prog 305 := fun args w => Tryz.call305 args w
theorem isF306 : IsFun Tryz.prog 306 := fun args w => Tryz.call306 args w
theorem isF307 : IsFun Tryz.prog 307 := fun args w => Tryz.call307 args w
theorem isF308 : IsFun Tryz.prog 308 := fun args w => Tryz.call308 args w
theorem isF309 : IsFun Tryz.prog 309 := fun args w => Tryz.call309 args w
theorem isF310 : IsFun Tryz.prog 310 := fun args w => Tryz.call310 args w
theorem isF311 : IsFun Tryz.prog 311 := fun args w => Tryz.call311 args w
theorem mixed : Tryz.prog.follows .mixedOrders = true := by kernel_rfl
end Go.Proofs.YtngonbhfbpnkcaaGreatDoor.K
