/- Declarations that the closing texts need, part 4: joined by tools/slim.py. -/
import Derived.Test.YtcllkjiebfmjpaaGreatDoorZ3
import Derived.KernelRfl
import Derived.Test.YtcllkjiebfmjpaaGreatDoorProg
namespace Go.Proofs.YtcllkjiebfmjpaaGreatDoor.K
open Go Go.AM Go.Proofs
@[go_sem] theorem und2 : Tryz.prog.underlying 2 = some (.int .i64) := Eq.trans (by kernel_rfl) rfl
@[go_sem] theorem tsz2 : tsz Tryz.prog 2 = some 1 := Eq.trans (by kernel_rfl) rfl
@[go_sem] theorem tagg2 : tagg Tryz.prog 2 = some false := Eq.trans (by kernel_rfl) rfl
@[go_sem] theorem zcells2 : zcells Tryz.prog 2 = some [.int .i64 0] := Eq.trans (by kernel_rfl) rfl
@[go_sem] theorem und3 : Tryz.prog.underlying 3 = some (.int .i64) := Eq.trans (by kernel_rfl) rfl
@[go_sem] theorem tsz3 : tsz Tryz.prog 3 = some 1 := Eq.trans (by kernel_rfl) rfl
@[go_sem] theorem tagg3 : tagg Tryz.prog 3 = some false := Eq.trans (by kernel_rfl) rfl
@[go_sem] theorem zcells3 : zcells Tryz.prog 3 = some [.int .i64 0] := Eq.trans (by kernel_rfl) rfl
@[go_sem] theorem und4 : Tryz.prog.underlying 4 = some .bool := Eq.trans (by kernel_rfl) rfl
@[go_sem] theorem tsz4 : tsz Tryz.prog 4 = some 1 := Eq.trans (by kernel_rfl) rfl
@[go_sem] theorem tagg4 : tagg Tryz.prog 4 = some false := Eq.trans (by kernel_rfl) rfl
@[go_sem] theorem zcells4 : zcells Tryz.prog 4 = some [.bool false] := Eq.trans (by kernel_rfl) rfl
@[go_sem] theorem und5 : Tryz.prog.underlying 5 = some (.int .u8) := Eq.trans (by kernel_rfl) rfl
@[go_sem] theorem tsz5 : tsz Tryz.prog 5 = some 1 := Eq.trans (by kernel_rfl) rfl
@[go_sem] theorem tagg5 : tagg Tryz.prog 5 = some false := Eq.trans (by kernel_rfl) rfl
@[go_sem] theorem zcells5 : zcells Tryz.prog 5 = some [.int .u8 0] := Eq.trans (by kernel_rfl) rfl
@[go_sem] theorem und9 : Tryz.prog.underlying 9 = some .string := Eq.trans (by kernel_rfl) rfl
@[go_sem] theorem tsz9 : tsz Tryz.prog 9 = some 1 := Eq.trans (by kernel_rfl) rfl
@[go_sem] theorem tagg9 : tagg Tryz.prog 9 = some false := Eq.trans (by kernel_rfl) rfl
@[go_sem] theorem zcells9 : zcells Tryz.prog 9 = some [.str []] := Eq.trans (by kernel_rfl) rfl
@[go_sem] theorem und21 : Tryz.prog.underlying 21 = some (.int .i32) := Eq.trans (by kernel_rfl) rfl
@[go_sem] theorem tsz21 : tsz Tryz.prog 21 = some 1 := Eq.trans (by kernel_rfl) rfl
@[go_sem] theorem tagg21 : tagg Tryz.prog 21 = some false := Eq.trans (by kernel_rfl) rfl
@[go_sem] theorem zcells21 : zcells Tryz.prog 21 = some [.int .i32 0] := Eq.trans (by kernel_rfl) rfl
@[go_sem] theorem und22 : Tryz.prog.underlying 22 = some (.slice 9) := Eq.trans (by kernel_rfl) rfl
@[go_sem] theorem tsz22 : tsz Tryz.prog 22 = some 1 := Eq.trans (by kernel_rfl) rfl
@[go_sem] theorem tagg22 : tagg Tryz.prog 22 = some false := Eq.trans (by kernel_rfl) rfl
@[go_sem] theorem telt22 : telt Tryz.prog 22 = some (none, 1) := Eq.trans (by kernel_rfl) rfl
@[go_sem] theorem litF22 : litF Tryz.prog 22 = some 1 := Eq.trans (by kernel_rfl) rfl
@[go_sem] theorem appF22 : appF Tryz.prog 22 = some (1, 16) := Eq.trans (by kernel_rfl) rfl
@[go_sem] theorem aapp0_22 (H : List AM.Obj) (u : TypeId) (y : V) : aapp Tryz.prog H 22 u (.p (.list true [])) y = app0 H (some (1, 16)) (asrcB (Tryz.prog.underlying u) H y) := aapp_nil appF22
@[go_sem] theorem aapp1_22 (H : List AM.Obj) (u : TypeId) (o n : Nat) (y : V) : aapp Tryz.prog H 22 u (.sl o 0 n n) y = app1 H (some (1, 16)) (oat H o) o n (asrcB (Tryz.prog.underlying u) H y) := aapp_own appF22
@[go_sem] theorem makeF22 : makeF Tryz.prog 22 = some (1, 16, .str []) := Eq.trans (by kernel_rfl) rfl
@[go_sem] theorem amk22 (H : List AM.Obj) (fr : List V) (x y : Operand) : amem Tryz.prog (.makeSlice 22 x y) fr H = amakeB (some (1, 16, .str [])) H (ev fr x) (ev fr y) := amem_makeB makeF22
@[go_sem] theorem zcells22 : zcells Tryz.prog 22 = some [.list true []] := Eq.trans (by kernel_rfl) rfl
@[go_sem] theorem und23 : Tryz.prog.underlying 23 = some (.slice 147) := Eq.trans (by kernel_rfl) rfl
@[go_sem] theorem tsz23 : tsz Tryz.prog 23 = some 1 := Eq.trans (by kernel_rfl) rfl
@[go_sem] theorem tagg23 : tagg Tryz.prog 23 = some false := Eq.trans (by kernel_rfl) rfl
@[go_sem] theorem telt23 : telt Tryz.prog 23 = some (none, 6) := Eq.trans (by kernel_rfl) rfl
@[go_sem] theorem litF23 : litF Tryz.prog 23 = some 6 := Eq.trans (by kernel_rfl) rfl
@[go_sem] theorem appF23 : appF Tryz.prog 23 = some (6, 80) := Eq.trans (by kernel_rfl) rfl
@[go_sem] theorem aapp0_23 (H : List AM.Obj) (u : TypeId) (y : V) : aapp Tryz.prog H 23 u (.p (.list true [])) y = app0 H (some (6, 80)) (asrcB (Tryz.prog.underlying u) H y) := aapp_nil appF23
@[go_sem] theorem aapp1_23 (H : List AM.Obj) (u : TypeId) (o n : Nat) (y : V) : aapp Tryz.prog H 23 u (.sl o 0 n n) y = app1 H (some (6, 80)) (oat H o) o n (asrcB (Tryz.prog.underlying u) H y) := aapp_own appF23
@[go_sem] theorem makeF23 : makeF Tryz.prog 23 = some (6, 80, .agg [.int .i64 0, .int .i64 0, .int .i64 0, .int .i64 0, .list true [], .list true []]) := Eq.trans (by kernel_rfl) rfl
@[go_sem] theorem amk23 (H : List AM.Obj) (fr : List V) (x y : Operand) : amem Tryz.prog (.makeSlice 23 x y) fr H = amakeB (some (6, 80, .agg [.int .i64 0, .int .i64 0, .int .i64 0, .int .i64 0, .list true [], .list true []])) H (ev fr x) (ev fr y) := amem_makeB makeF23
@[go_sem] theorem zcells23 : zcells Tryz.prog 23 = some [.list true []] := Eq.trans (by kernel_rfl) rfl
@[go_sem] theorem tsz25 : tsz Tryz.prog 25 = some 2 := Eq.trans (by kernel_rfl) rfl
@[go_sem] theorem tagg25 : tagg Tryz.prog 25 = some true := Eq.trans (by kernel_rfl) rfl
@[go_sem] theorem tfld25_0 : tfld Tryz.prog 25 0 = some 0 := Eq.trans (by kernel_rfl) rfl
@[go_sem] theorem tfld25_1 : tfld Tryz.prog 25 1 = some 1 := Eq.trans (by kernel_rfl) rfl
@[go_sem] theorem stood25 : Tryz.prog.stoodInHeld 25 = false := Eq.trans (by kernel_rfl) rfl
@[go_sem] theorem tpl25 : tpl Tryz.prog 25 = some (plL [(0, 1), (1, 1)]) := Eq.trans (by kernel_rfl) rfl
@[go_sem] theorem aeq25 (d : Nat) (a b : List PV) : aeqD Tryz.prog d 25 (Tryz.prog.underlying 25) (.agg a) (.agg b) = oand (eqP (aeqT Tryz.prog d 22) (apart Tryz.prog 22 a 0) (apart Tryz.prog 22 b 0)) (oand (eqP (aeqT Tryz.prog d 23) (apart Tryz.prog 23 a 1) (apart Tryz.prog 23 b 1)) (some true)) := by rw [Tryz.underlying25, aeqD_struct stood25]; simp [aeqF_cons, aeqF_nil]
@[go_sem] theorem eqg25 : Tryz.prog.eqGuardType Tryz.prog.depth 25 = false := Eq.trans (by kernel_rfl) rfl
@[go_sem] theorem zcells25 : zcells Tryz.prog 25 = some [.list true [], .list true []] := Eq.trans (by kernel_rfl) rfl
@[go_sem] theorem und26 : Tryz.prog.underlying 26 = some (.slice 115) := Eq.trans (by kernel_rfl) rfl
@[go_sem] theorem tsz26 : tsz Tryz.prog 26 = some 1 := Eq.trans (by kernel_rfl) rfl
@[go_sem] theorem tagg26 : tagg Tryz.prog 26 = some false := Eq.trans (by kernel_rfl) rfl
@[go_sem] theorem telt26 : telt Tryz.prog 26 = some (none, 14) := Eq.trans (by kernel_rfl) rfl
@[go_sem] theorem litF26 : litF Tryz.prog 26 = some 14 := Eq.trans (by kernel_rfl) rfl
@[go_sem] theorem appF26 : appF Tryz.prog 26 = some (14, 136) := Eq.trans (by kernel_rfl) rfl
@[go_sem] theorem aapp0_26 (H : List AM.Obj) (u : TypeId) (y : V) : aapp Tryz.prog H 26 u (.p (.list true [])) y = app0 H (some (14, 136)) (asrcB (Tryz.prog.underlying u) H y) := aapp_nil appF26
@[go_sem] theorem aapp1_26 (H : List AM.Obj) (u : TypeId) (o n : Nat) (y : V) : aapp Tryz.prog H 26 u (.sl o 0 n n) y = app1 H (some (14, 136)) (oat H o) o n (asrcB (Tryz.prog.underlying u) H y) := aapp_own appF26
@[go_sem] theorem makeF26 : makeF Tryz.prog 26 = some (14, 136, .agg [.str [], .int .i64 0, .int .i64 0, .int .i64 0, .list true [], .int .i64 0, .int .i64 0, .int .i64 0, .int .i64 0, .int .i64 0, .int .i64 0, .int .i64 0, .int .i64 0, .int .i64 0]) := Eq.trans (by kernel_rfl) rfl
@[go_sem] theorem amk26 (H : List AM.Obj) (fr : List V) (x y : Operand) : amem Tryz.prog (.makeSlice 26 x y) fr H = amakeB (some (14, 136, .agg [.str [], .int .i64 0, .int .i64 0, .int .i64 0, .list true [], .int .i64 0, .int .i64 0, .int .i64 0, .int .i64 0, .int .i64 0, .int .i64 0, .int .i64 0, .int .i64 0, .int .i64 0])) H (ev fr x) (ev fr y) := amem_makeB makeF26
@[go_sem] theorem zcells26 : zcells Tryz.prog 26 = some [.list true []] := Eq.trans (by kernel_rfl) rfl
@[go_sem] theorem und27 : Tryz.prog.underlying 27 = some (.slice 131) := Eq.trans (by kernel_rfl) rfl
@[go_sem] theorem tsz27 : tsz Tryz.prog 27 = some 1 := Eq.trans (by kernel_rfl) rfl
@[go_sem] theorem tagg27 : tagg Tryz.prog 27 = some false := Eq.trans (by kernel_rfl) rfl
@[go_sem] theorem telt27 : telt Tryz.prog 27 = some (none, 16) := Eq.trans (by kernel_rfl) rfl
@[go_sem] theorem litF27 : litF Tryz.prog 27 = some 16 := Eq.trans (by kernel_rfl) rfl
@[go_sem] theorem appF27 : appF Tryz.prog 27 = some (16, 152) := Eq.trans (by kernel_rfl) rfl
@[go_sem] theorem aapp0_27 (H : List AM.Obj) (u : TypeId) (y : V) : aapp Tryz.prog H 27 u (.p (.list true [])) y = app0 H (some (16, 152)) (asrcB (Tryz.prog.underlying u) H y) := aapp_nil appF27
@[go_sem] theorem aapp1_27 (H : List AM.Obj) (u : TypeId) (o n : Nat) (y : V) : aapp Tryz.prog H 27 u (.sl o 0 n n) y = app1 H (some (16, 152)) (oat H o) o n (asrcB (Tryz.prog.underlying u) H y) := aapp_own appF27
@[go_sem] theorem makeF27 : makeF Tryz.prog 27 = some (16, 152, .agg [.str [], .list true [], .int .i64 0, .int .i64 0, .int .i64 0, .int .i64 0, .int .i64 0, .int .i64 0, .int .i64 0, .int .i64 0, .int .i64 0, .int .i64 0, .int .i64 0, .int .i64 0, .int .i64 0, .bool false]) := Eq.trans (by kernel_rfl) rfl
@[go_sem] theorem amk27 (H : List AM.Obj) (fr : List V) (x y : Operand) : amem Tryz.prog (.makeSlice 27 x y) fr H = amakeB (some (16, 152, .agg [.str [], .list true [], .int .i64 0, .int .i64 0, .int .i64 0, .int .i64 0, .int .i64 0, .int .i64 0, .int .i64 0, .int .i64 0, .int .i64 0, .int .i64 0, .int .i64 0, .int .i64 0, .int .i64 0, .bool false])) H (ev fr x) (ev fr y) := amem_makeB makeF27
@[go_sem] theorem zcells27 : zcells Tryz.prog 27 = some [.list true []] := Eq.trans (by kernel_rfl) rfl
@[go_sem] theorem und28 : Tryz.prog.underlying 28 = some (.slice 233) := Eq.trans (by kernel_rfl) rfl
@[go_sem] theorem tsz28 : tsz Tryz.prog 28 = some 1 := Eq.trans (by kernel_rfl) rfl
@[go_sem] theorem tagg28 : tagg Tryz.prog 28 = some false := Eq.trans (by kernel_rfl) rfl
@[go_sem] theorem telt28 : telt Tryz.prog 28 = some (none, 2) := Eq.trans (by kernel_rfl) rfl
@[go_sem] theorem litF28 : litF Tryz.prog 28 = some 2 := Eq.trans (by kernel_rfl) rfl
@[go_sem] theorem appF28 : appF Tryz.prog 28 = some (2, 16) := Eq.trans (by kernel_rfl) rfl
@[go_sem] theorem aapp0_28 (H : List AM.Obj) (u : TypeId) (y : V) : aapp Tryz.prog H 28 u (.p (.list true [])) y = app0 H (some (2, 16)) (asrcB (Tryz.prog.underlying u) H y) := aapp_nil appF28
@[go_sem] theorem aapp1_28 (H : List AM.Obj) (u : TypeId) (o n : Nat) (y : V) : aapp Tryz.prog H 28 u (.sl o 0 n n) y = app1 H (some (2, 16)) (oat H o) o n (asrcB (Tryz.prog.underlying u) H y) := aapp_own appF28
@[go_sem] theorem makeF28 : makeF Tryz.prog 28 = some (2, 16, .agg [.int .i64 0, .int .i64 0]) := Eq.trans (by kernel_rfl) rfl
@[go_sem] theorem amk28 (H : List AM.Obj) (fr : List V) (x y : Operand) : amem Tryz.prog (.makeSlice 28 x y) fr H = amakeB (some (2, 16, .agg [.int .i64 0, .int .i64 0])) H (ev fr x) (ev fr y) := amem_makeB makeF28
@[go_sem] theorem zcells28 : zcells Tryz.prog 28 = some [.list true []] := Eq.trans (by kernel_rfl) rfl
@[go_sem] theorem tsz30 : tsz Tryz.prog 30 = some 6 := Eq.trans (by kernel_rfl) rfl
@[go_sem] theorem tagg30 : tagg Tryz.prog 30 = some true := Eq.trans (by kernel_rfl) rfl
@[go_sem] theorem tfld30_0 : tfld Tryz.prog 30 0 = some 0 := Eq.trans (by kernel_rfl) rfl
@[go_sem] theorem tfld30_1 : tfld Tryz.prog 30 1 = some 2 := Eq.trans (by kernel_rfl) rfl
@[go_sem] theorem tfld30_2 : tfld Tryz.prog 30 2 = some 3 := Eq.trans (by kernel_rfl) rfl
@[go_sem] theorem tfld30_3 : tfld Tryz.prog 30 3 = some 4 := Eq.trans (by kernel_rfl) rfl
@[go_sem] theorem tfld30_4 : tfld Tryz.prog 30 4 = some 5 := Eq.trans (by kernel_rfl) rfl
@[go_sem] theorem stood30 : Tryz.prog.stoodInHeld 30 = false := Eq.trans (by kernel_rfl) rfl
@[go_sem] theorem tpl30 : tpl Tryz.prog 30 = some (plL [(0, 2), (2, 1), (3, 1), (4, 1), (5, 1)]) := Eq.trans (by kernel_rfl) rfl
@[go_sem] theorem aeq30 (d : Nat) (a b : List PV) : aeqD Tryz.prog d 30 (Tryz.prog.underlying 30) (.agg a) (.agg b) = oand (eqP (aeqT Tryz.prog d 25) (apart Tryz.prog 25 a 0) (apart Tryz.prog 25 b 0)) (oand (eqP (aeqT Tryz.prog d 26) (apart Tryz.prog 26 a 2) (apart Tryz.prog 26 b 2)) (oand (eqP (aeqT Tryz.prog d 27) (apart Tryz.prog 27 a 3) (apart Tryz.prog 27 b 3)) (oand (eqP (aeqT Tryz.prog d 28) (apart Tryz.prog 28 a 4) (apart Tryz.prog 28 b 4)) (oand (eqP (aeqT Tryz.prog d 28) (apart Tryz.prog 28 a 5) (apart Tryz.prog 28 b 5)) (some true))))) := by rw [Tryz.underlying30, aeqD_struct stood30]; simp [aeqF_cons, aeqF_nil]
@[go_sem] theorem eqg30 : Tryz.prog.eqGuardType Tryz.prog.depth 30 = false := Eq.trans (by kernel_rfl) rfl
@[go_sem] theorem zcells30 : zcells Tryz.prog 30 = some [.list true [], .list true [], .list true [], .list true [], .list true [], .list true []] := Eq.trans (by kernel_rfl) rfl
@[go_sem] theorem und31 : Tryz.prog.underlying 31 = some (.slice 56) := Eq.trans (by kernel_rfl) rfl
@[go_sem] theorem tsz31 : tsz Tryz.prog 31 = some 1 := Eq.trans (by kernel_rfl) rfl
@[go_sem] theorem tagg31 : tagg Tryz.prog 31 = some false := Eq.trans (by kernel_rfl) rfl
@[go_sem] theorem telt31 : telt Tryz.prog 31 = some (none, 4) := Eq.trans (by kernel_rfl) rfl
@[go_sem] theorem litF31 : litF Tryz.prog 31 = some 4 := Eq.trans (by kernel_rfl) rfl
@[go_sem] theorem appF31 : appF Tryz.prog 31 = some (4, 64) := Eq.trans (by kernel_rfl) rfl
@[go_sem] theorem aapp0_31 (H : List AM.Obj) (u : TypeId) (y : V) : aapp Tryz.prog H 31 u (.p (.list true [])) y = app0 H (some (4, 64)) (asrcB (Tryz.prog.underlying u) H y) := aapp_nil appF31
@[go_sem] theorem aapp1_31 (H : List AM.Obj) (u : TypeId) (o n : Nat) (y : V) : aapp Tryz.prog H 31 u (.sl o 0 n n) y = app1 H (some (4, 64)) (oat H o) o n (asrcB (Tryz.prog.underlying u) H y) := aapp_own appF31
@[go_sem] theorem makeF31 : makeF Tryz.prog 31 = some (4, 64, .agg [.int .i64 0, .int .i64 0, .list true [], .list true []]) := Eq.trans (by kernel_rfl) rfl
@[go_sem] theorem amk31 (H : List AM.Obj) (fr : List V) (x y : Operand) : amem Tryz.prog (.makeSlice 31 x y) fr H = amakeB (some (4, 64, .agg [.int .i64 0, .int .i64 0, .list true [], .list true []])) H (ev fr x) (ev fr y) := amem_makeB makeF31
@[go_sem] theorem zcells31 : zcells Tryz.prog 31 = some [.list true []] := Eq.trans (by kernel_rfl) rfl
@[go_sem] theorem und32 : Tryz.prog.underlying 32 = some (.slice 3) := Eq.trans (by kernel_rfl) rfl
@[go_sem] theorem tsz32 : tsz Tryz.prog 32 = some 1 := Eq.trans (by kernel_rfl) rfl
@[go_sem] theorem tagg32 : tagg Tryz.prog 32 = some false := Eq.trans (by kernel_rfl) rfl
@[go_sem] theorem telt32 : telt Tryz.prog 32 = some (none, 1) := Eq.trans (by kernel_rfl) rfl
@[go_sem] theorem litF32 : litF Tryz.prog 32 = some 1 := Eq.trans (by kernel_rfl) rfl
@[go_sem] theorem appF32 : appF Tryz.prog 32 = some (1, 8) := Eq.trans (by kernel_rfl) rfl
@[go_sem] theorem aapp0_32 (H : List AM.Obj) (u : TypeId) (y : V) : aapp Tryz.prog H 32 u (.p (.list true [])) y = app0 H (some (1, 8)) (asrcB (Tryz.prog.underlying u) H y) := aapp_nil appF32
@[go_sem] theorem aapp1_32 (H : List AM.Obj) (u : TypeId) (o n : Nat) (y : V) : aapp Tryz.prog H 32 u (.sl o 0 n n) y = app1 H (some (1, 8)) (oat H o) o n (asrcB (Tryz.prog.underlying u) H y) := aapp_own appF32
@[go_sem] theorem makeF32 : makeF Tryz.prog 32 = some (1, 8, .int .i64 0) := Eq.trans (by kernel_rfl) rfl
@[go_sem] theorem amk32 (H : List AM.Obj) (fr : List V) (x y : Operand) : amem Tryz.prog (.makeSlice 32 x y) fr H = amakeB (some (1, 8, .int .i64 0)) H (ev fr x) (ev fr y) := amem_makeB makeF32
@[go_sem] theorem zcells32 : zcells Tryz.prog 32 = some [.list true []] := Eq.trans (by kernel_rfl) rfl
@[go_sem] theorem tsz34 : tsz Tryz.prog 34 = some 2 := Eq.trans (by kernel_rfl) rfl
@[go_sem] theorem tagg34 : tagg Tryz.prog 34 = some true := Eq.trans (by kernel_rfl) rfl
@[go_sem] theorem tfld34_0 : tfld Tryz.prog 34 0 = some 0 := Eq.trans (by kernel_rfl) rfl
@[go_sem] theorem tfld34_1 : tfld Tryz.prog 34 1 = some 1 := Eq.trans (by kernel_rfl) rfl
@[go_sem] theorem stood34 : Tryz.prog.stoodInHeld 34 = false := Eq.trans (by kernel_rfl) rfl
@[go_sem] theorem tpl34 : tpl Tryz.prog 34 = some (plL [(0, 1), (1, 1)]) := Eq.trans (by kernel_rfl) rfl
@[go_sem] theorem aeq34 (d : Nat) (a b : List PV) : aeqD Tryz.prog d 34 (Tryz.prog.underlying 34) (.agg a) (.agg b) = oand (eqP (aeqT Tryz.prog d 31) (apart Tryz.prog 31 a 0) (apart Tryz.prog 31 b 0)) (oand (eqP (aeqT Tryz.prog d 32) (apart Tryz.prog 32 a 1) (apart Tryz.prog 32 b 1)) (some true)) := by rw [Tryz.underlying34, aeqD_struct stood34]; simp [aeqF_cons, aeqF_nil]
@[go_sem] theorem eqg34 : Tryz.prog.eqGuardType Tryz.prog.depth 34 = false := Eq.trans (by kernel_rfl) rfl
@[go_sem] theorem zcells34 : zcells Tryz.prog 34 = some [.list true [], .list true []] := Eq.trans (by kernel_rfl) rfl
@[go_sem] theorem und37 : Tryz.prog.underlying 37 = some (.slice 62) := Eq.trans (by kernel_rfl) rfl
@[go_sem] theorem tsz37 : tsz Tryz.prog 37 = some 1 := Eq.trans (by kernel_rfl) rfl
@[go_sem] theorem tagg37 : tagg Tryz.prog 37 = some false := Eq.trans (by kernel_rfl) rfl
@[go_sem] theorem telt37 : telt Tryz.prog 37 = some (none, 9) := Eq.trans (by kernel_rfl) rfl
@[go_sem] theorem litF37 : litF Tryz.prog 37 = some 9 := Eq.trans (by kernel_rfl) rfl
@[go_sem] theorem appF37 : appF Tryz.prog 37 = some (9, 88) := Eq.trans (by kernel_rfl) rfl
@[go_sem] theorem aapp0_37 (H : List AM.Obj) (u : TypeId) (y : V) : aapp Tryz.prog H 37 u (.p (.list true [])) y = app0 H (some (9, 88)) (asrcB (Tryz.prog.underlying u) H y) := aapp_nil appF37
@[go_sem] theorem aapp1_37 (H : List AM.Obj) (u : TypeId) (o n : Nat) (y : V) : aapp Tryz.prog H 37 u (.sl o 0 n n) y = app1 H (some (9, 88)) (oat H o) o n (asrcB (Tryz.prog.underlying u) H y) := aapp_own appF37
@[go_sem] theorem makeF37 : makeF Tryz.prog 37 = some (9, 88, .agg [.int .i64 0, .int .i64 0, .bool false, .int .i64 0, .int .i64 0, .int .i64 0, .int .i64 0, .bool false, .list true []]) := Eq.trans (by kernel_rfl) rfl
@[go_sem] theorem amk37 (H : List AM.Obj) (fr : List V) (x y : Operand) : amem Tryz.prog (.makeSlice 37 x y) fr H = amakeB (some (9, 88, .agg [.int .i64 0, .int .i64 0, .bool false, .int .i64 0, .int .i64 0, .int .i64 0, .int .i64 0, .bool false, .list true []])) H (ev fr x) (ev fr y) := amem_makeB makeF37
@[go_sem] theorem zcells37 : zcells Tryz.prog 37 = some [.list true []] := Eq.trans (by kernel_rfl) rfl
@[go_sem] theorem und38 : Tryz.prog.underlying 38 = some (.int .i64) := Eq.trans (by kernel_rfl) rfl
@[go_sem] theorem tsz38 : tsz Tryz.prog 38 = some 1 := Eq.trans (by kernel_rfl) rfl
@[go_sem] theorem tagg38 : tagg Tryz.prog 38 = some false := Eq.trans (by kernel_rfl) rfl
@[go_sem] theorem zcells38 : zcells Tryz.prog 38 = some [.int .i64 0] := Eq.trans (by kernel_rfl) rfl
@[go_sem] theorem und41 : Tryz.prog.underlying 41 = some (.slice 109) := Eq.trans (by kernel_rfl) rfl
@[go_sem] theorem tsz41 : tsz Tryz.prog 41 = some 1 := Eq.trans (by kernel_rfl) rfl
@[go_sem] theorem tagg41 : tagg Tryz.prog 41 = some false := Eq.trans (by kernel_rfl) rfl
@[go_sem] theorem telt41 : telt Tryz.prog 41 = some (none, 9) := Eq.trans (by kernel_rfl) rfl
@[go_sem] theorem litF41 : litF Tryz.prog 41 = some 9 := Eq.trans (by kernel_rfl) rfl
@[go_sem] theorem appF41 : appF Tryz.prog 41 = some (9, 88) := Eq.trans (by kernel_rfl) rfl
@[go_sem] theorem aapp0_41 (H : List AM.Obj) (u : TypeId) (y : V) : aapp Tryz.prog H 41 u (.p (.list true [])) y = app0 H (some (9, 88)) (asrcB (Tryz.prog.underlying u) H y) := aapp_nil appF41
@[go_sem] theorem aapp1_41 (H : List AM.Obj) (u : TypeId) (o n : Nat) (y : V) : aapp Tryz.prog H 41 u (.sl o 0 n n) y = app1 H (some (9, 88)) (oat H o) o n (asrcB (Tryz.prog.underlying u) H y) := aapp_own appF41
@[go_sem] theorem makeF41 : makeF Tryz.prog 41 = some (9, 88, .agg [.int .i64 0, .int .i64 0, .bool false, .int .i64 0, .int .i64 0, .int .i64 0, .int .i64 0, .bool false, .list true []]) := Eq.trans (by kernel_rfl) rfl
@[go_sem] theorem amk41 (H : List AM.Obj) (fr : List V) (x y : Operand) : amem Tryz.prog (.makeSlice 41 x y) fr H = amakeB (some (9, 88, .agg [.int .i64 0, .int .i64 0, .bool false, .int .i64 0, .int .i64 0, .int .i64 0, .int .i64 0, .bool false, .list true []])) H (ev fr x) (ev fr y) := amem_makeB makeF41
@[go_sem] theorem zcells41 : zcells Tryz.prog 41 = some [.list true []] := Eq.trans (by kernel_rfl) rfl
@[go_sem] theorem und53 : Tryz.prog.underlying 53 = some (.slice 4) := Eq.trans (by kernel_rfl) rfl
@[go_sem] theorem tsz53 : tsz Tryz.prog 53 = some 1 := Eq.trans (by kernel_rfl) rfl
@[go_sem] theorem tagg53 : tagg Tryz.prog 53 = some false := Eq.trans (by kernel_rfl) rfl
@[go_sem] theorem telt53 : telt Tryz.prog 53 = some (none, 1) := Eq.trans (by kernel_rfl) rfl
@[go_sem] theorem litF53 : litF Tryz.prog 53 = some 1 := Eq.trans (by kernel_rfl) rfl
@[go_sem] theorem appF53 : appF Tryz.prog 53 = some (1, 1) := Eq.trans (by kernel_rfl) rfl
@[go_sem] theorem aapp0_53 (H : List AM.Obj) (u : TypeId) (y : V) : aapp Tryz.prog H 53 u (.p (.list true [])) y = app0 H (some (1, 1)) (asrcB (Tryz.prog.underlying u) H y) := aapp_nil appF53
@[go_sem] theorem aapp1_53 (H : List AM.Obj) (u : TypeId) (o n : Nat) (y : V) : aapp Tryz.prog H 53 u (.sl o 0 n n) y = app1 H (some (1, 1)) (oat H o) o n (asrcB (Tryz.prog.underlying u) H y) := aapp_own appF53
@[go_sem] theorem makeF53 : makeF Tryz.prog 53 = some (1, 1, .bool false) := Eq.trans (by kernel_rfl) rfl
@[go_sem] theorem amk53 (H : List AM.Obj) (fr : List V) (x y : Operand) : amem Tryz.prog (.makeSlice 53 x y) fr H = amakeB (some (1, 1, .bool false)) H (ev fr x) (ev fr y) := amem_makeB makeF53
@[go_sem] theorem zcells53 : zcells Tryz.prog 53 = some [.list true []] := Eq.trans (by kernel_rfl) rfl
@[go_sem] theorem und54 : Tryz.prog.underlying 54 = some (.slice 58) := Eq.trans (by kernel_rfl) rfl
@[go_sem] theorem tsz54 : tsz Tryz.prog 54 = some 1 := Eq.trans (by kernel_rfl) rfl
@[go_sem] theorem tagg54 : tagg Tryz.prog 54 = some false := Eq.trans (by kernel_rfl) rfl
@[go_sem] theorem telt54 : telt Tryz.prog 54 = some (none, 2) := Eq.trans (by kernel_rfl) rfl
@[go_sem] theorem litF54 : litF Tryz.prog 54 = some 2 := Eq.trans (by kernel_rfl) rfl
@[go_sem] theorem appF54 : appF Tryz.prog 54 = some (2, 16) := Eq.trans (by kernel_rfl) rfl
@[go_sem] theorem aapp0_54 (H : List AM.Obj) (u : TypeId) (y : V) : aapp Tryz.prog H 54 u (.p (.list true [])) y = app0 H (some (2, 16)) (asrcB (Tryz.prog.underlying u) H y) := aapp_nil appF54
@[go_sem] theorem aapp1_54 (H : List AM.Obj) (u : TypeId) (o n : Nat) (y : V) : aapp Tryz.prog H 54 u (.sl o 0 n n) y = app1 H (some (2, 16)) (oat H o) o n (asrcB (Tryz.prog.underlying u) H y) := aapp_own appF54
@[go_sem] theorem makeF54 : makeF Tryz.prog 54 = some (2, 16, .agg [.int .i64 0, .bool false]) := Eq.trans (by kernel_rfl) rfl
@[go_sem] theorem amk54 (H : List AM.Obj) (fr : List V) (x y : Operand) : amem Tryz.prog (.makeSlice 54 x y) fr H = amakeB (some (2, 16, .agg [.int .i64 0, .bool false])) H (ev fr x) (ev fr y) := amem_makeB makeF54
@[go_sem] theorem zcells54 : zcells Tryz.prog 54 = some [.list true []] := Eq.trans (by kernel_rfl) rfl
@[go_sem] theorem tsz56 : tsz Tryz.prog 56 = some 4 := Eq.trans (by kernel_rfl) rfl
@[go_sem] theorem tagg56 : tagg Tryz.prog 56 = some true := Eq.trans (by kernel_rfl) rfl
@[go_sem] theorem tfld56_0 : tfld Tryz.prog 56 0 = some 0 := Eq.trans (by kernel_rfl) rfl
@[go_sem] theorem tfld56_1 : tfld Tryz.prog 56 1 = some 1 := Eq.trans (by kernel_rfl) rfl
@[go_sem] theorem tfld56_2 : tfld Tryz.prog 56 2 = some 2 := Eq.trans (by kernel_rfl) rfl
@[go_sem] theorem tfld56_3 : tfld Tryz.prog 56 3 = some 3 := Eq.trans (by kernel_rfl) rfl
@[go_sem] theorem stood56 : Tryz.prog.stoodInHeld 56 = false := Eq.trans (by kernel_rfl) rfl
@[go_sem] theorem tpl56 : tpl Tryz.prog 56 = some (plL [(0, 1), (1, 1), (2, 1), (3, 1)]) := Eq.trans (by kernel_rfl) rfl
@[go_sem] theorem aeq56 (d : Nat) (a b : List PV) : aeqD Tryz.prog d 56 (Tryz.prog.underlying 56) (.agg a) (.agg b) = oand (eqP (aeqT Tryz.prog d 3) (apart Tryz.prog 3 a 0) (apart Tryz.prog 3 b 0)) (oand (eqP (aeqT Tryz.prog d 3) (apart Tryz.prog 3 a 1) (apart Tryz.prog 3 b 1)) (oand (eqP (aeqT Tryz.prog d 53) (apart Tryz.prog 53 a 2) (apart Tryz.prog 53 b 2)) (oand (eqP (aeqT Tryz.prog d 54) (apart Tryz.prog 54 a 3) (apart Tryz.prog 54 b 3)) (some true)))) := by rw [Tryz.underlying56, aeqD_struct stood56]; simp [aeqF_cons, aeqF_nil]
@[go_sem] theorem eqg56 : Tryz.prog.eqGuardType Tryz.prog.depth 56 = false := Eq.trans (by kernel_rfl) rfl
@[go_sem] theorem zcells56 : zcells Tryz.prog 56 = some [.int .i64 0, .int .i64 0, .list true [], .list true []] := Eq.trans (by kernel_rfl) rfl
@[go_sem] theorem tsz58 : tsz Tryz.prog 58 = some 2 := Eq.trans (by kernel_rfl) rfl
@[go_sem] theorem tagg58 : tagg Tryz.prog 58 = some true := Eq.trans (by kernel_rfl) rfl
@[go_sem] theorem tfld58_0 : tfld Tryz.prog 58 0 = some 0 := Eq.trans (by kernel_rfl) rfl
@[go_sem] theorem tfld58_1 : tfld Tryz.prog 58 1 = some 1 := Eq.trans (by kernel_rfl) rfl
@[go_sem] theorem stood58 : Tryz.prog.stoodInHeld 58 = false := Eq.trans (by kernel_rfl) rfl
@[go_sem] theorem tpl58 : tpl Tryz.prog 58 = some (plL [(0, 1), (1, 1)]) := Eq.trans (by kernel_rfl) rfl
@[go_sem] theorem aeq58 (d : Nat) (a b : List PV) : aeqD Tryz.prog d 58 (Tryz.prog.underlying 58) (.agg a) (.agg b) = oand (eqP (aeqT Tryz.prog d 3) (apart Tryz.prog 3 a 0) (apart Tryz.prog 3 b 0)) (oand (eqP (aeqT Tryz.prog d 4) (apart Tryz.prog 4 a 1) (apart Tryz.prog 4 b 1)) (some true)) := by rw [Tryz.underlying58, aeqD_struct stood58]; simp [aeqF_cons, aeqF_nil]
@[go_sem] theorem eqg58 : Tryz.prog.eqGuardType Tryz.prog.depth 58 = false := Eq.trans (by kernel_rfl) rfl
@[go_sem] theorem zcells58 : zcells Tryz.prog 58 = some [.int .i64 0, .bool false] := Eq.trans (by kernel_rfl) rfl
@[go_sem] theorem tsz60 : tsz Tryz.prog 60 = some 4 := Eq.trans (by kernel_rfl) rfl
@[go_sem] theorem tagg60 : tagg Tryz.prog 60 = some true := Eq.trans (by kernel_rfl) rfl
@[go_sem] theorem tfld60_0 : tfld Tryz.prog 60 0 = some 0 := Eq.trans (by kernel_rfl) rfl
@[go_sem] theorem tfld60_1 : tfld Tryz.prog 60 1 = some 1 := Eq.trans (by kernel_rfl) rfl
@[go_sem] theorem tfld60_2 : tfld Tryz.prog 60 2 = some 2 := Eq.trans (by kernel_rfl) rfl
@[go_sem] theorem tfld60_3 : tfld Tryz.prog 60 3 = some 3 := Eq.trans (by kernel_rfl) rfl
@[go_sem] theorem stood60 : Tryz.prog.stoodInHeld 60 = false := Eq.trans (by kernel_rfl) rfl
@[go_sem] theorem tpl60 : tpl Tryz.prog 60 = some (plL [(0, 1), (1, 1), (2, 1), (3, 1)]) := Eq.trans (by kernel_rfl) rfl
@[go_sem] theorem aeq60 (d : Nat) (a b : List PV) : aeqD Tryz.prog d 60 (Tryz.prog.underlying 60) (.agg a) (.agg b) = oand (eqP (aeqT Tryz.prog d 3) (apart Tryz.prog 3 a 0) (apart Tryz.prog 3 b 0)) (oand (eqP (aeqT Tryz.prog d 3) (apart Tryz.prog 3 a 1) (apart Tryz.prog 3 b 1)) (oand (eqP (aeqT Tryz.prog d 3) (apart Tryz.prog 3 a 2) (apart Tryz.prog 3 b 2)) (oand (eqP (aeqT Tryz.prog d 4) (apart Tryz.prog 4 a 3) (apart Tryz.prog 4 b 3)) (some true)))) := by rw [Tryz.underlying60, aeqD_struct stood60]; simp [aeqF_cons, aeqF_nil]
@[go_sem] theorem eqg60 : Tryz.prog.eqGuardType Tryz.prog.depth 60 = false := Eq.trans (by kernel_rfl) rfl
@[go_sem] theorem zcells60 : zcells Tryz.prog 60 = some [.int .i64 0, .int .i64 0, .int .i64 0, .bool false] := Eq.trans (by kernel_rfl) rfl
@[go_sem] theorem tsz62 : tsz Tryz.prog 62 = some 9 := Eq.trans (by kernel_rfl) rfl
@[go_sem] theorem tagg62 : tagg Tryz.prog 62 = some true := Eq.trans (by kernel_rfl) rfl
@[go_sem] theorem tfld62_0 : tfld Tryz.prog 62 0 = some 0 := Eq.trans (by kernel_rfl) rfl
@[go_sem] theorem tfld62_1 : tfld Tryz.prog 62 1 = some 1 := Eq.trans (by kernel_rfl) rfl
@[go_sem] theorem tfld62_2 : tfld Tryz.prog 62 2 = some 3 := Eq.trans (by kernel_rfl) rfl
@[go_sem] theorem tfld62_3 : tfld Tryz.prog 62 3 = some 4 := Eq.trans (by kernel_rfl) rfl
@[go_sem] theorem tfld62_4 : tfld Tryz.prog 62 4 = some 8 := Eq.trans (by kernel_rfl) rfl
@[go_sem] theorem stood62 : Tryz.prog.stoodInHeld 62 = false := Eq.trans (by kernel_rfl) rfl
@[go_sem] theorem tpl62 : tpl Tryz.prog 62 = some (plL [(0, 1), (1, 2), (3, 1), (4, 4), (8, 1)]) := Eq.trans (by kernel_rfl) rfl
@[go_sem] theorem aeq62 (d : Nat) (a b : List PV) : aeqD Tryz.prog d 62 (Tryz.prog.underlying 62) (.agg a) (.agg b) = oand (eqP (aeqT Tryz.prog d 3) (apart Tryz.prog 3 a 0) (apart Tryz.prog 3 b 0)) (oand (eqP (aeqT Tryz.prog d 58) (apart Tryz.prog 58 a 1) (apart Tryz.prog 58 b 1)) (oand (eqP (aeqT Tryz.prog d 3) (apart Tryz.prog 3 a 3) (apart Tryz.prog 3 b 3)) (oand (eqP (aeqT Tryz.prog d 60) (apart Tryz.prog 60 a 4) (apart Tryz.prog 60 b 4)) (oand (eqP (aeqT Tryz.prog d 32) (apart Tryz.prog 32 a 8) (apart Tryz.prog 32 b 8)) (some true))))) := by rw [Tryz.underlying62, aeqD_struct stood62]; simp [aeqF_cons, aeqF_nil]
@[go_sem] theorem eqg62 : Tryz.prog.eqGuardType Tryz.prog.depth 62 = false := Eq.trans (by kernel_rfl) rfl
@[go_sem] theorem zcells62 : zcells Tryz.prog 62 = some [.int .i64 0, .int .i64 0, .bool false, .int .i64 0, .int .i64 0, .int .i64 0, .int .i64 0, .bool false, .list true []] := Eq.trans (by kernel_rfl) rfl
@[go_sem] theorem und74 : Tryz.prog.underlying 74 = some (.slice 76) := Eq.trans (by kernel_rfl) rfl
@[go_sem] theorem tsz74 : tsz Tryz.prog 74 = some 1 := Eq.trans (by kernel_rfl) rfl
@[go_sem] theorem tagg74 : tagg Tryz.prog 74 = some false := Eq.trans (by kernel_rfl) rfl
@[go_sem] theorem telt74 : telt Tryz.prog 74 = some (none, 7) := Eq.trans (by kernel_rfl) rfl
@[go_sem] theorem litF74 : litF Tryz.prog 74 = some 7 := Eq.trans (by kernel_rfl) rfl
@[go_sem] theorem appF74 : appF Tryz.prog 74 = some (7, 88) := Eq.trans (by kernel_rfl) rfl
@[go_sem] theorem aapp0_74 (H : List AM.Obj) (u : TypeId) (y : V) : aapp Tryz.prog H 74 u (.p (.list true [])) y = app0 H (some (7, 88)) (asrcB (Tryz.prog.underlying u) H y) := aapp_nil appF74
@[go_sem] theorem aapp1_74 (H : List AM.Obj) (u : TypeId) (o n : Nat) (y : V) : aapp Tryz.prog H 74 u (.sl o 0 n n) y = app1 H (some (7, 88)) (oat H o) o n (asrcB (Tryz.prog.underlying u) H y) := aapp_own appF74
@[go_sem] theorem makeF74 : makeF Tryz.prog 74 = some (7, 88, .agg [.int .i64 0, .int .i64 0, .int .i64 0, .int .i64 0, .int .i64 0, .list true [], .list true []]) := Eq.trans (by kernel_rfl) rfl
@[go_sem] theorem amk74 (H : List AM.Obj) (fr : List V) (x y : Operand) : amem Tryz.prog (.makeSlice 74 x y) fr H = amakeB (some (7, 88, .agg [.int .i64 0, .int .i64 0, .int .i64 0, .int .i64 0, .int .i64 0, .list true [], .list true []])) H (ev fr x) (ev fr y) := amem_makeB makeF74
@[go_sem] theorem zcells74 : zcells Tryz.prog 74 = some [.list true []] := Eq.trans (by kernel_rfl) rfl
@[go_sem] theorem tsz76 : tsz Tryz.prog 76 = some 7 := Eq.trans (by kernel_rfl) rfl
@[go_sem] theorem tagg76 : tagg Tryz.prog 76 = some true := Eq.trans (by kernel_rfl) rfl
@[go_sem] theorem tfld76_0 : tfld Tryz.prog 76 0 = some 0 := Eq.trans (by kernel_rfl) rfl
@[go_sem] theorem tfld76_1 : tfld Tryz.prog 76 1 = some 1 := Eq.trans (by kernel_rfl) rfl
@[go_sem] theorem tfld76_2 : tfld Tryz.prog 76 2 = some 2 := Eq.trans (by kernel_rfl) rfl
@[go_sem] theorem tfld76_3 : tfld Tryz.prog 76 3 = some 3 := Eq.trans (by kernel_rfl) rfl
@[go_sem] theorem stood76 : Tryz.prog.stoodInHeld 76 = false := Eq.trans (by kernel_rfl) rfl
@[go_sem] theorem tpl76 : tpl Tryz.prog 76 = some (plL [(0, 1), (1, 1), (2, 1), (3, 4)]) := Eq.trans (by kernel_rfl) rfl
@[go_sem] theorem aeq76 (d : Nat) (a b : List PV) : aeqD Tryz.prog d 76 (Tryz.prog.underlying 76) (.agg a) (.agg b) = oand (eqP (aeqT Tryz.prog d 3) (apart Tryz.prog 3 a 0) (apart Tryz.prog 3 b 0)) (oand (eqP (aeqT Tryz.prog d 3) (apart Tryz.prog 3 a 1) (apart Tryz.prog 3 b 1)) (oand (eqP (aeqT Tryz.prog d 3) (apart Tryz.prog 3 a 2) (apart Tryz.prog 3 b 2)) (oand (eqP (aeqT Tryz.prog d 56) (apart Tryz.prog 56 a 3) (apart Tryz.prog 56 b 3)) (some true)))) := by rw [Tryz.underlying76, aeqD_struct stood76]; simp [aeqF_cons, aeqF_nil]
@[go_sem] theorem eqg76 : Tryz.prog.eqGuardType Tryz.prog.depth 76 = false := Eq.trans (by kernel_rfl) rfl
@[go_sem] theorem zcells76 : zcells Tryz.prog 76 = some [.int .i64 0, .int .i64 0, .int .i64 0, .int .i64 0, .int .i64 0, .list true [], .list true []] := Eq.trans (by kernel_rfl) rfl
@[go_sem] theorem und77 : Tryz.prog.underlying 77 = some (.slice 180) := Eq.trans (by kernel_rfl) rfl
@[go_sem] theorem tsz77 : tsz Tryz.prog 77 = some 1 := Eq.trans (by kernel_rfl) rfl
@[go_sem] theorem tagg77 : tagg Tryz.prog 77 = some false := Eq.trans (by kernel_rfl) rfl
@[go_sem] theorem telt77 : telt Tryz.prog 77 = some (none, 2) := Eq.trans (by kernel_rfl) rfl
@[go_sem] theorem litF77 : litF Tryz.prog 77 = some 2 := Eq.trans (by kernel_rfl) rfl
@[go_sem] theorem appF77 : appF Tryz.prog 77 = some (2, 24) := Eq.trans (by kernel_rfl) rfl
@[go_sem] theorem aapp0_77 (H : List AM.Obj) (u : TypeId) (y : V) : aapp Tryz.prog H 77 u (.p (.list true [])) y = app0 H (some (2, 24)) (asrcB (Tryz.prog.underlying u) H y) := aapp_nil appF77
@[go_sem] theorem aapp1_77 (H : List AM.Obj) (u : TypeId) (o n : Nat) (y : V) : aapp Tryz.prog H 77 u (.sl o 0 n n) y = app1 H (some (2, 24)) (oat H o) o n (asrcB (Tryz.prog.underlying u) H y) := aapp_own appF77
@[go_sem] theorem makeF77 : makeF Tryz.prog 77 = some (2, 24, .agg [.int .i64 0, .str []]) := Eq.trans (by kernel_rfl) rfl
@[go_sem] theorem amk77 (H : List AM.Obj) (fr : List V) (x y : Operand) : amem Tryz.prog (.makeSlice 77 x y) fr H = amakeB (some (2, 24, .agg [.int .i64 0, .str []])) H (ev fr x) (ev fr y) := amem_makeB makeF77
@[go_sem] theorem zcells77 : zcells Tryz.prog 77 = some [.list true []] := Eq.trans (by kernel_rfl) rfl
@[go_sem] theorem tsz85 : tsz Tryz.prog 85 = some 4 := Eq.trans (by kernel_rfl) rfl
@[go_sem] theorem tagg85 : tagg Tryz.prog 85 = some true := Eq.trans (by kernel_rfl) rfl
@[go_sem] theorem tfld85_0 : tfld Tryz.prog 85 0 = some 0 := Eq.trans (by kernel_rfl) rfl
@[go_sem] theorem tfld85_1 : tfld Tryz.prog 85 1 = some 1 := Eq.trans (by kernel_rfl) rfl
@[go_sem] theorem tfld85_2 : tfld Tryz.prog 85 2 = some 2 := Eq.trans (by kernel_rfl) rfl
@[go_sem] theorem tfld85_3 : tfld Tryz.prog 85 3 = some 3 := Eq.trans (by kernel_rfl) rfl
@[go_sem] theorem stood85 : Tryz.prog.stoodInHeld 85 = false := Eq.trans (by kernel_rfl) rfl
@[go_sem] theorem tpl85 : tpl Tryz.prog 85 = some (plL [(0, 1), (1, 1), (2, 1), (3, 1)]) := Eq.trans (by kernel_rfl) rfl
@[go_sem] theorem aeq85 (d : Nat) (a b : List PV) : aeqD Tryz.prog d 85 (Tryz.prog.underlying 85) (.agg a) (.agg b) = oand (eqP (aeqT Tryz.prog d 3) (apart Tryz.prog 3 a 0) (apart Tryz.prog 3 b 0)) (oand (eqP (aeqT Tryz.prog d 3) (apart Tryz.prog 3 a 1) (apart Tryz.prog 3 b 1)) (oand (eqP (aeqT Tryz.prog d 3) (apart Tryz.prog 3 a 2) (apart Tryz.prog 3 b 2)) (oand (eqP (aeqT Tryz.prog d 3) (apart Tryz.prog 3 a 3) (apart Tryz.prog 3 b 3)) (some true)))) := by rw [Tryz.underlying85, aeqD_struct stood85]; simp [aeqF_cons, aeqF_nil]
@[go_sem] theorem eqg85 : Tryz.prog.eqGuardType Tryz.prog.depth 85 = false := Eq.trans (by kernel_rfl) rfl
@[go_sem] theorem zcells85 : zcells Tryz.prog 85 = some [.int .i64 0, .int .i64 0, .int .i64 0, .int .i64 0] := Eq.trans (by kernel_rfl) rfl
@[go_sem] theorem und93 : Tryz.prog.underlying 93 = some (.slice 100) := Eq.trans (by kernel_rfl) rfl
@[go_sem] theorem tsz93 : tsz Tryz.prog 93 = some 1 := Eq.trans (by kernel_rfl) rfl
@[go_sem] theorem tagg93 : tagg Tryz.prog 93 = some false := Eq.trans (by kernel_rfl) rfl
@[go_sem] theorem telt93 : telt Tryz.prog 93 = some (none, 10) := Eq.trans (by kernel_rfl) rfl
@[go_sem] theorem litF93 : litF Tryz.prog 93 = some 10 := Eq.trans (by kernel_rfl) rfl
@[go_sem] theorem appF93 : appF Tryz.prog 93 = some (10, 144) := Eq.trans (by kernel_rfl) rfl
@[go_sem] theorem aapp0_93 (H : List AM.Obj) (u : TypeId) (y : V) : aapp Tryz.prog H 93 u (.p (.list true [])) y = app0 H (some (10, 144)) (asrcB (Tryz.prog.underlying u) H y) := aapp_nil appF93
@[go_sem] theorem aapp1_93 (H : List AM.Obj) (u : TypeId) (o n : Nat) (y : V) : aapp Tryz.prog H 93 u (.sl o 0 n n) y = app1 H (some (10, 144)) (oat H o) o n (asrcB (Tryz.prog.underlying u) H y) := aapp_own appF93
@[go_sem] theorem makeF93 : makeF Tryz.prog 93 = some (10, 144, .agg [.int .i64 0, .int .i64 0, .list true [], .list true [], .bool false, .int .i64 0, .list true [], .int .i64 0, .int .i64 0, .list true []]) := Eq.trans (by kernel_rfl) rfl
@[go_sem] theorem amk93 (H : List AM.Obj) (fr : List V) (x y : Operand) : amem Tryz.prog (.makeSlice 93 x y) fr H = amakeB (some (10, 144, .agg [.int .i64 0, .int .i64 0, .list true [], .list true [], .bool false, .int .i64 0, .list true [], .int .i64 0, .int .i64 0, .list true []])) H (ev fr x) (ev fr y) := amem_makeB makeF93
@[go_sem] theorem zcells93 : zcells Tryz.prog 93 = some [.list true []] := Eq.trans (by kernel_rfl) rfl
@[go_sem] theorem und96 : Tryz.prog.underlying 96 = some (.slice 60) := Eq.trans (by kernel_rfl) rfl
@[go_sem] theorem tsz96 : tsz Tryz.prog 96 = some 1 := Eq.trans (by kernel_rfl) rfl
@[go_sem] theorem tagg96 : tagg Tryz.prog 96 = some false := Eq.trans (by kernel_rfl) rfl
@[go_sem] theorem telt96 : telt Tryz.prog 96 = some (none, 4) := Eq.trans (by kernel_rfl) rfl
@[go_sem] theorem litF96 : litF Tryz.prog 96 = some 4 := Eq.trans (by kernel_rfl) rfl
@[go_sem] theorem appF96 : appF Tryz.prog 96 = some (4, 32) := Eq.trans (by kernel_rfl) rfl
@[go_sem] theorem aapp0_96 (H : List AM.Obj) (u : TypeId) (y : V) : aapp Tryz.prog H 96 u (.p (.list true [])) y = app0 H (some (4, 32)) (asrcB (Tryz.prog.underlying u) H y) := aapp_nil appF96
@[go_sem] theorem aapp1_96 (H : List AM.Obj) (u : TypeId) (o n : Nat) (y : V) : aapp Tryz.prog H 96 u (.sl o 0 n n) y = app1 H (some (4, 32)) (oat H o) o n (asrcB (Tryz.prog.underlying u) H y) := aapp_own appF96
@[go_sem] theorem makeF96 : makeF Tryz.prog 96 = some (4, 32, .agg [.int .i64 0, .int .i64 0, .int .i64 0, .bool false]) := Eq.trans (by kernel_rfl) rfl
@[go_sem] theorem amk96 (H : List AM.Obj) (fr : List V) (x y : Operand) : amem Tryz.prog (.makeSlice 96 x y) fr H = amakeB (some (4, 32, .agg [.int .i64 0, .int .i64 0, .int .i64 0, .bool false])) H (ev fr x) (ev fr y) := amem_makeB makeF96
@[go_sem] theorem zcells96 : zcells Tryz.prog 96 = some [.list true []] := Eq.trans (by kernel_rfl) rfl
@[go_sem] theorem tsz98 : tsz Tryz.prog 98 = some 5 := Eq.trans (by kernel_rfl) rfl
@[go_sem] theorem tagg98 : tagg Tryz.prog 98 = some true := Eq.trans (by kernel_rfl) rfl
@[go_sem] theorem tfld98_0 : tfld Tryz.prog 98 0 = some 0 := Eq.trans (by kernel_rfl) rfl
@[go_sem] theorem tfld98_1 : tfld Tryz.prog 98 1 = some 1 := Eq.trans (by kernel_rfl) rfl
@[go_sem] theorem tfld98_2 : tfld Tryz.prog 98 2 = some 2 := Eq.trans (by kernel_rfl) rfl
@[go_sem] theorem tfld98_3 : tfld Tryz.prog 98 3 = some 3 := Eq.trans (by kernel_rfl) rfl
@[go_sem] theorem tfld98_4 : tfld Tryz.prog 98 4 = some 4 := Eq.trans (by kernel_rfl) rfl
@[go_sem] theorem stood98 : Tryz.prog.stoodInHeld 98 = false := Eq.trans (by kernel_rfl) rfl
@[go_sem] theorem tpl98 : tpl Tryz.prog 98 = some (plL [(0, 1), (1, 1), (2, 1), (3, 1), (4, 1)]) := Eq.trans (by kernel_rfl) rfl
@[go_sem] theorem aeq98 (d : Nat) (a b : List PV) : aeqD Tryz.prog d 98 (Tryz.prog.underlying 98) (.agg a) (.agg b) = oand (eqP (aeqT Tryz.prog d 4) (apart Tryz.prog 4 a 0) (apart Tryz.prog 4 b 0)) (oand (eqP (aeqT Tryz.prog d 3) (apart Tryz.prog 3 a 1) (apart Tryz.prog 3 b 1)) (oand (eqP (aeqT Tryz.prog d 96) (apart Tryz.prog 96 a 2) (apart Tryz.prog 96 b 2)) (oand (eqP (aeqT Tryz.prog d 3) (apart Tryz.prog 3 a 3) (apart Tryz.prog 3 b 3)) (oand (eqP (aeqT Tryz.prog d 3) (apart Tryz.prog 3 a 4) (apart Tryz.prog 3 b 4)) (some true))))) := by rw [Tryz.underlying98, aeqD_struct stood98]; simp [aeqF_cons, aeqF_nil]
@[go_sem] theorem eqg98 : Tryz.prog.eqGuardType Tryz.prog.depth 98 = false := Eq.trans (by kernel_rfl) rfl
@[go_sem] theorem zcells98 : zcells Tryz.prog 98 = some [.bool false, .int .i64 0, .list true [], .int .i64 0, .int .i64 0] := Eq.trans (by kernel_rfl) rfl
@[go_sem] theorem tsz100 : tsz Tryz.prog 100 = some 10 := Eq.trans (by kernel_rfl) rfl
@[go_sem] theorem tagg100 : tagg Tryz.prog 100 = some true := Eq.trans (by kernel_rfl) rfl
@[go_sem] theorem tfld100_0 : tfld Tryz.prog 100 0 = some 0 := Eq.trans (by kernel_rfl) rfl
@[go_sem] theorem tfld100_1 : tfld Tryz.prog 100 1 = some 4 := Eq.trans (by kernel_rfl) rfl
@[go_sem] theorem tfld100_2 : tfld Tryz.prog 100 2 = some 9 := Eq.trans (by kernel_rfl) rfl
@[go_sem] theorem stood100 : Tryz.prog.stoodInHeld 100 = false := Eq.trans (by kernel_rfl) rfl
@[go_sem] theorem tpl100 : tpl Tryz.prog 100 = some (plL [(0, 4), (4, 5), (9, 1)]) := Eq.trans (by kernel_rfl) rfl
@[go_sem] theorem aeq100 (d : Nat) (a b : List PV) : aeqD Tryz.prog d 100 (Tryz.prog.underlying 100) (.agg a) (.agg b) = oand (eqP (aeqT Tryz.prog d 56) (apart Tryz.prog 56 a 0) (apart Tryz.prog 56 b 0)) (oand (eqP (aeqT Tryz.prog d 98) (apart Tryz.prog 98 a 4) (apart Tryz.prog 98 b 4)) (oand (eqP (aeqT Tryz.prog d 37) (apart Tryz.prog 37 a 9) (apart Tryz.prog 37 b 9)) (some true))) := by rw [Tryz.underlying100, aeqD_struct stood100]; simp [aeqF_cons, aeqF_nil]
@[go_sem] theorem eqg100 : Tryz.prog.eqGuardType Tryz.prog.depth 100 = false := Eq.trans (by kernel_rfl) rfl
@[go_sem] theorem zcells100 : zcells Tryz.prog 100 = some [.int .i64 0, .int .i64 0, .list true [], .list true [], .bool false, .int .i64 0, .list true [], .int .i64 0, .int .i64 0, .list true []] := Eq.trans (by kernel_rfl) rfl
@[go_sem] theorem und103 : Tryz.prog.underlying 103 = some (.slice 32) := Eq.trans (by kernel_rfl) rfl
@[go_sem] theorem tsz103 : tsz Tryz.prog 103 = some 1 := Eq.trans (by kernel_rfl) rfl
@[go_sem] theorem tagg103 : tagg Tryz.prog 103 = some false := Eq.trans (by kernel_rfl) rfl
@[go_sem] theorem telt103 : telt Tryz.prog 103 = some (none, 1) := Eq.trans (by kernel_rfl) rfl
@[go_sem] theorem litF103 : litF Tryz.prog 103 = some 1 := Eq.trans (by kernel_rfl) rfl
@[go_sem] theorem appF103 : appF Tryz.prog 103 = some (1, 24) := Eq.trans (by kernel_rfl) rfl
@[go_sem] theorem aapp0_103 (H : List AM.Obj) (u : TypeId) (y : V) : aapp Tryz.prog H 103 u (.p (.list true [])) y = app0 H (some (1, 24)) (asrcB (Tryz.prog.underlying u) H y) := aapp_nil appF103
@[go_sem] theorem aapp1_103 (H : List AM.Obj) (u : TypeId) (o n : Nat) (y : V) : aapp Tryz.prog H 103 u (.sl o 0 n n) y = app1 H (some (1, 24)) (oat H o) o n (asrcB (Tryz.prog.underlying u) H y) := aapp_own appF103
@[go_sem] theorem makeF103 : makeF Tryz.prog 103 = some (1, 24, .list true []) := Eq.trans (by kernel_rfl) rfl
@[go_sem] theorem amk103 (H : List AM.Obj) (fr : List V) (x y : Operand) : amem Tryz.prog (.makeSlice 103 x y) fr H = amakeB (some (1, 24, .list true [])) H (ev fr x) (ev fr y) := amem_makeB makeF103
@[go_sem] theorem zcells103 : zcells Tryz.prog 103 = some [.list true []] := Eq.trans (by kernel_rfl) rfl
@[go_sem] theorem tsz107 : tsz Tryz.prog 107 = some 4 := Eq.trans (by kernel_rfl) rfl
@[go_sem] theorem tagg107 : tagg Tryz.prog 107 = some true := Eq.trans (by kernel_rfl) rfl
@[go_sem] theorem tfld107_0 : tfld Tryz.prog 107 0 = some 0 := Eq.trans (by kernel_rfl) rfl
@[go_sem] theorem tfld107_1 : tfld Tryz.prog 107 1 = some 1 := Eq.trans (by kernel_rfl) rfl
@[go_sem] theorem tfld107_2 : tfld Tryz.prog 107 2 = some 2 := Eq.trans (by kernel_rfl) rfl
@[go_sem] theorem tfld107_3 : tfld Tryz.prog 107 3 = some 3 := Eq.trans (by kernel_rfl) rfl
@[go_sem] theorem stood107 : Tryz.prog.stoodInHeld 107 = false := Eq.trans (by kernel_rfl) rfl
@[go_sem] theorem tpl107 : tpl Tryz.prog 107 = some (plL [(0, 1), (1, 1), (2, 1), (3, 1)]) := Eq.trans (by kernel_rfl) rfl
@[go_sem] theorem aeq107 (d : Nat) (a b : List PV) : aeqD Tryz.prog d 107 (Tryz.prog.underlying 107) (.agg a) (.agg b) = oand (eqP (aeqT Tryz.prog d 3) (apart Tryz.prog 3 a 0) (apart Tryz.prog 3 b 0)) (oand (eqP (aeqT Tryz.prog d 3) (apart Tryz.prog 3 a 1) (apart Tryz.prog 3 b 1)) (oand (eqP (aeqT Tryz.prog d 3) (apart Tryz.prog 3 a 2) (apart Tryz.prog 3 b 2)) (oand (eqP (aeqT Tryz.prog d 3) (apart Tryz.prog 3 a 3) (apart Tryz.prog 3 b 3)) (some true)))) := by rw [Tryz.underlying107, aeqD_struct stood107]; simp [aeqF_cons, aeqF_nil]
@[go_sem] theorem eqg107 : Tryz.prog.eqGuardType Tryz.prog.depth 107 = false := Eq.trans (by kernel_rfl) rfl
@[go_sem] theorem zcells107 : zcells Tryz.prog 107 = some [.int .i64 0, .int .i64 0, .int .i64 0, .int .i64 0] := Eq.trans (by kernel_rfl) rfl
@[go_sem] theorem tsz109 : tsz Tryz.prog 109 = some 9 := Eq.trans (by kernel_rfl) rfl
@[go_sem] theorem tagg109 : tagg Tryz.prog 109 = some true := Eq.trans (by kernel_rfl) rfl
@[go_sem] theorem tfld109_0 : tfld Tryz.prog 109 0 = some 0 := Eq.trans (by kernel_rfl) rfl
@[go_sem] theorem tfld109_1 : tfld Tryz.prog 109 1 = some 1 := Eq.trans (by kernel_rfl) rfl
@[go_sem] theorem tfld109_2 : tfld Tryz.prog 109 2 = some 3 := Eq.trans (by kernel_rfl) rfl
@[go_sem] theorem tfld109_3 : tfld Tryz.prog 109 3 = some 4 := Eq.trans (by kernel_rfl) rfl
@[go_sem] theorem tfld109_4 : tfld Tryz.prog 109 4 = some 8 := Eq.trans (by kernel_rfl) rfl
@[go_sem] theorem stood109 : Tryz.prog.stoodInHeld 109 = false := Eq.trans (by kernel_rfl) rfl
@[go_sem] theorem tpl109 : tpl Tryz.prog 109 = some (plL [(0, 1), (1, 2), (3, 1), (4, 4), (8, 1)]) := Eq.trans (by kernel_rfl) rfl
@[go_sem] theorem aeq109 (d : Nat) (a b : List PV) : aeqD Tryz.prog d 109 (Tryz.prog.underlying 109) (.agg a) (.agg b) = oand (eqP (aeqT Tryz.prog d 3) (apart Tryz.prog 3 a 0) (apart Tryz.prog 3 b 0)) (oand (eqP (aeqT Tryz.prog d 58) (apart Tryz.prog 58 a 1) (apart Tryz.prog 58 b 1)) (oand (eqP (aeqT Tryz.prog d 3) (apart Tryz.prog 3 a 3) (apart Tryz.prog 3 b 3)) (oand (eqP (aeqT Tryz.prog d 60) (apart Tryz.prog 60 a 4) (apart Tryz.prog 60 b 4)) (oand (eqP (aeqT Tryz.prog d 32) (apart Tryz.prog 32 a 8) (apart Tryz.prog 32 b 8)) (some true))))) := by rw [Tryz.underlying109, aeqD_struct stood109]; simp [aeqF_cons, aeqF_nil]
@[go_sem] theorem eqg109 : Tryz.prog.eqGuardType Tryz.prog.depth 109 = false := Eq.trans (by kernel_rfl) rfl
@[go_sem] theorem zcells109 : zcells Tryz.prog 109 = some [.int .i64 0, .int .i64 0, .bool false, .int .i64 0, .int .i64 0, .int .i64 0, .int .i64 0, .bool false, .list true []] := Eq.trans (by kernel_rfl) rfl
@[go_sem] theorem tsz115 : tsz Tryz.prog 115 = some 14 := Eq.trans (by kernel_rfl) rfl
@[go_sem] theorem tagg115 : tagg Tryz.prog 115 = some true := Eq.trans (by kernel_rfl) rfl
@[go_sem] theorem tfld115_0 : tfld Tryz.prog 115 0 = some 0 := Eq.trans (by kernel_rfl) rfl
@[go_sem] theorem tfld115_1 : tfld Tryz.prog 115 1 = some 1 := Eq.trans (by kernel_rfl) rfl
@[go_sem] theorem tfld115_2 : tfld Tryz.prog 115 2 = some 2 := Eq.trans (by kernel_rfl) rfl
@[go_sem] theorem tfld115_3 : tfld Tryz.prog 115 3 = some 3 := Eq.trans (by kernel_rfl) rfl
@[go_sem] theorem tfld115_4 : tfld Tryz.prog 115 4 = some 4 := Eq.trans (by kernel_rfl) rfl
@[go_sem] theorem tfld115_5 : tfld Tryz.prog 115 5 = some 5 := Eq.trans (by kernel_rfl) rfl
@[go_sem] theorem tfld115_6 : tfld Tryz.prog 115 6 = some 6 := Eq.trans (by kernel_rfl) rfl
@[go_sem] theorem tfld115_7 : tfld Tryz.prog 115 7 = some 7 := Eq.trans (by kernel_rfl) rfl
@[go_sem] theorem tfld115_8 : tfld Tryz.prog 115 8 = some 8 := Eq.trans (by kernel_rfl) rfl
@[go_sem] theorem tfld115_9 : tfld Tryz.prog 115 9 = some 9 := Eq.trans (by kernel_rfl) rfl
@[go_sem] theorem tfld115_10 : tfld Tryz.prog 115 10 = some 10 := Eq.trans (by kernel_rfl) rfl
@[go_sem] theorem tfld115_11 : tfld Tryz.prog 115 11 = some 11 := Eq.trans (by kernel_rfl) rfl
@[go_sem] theorem tfld115_12 : tfld Tryz.prog 115 12 = some 12 := Eq.trans (by kernel_rfl) rfl
@[go_sem] theorem tfld115_13 : tfld Tryz.prog 115 13 = some 13 := Eq.trans (by kernel_rfl) rfl
@[go_sem] theorem stood115 : Tryz.prog.stoodInHeld 115 = false := Eq.trans (by kernel_rfl) rfl
@[go_sem] theorem tpl115 : tpl Tryz.prog 115 = some (plL [(0, 1), (1, 1), (2, 1), (3, 1), (4, 1), (5, 1), (6, 1), (7, 1), (8, 1), (9, 1), (10, 1), (11, 1), (12, 1), (13, 1)]) := Eq.trans (by kernel_rfl) rfl
@[go_sem] theorem aeq115 (d : Nat) (a b : List PV) : aeqD Tryz.prog d 115 (Tryz.prog.underlying 115) (.agg a) (.agg b) = oand (eqP (aeqT Tryz.prog d 9) (apart Tryz.prog 9 a 0) (apart Tryz.prog 9 b 0)) (oand (eqP (aeqT Tryz.prog d 3) (apart Tryz.prog 3 a 1) (apart Tryz.prog 3 b 1)) (oand (eqP (aeqT Tryz.prog d 3) (apart Tryz.prog 3 a 2) (apart Tryz.prog 3 b 2)) (oand (eqP (aeqT Tryz.prog d 3) (apart Tryz.prog 3 a 3) (apart Tryz.prog 3 b 3)) (oand (eqP (aeqT Tryz.prog d 32) (apart Tryz.prog 32 a 4) (apart Tryz.prog 32 b 4)) (oand (eqP (aeqT Tryz.prog d 3) (apart Tryz.prog 3 a 5) (apart Tryz.prog 3 b 5)) (oand (eqP (aeqT Tryz.prog d 3) (apart Tryz.prog 3 a 6) (apart Tryz.prog 3 b 6)) (oand (eqP (aeqT Tryz.prog d 3) (apart Tryz.prog 3 a 7) (apart Tryz.prog 3 b 7)) (oand (eqP (aeqT Tryz.prog d 3) (apart Tryz.prog 3 a 8) (apart Tryz.prog 3 b 8)) (oand (eqP (aeqT Tryz.prog d 3) (apart Tryz.prog 3 a 9) (apart Tryz.prog 3 b 9)) (oand (eqP (aeqT Tryz.prog d 3) (apart Tryz.prog 3 a 10) (apart Tryz.prog 3 b 10)) (oand (eqP (aeqT Tryz.prog d 3) (apart Tryz.prog 3 a 11) (apart Tryz.prog 3 b 11)) (oand (eqP (aeqT Tryz.prog d 3) (apart Tryz.prog 3 a 12) (apart Tryz.prog 3 b 12)) (oand (eqP (aeqT Tryz.prog d 3) (apart Tryz.prog 3 a 13) (apart Tryz.prog 3 b 13)) (some true)))))))))))))) := by rw [Tryz.underlying115, aeqD_struct stood115]; simp [aeqF_cons, aeqF_nil]
@[go_sem] theorem eqg115 : Tryz.prog.eqGuardType Tryz.prog.depth 115 = false := Eq.trans (by kernel_rfl) rfl
@[go_sem] theorem zcells115 : zcells Tryz.prog 115 = some [.str [], .int .i64 0, .int .i64 0, .int .i64 0, .list true [], .int .i64 0, .int .i64 0, .int .i64 0, .int .i64 0, .int .i64 0, .int .i64 0, .int .i64 0, .int .i64 0, .int .i64 0] := Eq.trans (by kernel_rfl) rfl
@[go_sem] theorem tsz131 : tsz Tryz.prog 131 = some 16 := Eq.trans (by kernel_rfl) rfl
@[go_sem] theorem tagg131 : tagg Tryz.prog 131 = some true := Eq.trans (by kernel_rfl) rfl
@[go_sem] theorem tfld131_0 : tfld Tryz.prog 131 0 = some 0 := Eq.trans (by kernel_rfl) rfl
@[go_sem] theorem tfld131_1 : tfld Tryz.prog 131 1 = some 1 := Eq.trans (by kernel_rfl) rfl
@[go_sem] theorem tfld131_2 : tfld Tryz.prog 131 2 = some 2 := Eq.trans (by kernel_rfl) rfl
@[go_sem] theorem tfld131_3 : tfld Tryz.prog 131 3 = some 6 := Eq.trans (by kernel_rfl) rfl
@[go_sem] theorem tfld131_4 : tfld Tryz.prog 131 4 = some 10 := Eq.trans (by kernel_rfl) rfl
@[go_sem] theorem tfld131_5 : tfld Tryz.prog 131 5 = some 11 := Eq.trans (by kernel_rfl) rfl
@[go_sem] theorem tfld131_6 : tfld Tryz.prog 131 6 = some 12 := Eq.trans (by kernel_rfl) rfl
@[go_sem] theorem tfld131_7 : tfld Tryz.prog 131 7 = some 13 := Eq.trans (by kernel_rfl) rfl
@[go_sem] theorem tfld131_8 : tfld Tryz.prog 131 8 = some 14 := Eq.trans (by kernel_rfl) rfl
@[go_sem] theorem tfld131_9 : tfld Tryz.prog 131 9 = some 15 := Eq.trans (by kernel_rfl) rfl
@[go_sem] theorem stood131 : Tryz.prog.stoodInHeld 131 = false := Eq.trans (by kernel_rfl) rfl
@[go_sem] theorem tpl131 : tpl Tryz.prog 131 = some (plL [(0, 1), (1, 1), (2, 4), (6, 4), (10, 1), (11, 1), (12, 1), (13, 1), (14, 1), (15, 1)]) := Eq.trans (by kernel_rfl) rfl
@[go_sem] theorem aeq131 (d : Nat) (a b : List PV) : aeqD Tryz.prog d 131 (Tryz.prog.underlying 131) (.agg a) (.agg b) = oand (eqP (aeqT Tryz.prog d 9) (apart Tryz.prog 9 a 0) (apart Tryz.prog 9 b 0)) (oand (eqP (aeqT Tryz.prog d 32) (apart Tryz.prog 32 a 1) (apart Tryz.prog 32 b 1)) (oand (eqP (aeqT Tryz.prog d 107) (apart Tryz.prog 107 a 2) (apart Tryz.prog 107 b 2)) (oand (eqP (aeqT Tryz.prog d 107) (apart Tryz.prog 107 a 6) (apart Tryz.prog 107 b 6)) (oand (eqP (aeqT Tryz.prog d 3) (apart Tryz.prog 3 a 10) (apart Tryz.prog 3 b 10)) (oand (eqP (aeqT Tryz.prog d 3) (apart Tryz.prog 3 a 11) (apart Tryz.prog 3 b 11)) (oand (eqP (aeqT Tryz.prog d 3) (apart Tryz.prog 3 a 12) (apart Tryz.prog 3 b 12)) (oand (eqP (aeqT Tryz.prog d 3) (apart Tryz.prog 3 a 13) (apart Tryz.prog 3 b 13)) (oand (eqP (aeqT Tryz.prog d 3) (apart Tryz.prog 3 a 14) (apart Tryz.prog 3 b 14)) (oand (eqP (aeqT Tryz.prog d 4) (apart Tryz.prog 4 a 15) (apart Tryz.prog 4 b 15)) (some true)))))))))) := by rw [Tryz.underlying131, aeqD_struct stood131]; simp [aeqF_cons, aeqF_nil]
@[go_sem] theorem eqg131 : Tryz.prog.eqGuardType Tryz.prog.depth 131 = false := Eq.trans (by kernel_rfl) rfl
@[go_sem] theorem zcells131 : zcells Tryz.prog 131 = some [.str [], .list true [], .int .i64 0, .int .i64 0, .int .i64 0, .int .i64 0, .int .i64 0, .int .i64 0, .int .i64 0, .int .i64 0, .int .i64 0, .int .i64 0, .int .i64 0, .int .i64 0, .int .i64 0, .bool false] := Eq.trans (by kernel_rfl) rfl
@[go_sem] theorem tsz133 : tsz Tryz.prog 133 = some 1 := Eq.trans (by kernel_rfl) rfl
@[go_sem] theorem tagg133 : tagg Tryz.prog 133 = some false := Eq.trans (by kernel_rfl) rfl
@[go_sem] theorem zcells133 : zcells Tryz.prog 133 = some [.nilf] := Eq.trans (by kernel_rfl) rfl
@[go_sem] theorem tsz144 : tsz Tryz.prog 144 = some 2 := Eq.trans (by kernel_rfl) rfl
@[go_sem] theorem tagg144 : tagg Tryz.prog 144 = some true := Eq.trans (by kernel_rfl) rfl
@[go_sem] theorem tfld144_0 : tfld Tryz.prog 144 0 = some 0 := Eq.trans (by kernel_rfl) rfl
@[go_sem] theorem tfld144_1 : tfld Tryz.prog 144 1 = some 1 := Eq.trans (by kernel_rfl) rfl
@[go_sem] theorem stood144 : Tryz.prog.stoodInHeld 144 = false := Eq.trans (by kernel_rfl) rfl
@[go_sem] theorem tpl144 : tpl Tryz.prog 144 = some (plL [(0, 1), (1, 1)]) := Eq.trans (by kernel_rfl) rfl
@[go_sem] theorem aeq144 (d : Nat) (a b : List PV) : aeqD Tryz.prog d 144 (Tryz.prog.underlying 144) (.agg a) (.agg b) = oand (eqP (aeqT Tryz.prog d 3) (apart Tryz.prog 3 a 0) (apart Tryz.prog 3 b 0)) (oand (eqP (aeqT Tryz.prog d 3) (apart Tryz.prog 3 a 1) (apart Tryz.prog 3 b 1)) (some true)) := by rw [Tryz.underlying144, aeqD_struct stood144]; simp [aeqF_cons, aeqF_nil]
@[go_sem] theorem eqg144 : Tryz.prog.eqGuardType Tryz.prog.depth 144 = false := Eq.trans (by kernel_rfl) rfl
@[go_sem] theorem zcells144 : zcells Tryz.prog 144 = some [.int .i64 0, .int .i64 0] := Eq.trans (by kernel_rfl) rfl
@[go_sem] theorem und145 : Tryz.prog.underlying 145 = some (.slice 144) := Eq.trans (by kernel_rfl) rfl
@[go_sem] theorem tsz145 : tsz Tryz.prog 145 = some 1 := Eq.trans (by kernel_rfl) rfl
@[go_sem] theorem tagg145 : tagg Tryz.prog 145 = some false := Eq.trans (by kernel_rfl) rfl
@[go_sem] theorem telt145 : telt Tryz.prog 145 = some (none, 2) := Eq.trans (by kernel_rfl) rfl
@[go_sem] theorem litF145 : litF Tryz.prog 145 = some 2 := Eq.trans (by kernel_rfl) rfl
@[go_sem] theorem appF145 : appF Tryz.prog 145 = some (2, 16) := Eq.trans (by kernel_rfl) rfl
@[go_sem] theorem aapp0_145 (H : List AM.Obj) (u : TypeId) (y : V) : aapp Tryz.prog H 145 u (.p (.list true [])) y = app0 H (some (2, 16)) (asrcB (Tryz.prog.underlying u) H y) := aapp_nil appF145
@[go_sem] theorem aapp1_145 (H : List AM.Obj) (u : TypeId) (o n : Nat) (y : V) : aapp Tryz.prog H 145 u (.sl o 0 n n) y = app1 H (some (2, 16)) (oat H o) o n (asrcB (Tryz.prog.underlying u) H y) := aapp_own appF145
@[go_sem] theorem makeF145 : makeF Tryz.prog 145 = some (2, 16, .agg [.int .i64 0, .int .i64 0]) := Eq.trans (by kernel_rfl) rfl
@[go_sem] theorem amk145 (H : List AM.Obj) (fr : List V) (x y : Operand) : amem Tryz.prog (.makeSlice 145 x y) fr H = amakeB (some (2, 16, .agg [.int .i64 0, .int .i64 0])) H (ev fr x) (ev fr y) := amem_makeB makeF145
@[go_sem] theorem zcells145 : zcells Tryz.prog 145 = some [.list true []] := Eq.trans (by kernel_rfl) rfl
@[go_sem] theorem tsz147 : tsz Tryz.prog 147 = some 6 := Eq.trans (by kernel_rfl) rfl
@[go_sem] theorem tagg147 : tagg Tryz.prog 147 = some true := Eq.trans (by kernel_rfl) rfl
@[go_sem] theorem tfld147_0 : tfld Tryz.prog 147 0 = some 0 := Eq.trans (by kernel_rfl) rfl
@[go_sem] theorem tfld147_1 : tfld Tryz.prog 147 1 = some 1 := Eq.trans (by kernel_rfl) rfl
@[go_sem] theorem tfld147_2 : tfld Tryz.prog 147 2 = some 2 := Eq.trans (by kernel_rfl) rfl
@[go_sem] theorem tfld147_3 : tfld Tryz.prog 147 3 = some 3 := Eq.trans (by kernel_rfl) rfl
@[go_sem] theorem tfld147_4 : tfld Tryz.prog 147 4 = some 4 := Eq.trans (by kernel_rfl) rfl
@[go_sem] theorem tfld147_5 : tfld Tryz.prog 147 5 = some 5 := Eq.trans (by kernel_rfl) rfl
@[go_sem] theorem stood147 : Tryz.prog.stoodInHeld 147 = false := Eq.trans (by kernel_rfl) rfl
@[go_sem] theorem tpl147 : tpl Tryz.prog 147 = some (plL [(0, 1), (1, 1), (2, 1), (3, 1), (4, 1), (5, 1)]) := Eq.trans (by kernel_rfl) rfl
@[go_sem] theorem aeq147 (d : Nat) (a b : List PV) : aeqD Tryz.prog d 147 (Tryz.prog.underlying 147) (.agg a) (.agg b) = oand (eqP (aeqT Tryz.prog d 3) (apart Tryz.prog 3 a 0) (apart Tryz.prog 3 b 0)) (oand (eqP (aeqT Tryz.prog d 3) (apart Tryz.prog 3 a 1) (apart Tryz.prog 3 b 1)) (oand (eqP (aeqT Tryz.prog d 3) (apart Tryz.prog 3 a 2) (apart Tryz.prog 3 b 2)) (oand (eqP (aeqT Tryz.prog d 3) (apart Tryz.prog 3 a 3) (apart Tryz.prog 3 b 3)) (oand (eqP (aeqT Tryz.prog d 145) (apart Tryz.prog 145 a 4) (apart Tryz.prog 145 b 4)) (oand (eqP (aeqT Tryz.prog d 145) (apart Tryz.prog 145 a 5) (apart Tryz.prog 145 b 5)) (some true)))))) := by rw [Tryz.underlying147, aeqD_struct stood147]; simp [aeqF_cons, aeqF_nil]
@[go_sem] theorem eqg147 : Tryz.prog.eqGuardType Tryz.prog.depth 147 = false := Eq.trans (by kernel_rfl) rfl
@[go_sem] theorem zcells147 : zcells Tryz.prog 147 = some [.int .i64 0, .int .i64 0, .int .i64 0, .int .i64 0, .list true [], .list true []] := Eq.trans (by kernel_rfl) rfl
@[go_sem] theorem tsz148 : tsz Tryz.prog 148 = some 1 := Eq.trans (by kernel_rfl) rfl
@[go_sem] theorem tagg148 : tagg Tryz.prog 148 = some false := Eq.trans (by kernel_rfl) rfl
@[go_sem] theorem zcells148 : zcells Tryz.prog 148 = some [.nilp] := Eq.trans (by kernel_rfl) rfl
@[go_sem] theorem und149 : Tryz.prog.underlying 149 = some (.slice 5) := Eq.trans (by kernel_rfl) rfl
@[go_sem] theorem tsz149 : tsz Tryz.prog 149 = some 1 := Eq.trans (by kernel_rfl) rfl
@[go_sem] theorem tagg149 : tagg Tryz.prog 149 = some false := Eq.trans (by kernel_rfl) rfl
@[go_sem] theorem telt149 : telt Tryz.prog 149 = some (none, 1) := Eq.trans (by kernel_rfl) rfl
@[go_sem] theorem litF149 : litF Tryz.prog 149 = some 1 := Eq.trans (by kernel_rfl) rfl
@[go_sem] theorem appF149 : appF Tryz.prog 149 = some (1, 1) := Eq.trans (by kernel_rfl) rfl
@[go_sem] theorem aapp0_149 (H : List AM.Obj) (u : TypeId) (y : V) : aapp Tryz.prog H 149 u (.p (.list true [])) y = app0 H (some (1, 1)) (asrcB (Tryz.prog.underlying u) H y) := aapp_nil appF149
@[go_sem] theorem aapp1_149 (H : List AM.Obj) (u : TypeId) (o n : Nat) (y : V) : aapp Tryz.prog H 149 u (.sl o 0 n n) y = app1 H (some (1, 1)) (oat H o) o n (asrcB (Tryz.prog.underlying u) H y) := aapp_own appF149
@[go_sem] theorem makeF149 : makeF Tryz.prog 149 = some (1, 1, .int .u8 0) := Eq.trans (by kernel_rfl) rfl
@[go_sem] theorem amk149 (H : List AM.Obj) (fr : List V) (x y : Operand) : amem Tryz.prog (.makeSlice 149 x y) fr H = amakeB (some (1, 1, .int .u8 0)) H (ev fr x) (ev fr y) := amem_makeB makeF149
@[go_sem] theorem zcells149 : zcells Tryz.prog 149 = some [.list true []] := Eq.trans (by kernel_rfl) rfl
@[go_sem] theorem tsz151 : tsz Tryz.prog 151 = some 2 := Eq.trans (by kernel_rfl) rfl
@[go_sem] theorem tagg151 : tagg Tryz.prog 151 = some true := Eq.trans (by kernel_rfl) rfl
@[go_sem] theorem tfld151_0 : tfld Tryz.prog 151 0 = some 0 := Eq.trans (by kernel_rfl) rfl
@[go_sem] theorem tfld151_1 : tfld Tryz.prog 151 1 = some 1 := Eq.trans (by kernel_rfl) rfl
@[go_sem] theorem stood151 : Tryz.prog.stoodInHeld 151 = false := Eq.trans (by kernel_rfl) rfl
@[go_sem] theorem tpl151 : tpl Tryz.prog 151 = some (plL [(0, 1), (1, 1)]) := Eq.trans (by kernel_rfl) rfl
@[go_sem] theorem aeq151 (d : Nat) (a b : List PV) : aeqD Tryz.prog d 151 (Tryz.prog.underlying 151) (.agg a) (.agg b) = oand (eqP (aeqT Tryz.prog d 148) (apart Tryz.prog 148 a 0) (apart Tryz.prog 148 b 0)) (oand (eqP (aeqT Tryz.prog d 149) (apart Tryz.prog 149 a 1) (apart Tryz.prog 149 b 1)) (some true)) := by rw [Tryz.underlying151, aeqD_struct stood151]; simp [aeqF_cons, aeqF_nil]
@[go_sem] theorem eqg151 : Tryz.prog.eqGuardType Tryz.prog.depth 151 = false := Eq.trans (by kernel_rfl) rfl
@[go_sem] theorem zcells151 : zcells Tryz.prog 151 = some [.nilp, .list true []] := Eq.trans (by kernel_rfl) rfl
@[go_sem] theorem tsz153 : tsz Tryz.prog 153 = some 1 := Eq.trans (by kernel_rfl) rfl
@[go_sem] theorem tagg153 : tagg Tryz.prog 153 = some false := Eq.trans (by kernel_rfl) rfl
@[go_sem] theorem zcells153 : zcells Tryz.prog 153 = some [.nili] := Eq.trans (by kernel_rfl) rfl
@[go_sem] theorem und166 : Tryz.prog.underlying 166 = some (.int .u64) := Eq.trans (by kernel_rfl) rfl
@[go_sem] theorem tsz166 : tsz Tryz.prog 166 = some 1 := Eq.trans (by kernel_rfl) rfl
@[go_sem] theorem tagg166 : tagg Tryz.prog 166 = some false := Eq.trans (by kernel_rfl) rfl
@[go_sem] theorem zcells166 : zcells Tryz.prog 166 = some [.int .u64 0] := Eq.trans (by kernel_rfl) rfl
@[go_sem] theorem tsz180 : tsz Tryz.prog 180 = some 2 := Eq.trans (by kernel_rfl) rfl
@[go_sem] theorem tagg180 : tagg Tryz.prog 180 = some true := Eq.trans (by kernel_rfl) rfl
@[go_sem] theorem tfld180_0 : tfld Tryz.prog 180 0 = some 0 := Eq.trans (by kernel_rfl) rfl
@[go_sem] theorem tfld180_1 : tfld Tryz.prog 180 1 = some 1 := Eq.trans (by kernel_rfl) rfl
@[go_sem] theorem stood180 : Tryz.prog.stoodInHeld 180 = false := Eq.trans (by kernel_rfl) rfl
@[go_sem] theorem tpl180 : tpl Tryz.prog 180 = some (plL [(0, 1), (1, 1)]) := Eq.trans (by kernel_rfl) rfl
@[go_sem] theorem aeq180 (d : Nat) (a b : List PV) : aeqD Tryz.prog d 180 (Tryz.prog.underlying 180) (.agg a) (.agg b) = oand (eqP (aeqT Tryz.prog d 38) (apart Tryz.prog 38 a 0) (apart Tryz.prog 38 b 0)) (oand (eqP (aeqT Tryz.prog d 9) (apart Tryz.prog 9 a 1) (apart Tryz.prog 9 b 1)) (some true)) := by rw [Tryz.underlying180, aeqD_struct stood180]; simp [aeqF_cons, aeqF_nil]
@[go_sem] theorem eqg180 : Tryz.prog.eqGuardType Tryz.prog.depth 180 = false := Eq.trans (by kernel_rfl) rfl
@[go_sem] theorem zcells180 : zcells Tryz.prog 180 = some [.int .i64 0, .str []] := Eq.trans (by kernel_rfl) rfl
@[go_sem] theorem und183 : Tryz.prog.underlying 183 = some (.slice 38) := Eq.trans (by kernel_rfl) rfl
@[go_sem] theorem tsz183 : tsz Tryz.prog 183 = some 1 := Eq.trans (by kernel_rfl) rfl
@[go_sem] theorem tagg183 : tagg Tryz.prog 183 = some false := Eq.trans (by kernel_rfl) rfl
@[go_sem] theorem telt183 : telt Tryz.prog 183 = some (none, 1) := Eq.trans (by kernel_rfl) rfl
@[go_sem] theorem litF183 : litF Tryz.prog 183 = some 1 := Eq.trans (by kernel_rfl) rfl
@[go_sem] theorem appF183 : appF Tryz.prog 183 = some (1, 8) := Eq.trans (by kernel_rfl) rfl
@[go_sem] theorem aapp0_183 (H : List AM.Obj) (u : TypeId) (y : V) : aapp Tryz.prog H 183 u (.p (.list true [])) y = app0 H (some (1, 8)) (asrcB (Tryz.prog.underlying u) H y) := aapp_nil appF183
@[go_sem] theorem aapp1_183 (H : List AM.Obj) (u : TypeId) (o n : Nat) (y : V) : aapp Tryz.prog H 183 u (.sl o 0 n n) y = app1 H (some (1, 8)) (oat H o) o n (asrcB (Tryz.prog.underlying u) H y) := aapp_own appF183
@[go_sem] theorem makeF183 : makeF Tryz.prog 183 = some (1, 8, .int .i64 0) := Eq.trans (by kernel_rfl) rfl
@[go_sem] theorem amk183 (H : List AM.Obj) (fr : List V) (x y : Operand) : amem Tryz.prog (.makeSlice 183 x y) fr H = amakeB (some (1, 8, .int .i64 0)) H (ev fr x) (ev fr y) := amem_makeB makeF183
@[go_sem] theorem zcells183 : zcells Tryz.prog 183 = some [.list true []] := Eq.trans (by kernel_rfl) rfl
@[go_sem] theorem und188 : Tryz.prog.underlying 188 = some (.slice 133) := Eq.trans (by kernel_rfl) rfl
@[go_sem] theorem tsz188 : tsz Tryz.prog 188 = some 1 := Eq.trans (by kernel_rfl) rfl
@[go_sem] theorem tagg188 : tagg Tryz.prog 188 = some false := Eq.trans (by kernel_rfl) rfl
@[go_sem] theorem telt188 : telt Tryz.prog 188 = some (none, 1) := Eq.trans (by kernel_rfl) rfl
@[go_sem] theorem litF188 : litF Tryz.prog 188 = some 1 := Eq.trans (by kernel_rfl) rfl
@[go_sem] theorem appF188 : appF Tryz.prog 188 = some (1, 8) := Eq.trans (by kernel_rfl) rfl
@[go_sem] theorem aapp0_188 (H : List AM.Obj) (u : TypeId) (y : V) : aapp Tryz.prog H 188 u (.p (.list true [])) y = app0 H (some (1, 8)) (asrcB (Tryz.prog.underlying u) H y) := aapp_nil appF188
@[go_sem] theorem aapp1_188 (H : List AM.Obj) (u : TypeId) (o n : Nat) (y : V) : aapp Tryz.prog H 188 u (.sl o 0 n n) y = app1 H (some (1, 8)) (oat H o) o n (asrcB (Tryz.prog.underlying u) H y) := aapp_own appF188
@[go_sem] theorem makeF188 : makeF Tryz.prog 188 = some (1, 8, .nilf) := Eq.trans (by kernel_rfl) rfl
@[go_sem] theorem amk188 (H : List AM.Obj) (fr : List V) (x y : Operand) : amem Tryz.prog (.makeSlice 188 x y) fr H = amakeB (some (1, 8, .nilf)) H (ev fr x) (ev fr y) := amem_makeB makeF188
@[go_sem] theorem zcells188 : zcells Tryz.prog 188 = some [.list true []] := Eq.trans (by kernel_rfl) rfl
@[go_sem] theorem und189 : Tryz.prog.underlying 189 = some (.array 4 3) := Eq.trans (by kernel_rfl) rfl
@[go_sem] theorem tsz189 : tsz Tryz.prog 189 = some 4 := Eq.trans (by kernel_rfl) rfl
@[go_sem] theorem tagg189 : tagg Tryz.prog 189 = some true := Eq.trans (by kernel_rfl) rfl
@[go_sem] theorem telt189 : telt Tryz.prog 189 = some ((some 4), 1) := Eq.trans (by kernel_rfl) rfl
@[go_sem] theorem tpl189 : tpl Tryz.prog 189 = some (plA 1) := Eq.trans (by kernel_rfl) rfl
@[go_sem] theorem aeq189 (d : Nat) (a b : List PV) : aeqD Tryz.prog d 189 (some (.array 4 3)) (.agg a) (.agg b) = aeqA (aeqT Tryz.prog d 3) Tryz.prog 3 1 4 0 a b := aeqD_array tsz3
@[go_sem] theorem eqg189 : Tryz.prog.eqGuardType Tryz.prog.depth 189 = false := Eq.trans (by kernel_rfl) rfl
@[go_sem] theorem zcells189 : zcells Tryz.prog 189 = some [.int .i64 0, .int .i64 0, .int .i64 0, .int .i64 0] := Eq.trans (by kernel_rfl) rfl
@[go_sem] theorem tsz193 : tsz Tryz.prog 193 = some 1 := Eq.trans (by kernel_rfl) rfl
@[go_sem] theorem tagg193 : tagg Tryz.prog 193 = some false := Eq.trans (by kernel_rfl) rfl
@[go_sem] theorem zcells193 : zcells Tryz.prog 193 = some [.nilp] := Eq.trans (by kernel_rfl) rfl
@[go_sem] theorem und208 : Tryz.prog.underlying 208 = some (.int .i64) := Eq.trans (by kernel_rfl) rfl
@[go_sem] theorem tsz208 : tsz Tryz.prog 208 = some 1 := Eq.trans (by kernel_rfl) rfl
@[go_sem] theorem tagg208 : tagg Tryz.prog 208 = some false := Eq.trans (by kernel_rfl) rfl
@[go_sem] theorem zcells208 : zcells Tryz.prog 208 = some [.int .i64 0] := Eq.trans (by kernel_rfl) rfl
@[go_sem] theorem und216 : Tryz.prog.underlying 216 = some (.int .u32) := Eq.trans (by kernel_rfl) rfl
@[go_sem] theorem tsz216 : tsz Tryz.prog 216 = some 1 := Eq.trans (by kernel_rfl) rfl
@[go_sem] theorem tagg216 : tagg Tryz.prog 216 = some false := Eq.trans (by kernel_rfl) rfl
@[go_sem] theorem zcells216 : zcells Tryz.prog 216 = some [.int .u32 0] := Eq.trans (by kernel_rfl) rfl
@[go_sem] theorem und218 : Tryz.prog.underlying 218 = some (.int .u64) := Eq.trans (by kernel_rfl) rfl
@[go_sem] theorem tsz218 : tsz Tryz.prog 218 = some 1 := Eq.trans (by kernel_rfl) rfl
@[go_sem] theorem tagg218 : tagg Tryz.prog 218 = some false := Eq.trans (by kernel_rfl) rfl
@[go_sem] theorem zcells218 : zcells Tryz.prog 218 = some [.int .u64 0] := Eq.trans (by kernel_rfl) rfl
@[go_sem] theorem und233 : Tryz.prog.underlying 233 = some (.array 2 3) := Eq.trans (by kernel_rfl) rfl
@[go_sem] theorem tsz233 : tsz Tryz.prog 233 = some 2 := Eq.trans (by kernel_rfl) rfl
@[go_sem] theorem tagg233 : tagg Tryz.prog 233 = some true := Eq.trans (by kernel_rfl) rfl
@[go_sem] theorem telt233 : telt Tryz.prog 233 = some ((some 2), 1) := Eq.trans (by kernel_rfl) rfl
@[go_sem] theorem tpl233 : tpl Tryz.prog 233 = some (plA 1) := Eq.trans (by kernel_rfl) rfl
@[go_sem] theorem aeq233 (d : Nat) (a b : List PV) : aeqD Tryz.prog d 233 (some (.array 2 3)) (.agg a) (.agg b) = aeqA (aeqT Tryz.prog d 3) Tryz.prog 3 1 2 0 a b := aeqD_array tsz3
@[go_sem] theorem eqg233 : Tryz.prog.eqGuardType Tryz.prog.depth 233 = false := Eq.trans (by kernel_rfl) rfl
@[go_sem] theorem zcells233 : zcells Tryz.prog 233 = some [.int .i64 0, .int .i64 0] := Eq.trans (by kernel_rfl) rfl
@[go_sem] theorem und240 : Tryz.prog.underlying 240 = some (.slice 107) := Eq.trans (by kernel_rfl) rfl
@[go_sem] theorem tsz240 : tsz Tryz.prog 240 = some 1 := Eq.trans (by kernel_rfl) rfl
@[go_sem] theorem tagg240 : tagg Tryz.prog 240 = some false := Eq.trans (by kernel_rfl) rfl
@[go_sem] theorem telt240 : telt Tryz.prog 240 = some (none, 4) := Eq.trans (by kernel_rfl) rfl
@[go_sem] theorem litF240 : litF Tryz.prog 240 = some 4 := Eq.trans (by kernel_rfl) rfl
@[go_sem] theorem appF240 : appF Tryz.prog 240 = some (4, 32) := Eq.trans (by kernel_rfl) rfl
@[go_sem] theorem aapp0_240 (H : List AM.Obj) (u : TypeId) (y : V) : aapp Tryz.prog H 240 u (.p (.list true [])) y = app0 H (some (4, 32)) (asrcB (Tryz.prog.underlying u) H y) := aapp_nil appF240
@[go_sem] theorem aapp1_240 (H : List AM.Obj) (u : TypeId) (o n : Nat) (y : V) : aapp Tryz.prog H 240 u (.sl o 0 n n) y = app1 H (some (4, 32)) (oat H o) o n (asrcB (Tryz.prog.underlying u) H y) := aapp_own appF240
@[go_sem] theorem makeF240 : makeF Tryz.prog 240 = some (4, 32, .agg [.int .i64 0, .int .i64 0, .int .i64 0, .int .i64 0]) := Eq.trans (by kernel_rfl) rfl
@[go_sem] theorem amk240 (H : List AM.Obj) (fr : List V) (x y : Operand) : amem Tryz.prog (.makeSlice 240 x y) fr H = amakeB (some (4, 32, .agg [.int .i64 0, .int .i64 0, .int .i64 0, .int .i64 0])) H (ev fr x) (ev fr y) := amem_makeB makeF240
@[go_sem] theorem zcells240 : zcells Tryz.prog 240 = some [.list true []] := Eq.trans (by kernel_rfl) rfl
@[go_sem] theorem tsz242 : tsz Tryz.prog 242 = some 25 := Eq.trans (by kernel_rfl) rfl
@[go_sem] theorem tagg242 : tagg Tryz.prog 242 = some true := Eq.trans (by kernel_rfl) rfl
@[go_sem] theorem tfld242_0 : tfld Tryz.prog 242 0 = some 0 := Eq.trans (by kernel_rfl) rfl
@[go_sem] theorem tfld242_1 : tfld Tryz.prog 242 1 = some 6 := Eq.trans (by kernel_rfl) rfl
@[go_sem] theorem tfld242_2 : tfld Tryz.prog 242 2 = some 20 := Eq.trans (by kernel_rfl) rfl
@[go_sem] theorem tfld242_3 : tfld Tryz.prog 242 3 = some 24 := Eq.trans (by kernel_rfl) rfl
@[go_sem] theorem stood242 : Tryz.prog.stoodInHeld 242 = false := Eq.trans (by kernel_rfl) rfl
@[go_sem] theorem tpl242 : tpl Tryz.prog 242 = some (plL [(0, 6), (6, 14), (20, 4), (24, 1)]) := Eq.trans (by kernel_rfl) rfl
@[go_sem] theorem aeq242 (d : Nat) (a b : List PV) : aeqD Tryz.prog d 242 (Tryz.prog.underlying 242) (.agg a) (.agg b) = oand (eqP (aeqT Tryz.prog d 30) (apart Tryz.prog 30 a 0) (apart Tryz.prog 30 b 0)) (oand (eqP (aeqT Tryz.prog d 115) (apart Tryz.prog 115 a 6) (apart Tryz.prog 115 b 6)) (oand (eqP (aeqT Tryz.prog d 56) (apart Tryz.prog 56 a 20) (apart Tryz.prog 56 b 20)) (oand (eqP (aeqT Tryz.prog d 240) (apart Tryz.prog 240 a 24) (apart Tryz.prog 240 b 24)) (some true)))) := by rw [Tryz.underlying242, aeqD_struct stood242]; simp [aeqF_cons, aeqF_nil]
@[go_sem] theorem eqg242 : Tryz.prog.eqGuardType Tryz.prog.depth 242 = false := Eq.trans (by kernel_rfl) rfl
@[go_sem] theorem zcells242 : zcells Tryz.prog 242 = some [.list true [], .list true [], .list true [], .list true [], .list true [], .list true [], .str [], .int .i64 0, .int .i64 0, .int .i64 0, .list true [], .int .i64 0, .int .i64 0, .int .i64 0, .int .i64 0, .int .i64 0, .int .i64 0, .int .i64 0, .int .i64 0, .int .i64 0, .int .i64 0, .int .i64 0, .list true [], .list true [], .list true []] := Eq.trans (by kernel_rfl) rfl
@[go_sem] theorem tsz246 : tsz Tryz.prog 246 = some 7 := Eq.trans (by kernel_rfl) rfl
@[go_sem] theorem tagg246 : tagg Tryz.prog 246 = some true := Eq.trans (by kernel_rfl) rfl
@[go_sem] theorem tfld246_0 : tfld Tryz.prog 246 0 = some 0 := Eq.trans (by kernel_rfl) rfl
@[go_sem] theorem tfld246_1 : tfld Tryz.prog 246 1 = some 1 := Eq.trans (by kernel_rfl) rfl
@[go_sem] theorem tfld246_2 : tfld Tryz.prog 246 2 = some 2 := Eq.trans (by kernel_rfl) rfl
@[go_sem] theorem stood246 : Tryz.prog.stoodInHeld 246 = false := Eq.trans (by kernel_rfl) rfl
@[go_sem] theorem tpl246 : tpl Tryz.prog 246 = some (plL [(0, 1), (1, 1), (2, 5)]) := Eq.trans (by kernel_rfl) rfl
@[go_sem] theorem aeq246 (d : Nat) (a b : List PV) : aeqD Tryz.prog d 246 (Tryz.prog.underlying 246) (.agg a) (.agg b) = oand (eqP (aeqT Tryz.prog d 3) (apart Tryz.prog 3 a 0) (apart Tryz.prog 3 b 0)) (oand (eqP (aeqT Tryz.prog d 3) (apart Tryz.prog 3 a 1) (apart Tryz.prog 3 b 1)) (oand (eqP (aeqT Tryz.prog d 98) (apart Tryz.prog 98 a 2) (apart Tryz.prog 98 b 2)) (some true))) := by rw [Tryz.underlying246, aeqD_struct stood246]; simp [aeqF_cons, aeqF_nil]
@[go_sem] theorem eqg246 : Tryz.prog.eqGuardType Tryz.prog.depth 246 = false := Eq.trans (by kernel_rfl) rfl
@[go_sem] theorem zcells246 : zcells Tryz.prog 246 = some [.int .i64 0, .int .i64 0, .bool false, .int .i64 0, .list true [], .int .i64 0, .int .i64 0] := Eq.trans (by kernel_rfl) rfl
@[go_sem] theorem und248 : Tryz.prog.underlying 248 = some (.slice 246) := Eq.trans (by kernel_rfl) rfl
@[go_sem] theorem tsz248 : tsz Tryz.prog 248 = some 1 := Eq.trans (by kernel_rfl) rfl
@[go_sem] theorem tagg248 : tagg Tryz.prog 248 = some false := Eq.trans (by kernel_rfl) rfl
@[go_sem] theorem telt248 : telt Tryz.prog 248 = some (none, 7) := Eq.trans (by kernel_rfl) rfl
@[go_sem] theorem litF248 : litF Tryz.prog 248 = some 7 := Eq.trans (by kernel_rfl) rfl
@[go_sem] theorem appF248 : appF Tryz.prog 248 = some (7, 72) := Eq.trans (by kernel_rfl) rfl
@[go_sem] theorem aapp0_248 (H : List AM.Obj) (u : TypeId) (y : V) : aapp Tryz.prog H 248 u (.p (.list true [])) y = app0 H (some (7, 72)) (asrcB (Tryz.prog.underlying u) H y) := aapp_nil appF248
@[go_sem] theorem aapp1_248 (H : List AM.Obj) (u : TypeId) (o n : Nat) (y : V) : aapp Tryz.prog H 248 u (.sl o 0 n n) y = app1 H (some (7, 72)) (oat H o) o n (asrcB (Tryz.prog.underlying u) H y) := aapp_own appF248
@[go_sem] theorem makeF248 : makeF Tryz.prog 248 = some (7, 72, .agg [.int .i64 0, .int .i64 0, .bool false, .int .i64 0, .list true [], .int .i64 0, .int .i64 0]) := Eq.trans (by kernel_rfl) rfl
@[go_sem] theorem amk248 (H : List AM.Obj) (fr : List V) (x y : Operand) : amem Tryz.prog (.makeSlice 248 x y) fr H = amakeB (some (7, 72, .agg [.int .i64 0, .int .i64 0, .bool false, .int .i64 0, .list true [], .int .i64 0, .int .i64 0])) H (ev fr x) (ev fr y) := amem_makeB makeF248
@[go_sem] theorem zcells248 : zcells Tryz.prog 248 = some [.list true []] := Eq.trans (by kernel_rfl) rfl
@[go_sem] theorem tsz251 : tsz Tryz.prog 251 = some 1 := Eq.trans (by kernel_rfl) rfl
@[go_sem] theorem tagg251 : tagg Tryz.prog 251 = some false := Eq.trans (by kernel_rfl) rfl
@[go_sem] theorem zcells251 : zcells Tryz.prog 251 = some [.nilm] := Eq.trans (by kernel_rfl) rfl
@[go_sem] theorem tsz253 : tsz Tryz.prog 253 = some 1 := Eq.trans (by kernel_rfl) rfl
@[go_sem] theorem tagg253 : tagg Tryz.prog 253 = some false := Eq.trans (by kernel_rfl) rfl
@[go_sem] theorem zcells253 : zcells Tryz.prog 253 = some [.nilp] := Eq.trans (by kernel_rfl) rfl
@[go_sem] theorem und263 : Tryz.prog.underlying 263 = some (.int .u64) := Eq.trans (by kernel_rfl) rfl
@[go_sem] theorem tsz263 : tsz Tryz.prog 263 = some 1 := Eq.trans (by kernel_rfl) rfl
@[go_sem] theorem tagg263 : tagg Tryz.prog 263 = some false := Eq.trans (by kernel_rfl) rfl
@[go_sem] theorem zcells263 : zcells Tryz.prog 263 = some [.int .u64 0] := Eq.trans (by kernel_rfl) rfl
@[go_sem] theorem tsz285 : tsz Tryz.prog 285 = some 4 := Eq.trans (by kernel_rfl) rfl
@[go_sem] theorem tagg285 : tagg Tryz.prog 285 = some true := Eq.trans (by kernel_rfl) rfl
@[go_sem] theorem tfld285_0 : tfld Tryz.prog 285 0 = some 0 := Eq.trans (by kernel_rfl) rfl
@[go_sem] theorem tfld285_1 : tfld Tryz.prog 285 1 = some 1 := Eq.trans (by kernel_rfl) rfl
@[go_sem] theorem tfld285_2 : tfld Tryz.prog 285 2 = some 2 := Eq.trans (by kernel_rfl) rfl
@[go_sem] theorem tfld285_3 : tfld Tryz.prog 285 3 = some 3 := Eq.trans (by kernel_rfl) rfl
@[go_sem] theorem stood285 : Tryz.prog.stoodInHeld 285 = false := Eq.trans (by kernel_rfl) rfl
@[go_sem] theorem tpl285 : tpl Tryz.prog 285 = some (plL [(0, 1), (1, 1), (2, 1), (3, 1)]) := Eq.trans (by kernel_rfl) rfl
@[go_sem] theorem aeq285 (d : Nat) (a b : List PV) : aeqD Tryz.prog d 285 (Tryz.prog.underlying 285) (.agg a) (.agg b) = oand (eqP (aeqT Tryz.prog d 3) (apart Tryz.prog 3 a 0) (apart Tryz.prog 3 b 0)) (oand (eqP (aeqT Tryz.prog d 3) (apart Tryz.prog 3 a 1) (apart Tryz.prog 3 b 1)) (oand (eqP (aeqT Tryz.prog d 3) (apart Tryz.prog 3 a 2) (apart Tryz.prog 3 b 2)) (oand (eqP (aeqT Tryz.prog d 3) (apart Tryz.prog 3 a 3) (apart Tryz.prog 3 b 3)) (some true)))) := by rw [Tryz.underlying285, aeqD_struct stood285]; simp [aeqF_cons, aeqF_nil]
@[go_sem] theorem eqg285 : Tryz.prog.eqGuardType Tryz.prog.depth 285 = false := Eq.trans (by kernel_rfl) rfl
@[go_sem] theorem zcells285 : zcells Tryz.prog 285 = some [.int .i64 0, .int .i64 0, .int .i64 0, .int .i64 0] := Eq.trans (by kernel_rfl) rfl
@[go_sem] theorem und312 : Tryz.prog.underlying 312 = some (.array 24 5) := Eq.trans (by kernel_rfl) rfl
@[go_sem] theorem tsz312 : tsz Tryz.prog 312 = some 24 := Eq.trans (by kernel_rfl) rfl
@[go_sem] theorem tagg312 : tagg Tryz.prog 312 = some true := Eq.trans (by kernel_rfl) rfl
@[go_sem] theorem telt312 : telt Tryz.prog 312 = some ((some 24), 1) := Eq.trans (by kernel_rfl) rfl
@[go_sem] theorem tpl312 : tpl Tryz.prog 312 = some (plA 1) := Eq.trans (by kernel_rfl) rfl
@[go_sem] theorem aeq312 (d : Nat) (a b : List PV) : aeqD Tryz.prog d 312 (some (.array 24 5)) (.agg a) (.agg b) = aeqA (aeqT Tryz.prog d 5) Tryz.prog 5 1 24 0 a b := aeqD_array tsz5
@[go_sem] theorem eqg312 : Tryz.prog.eqGuardType Tryz.prog.depth 312 = false := Eq.trans (by kernel_rfl) rfl
@[go_sem] theorem zcells312 : zcells Tryz.prog 312 = some [.int .u8 0, .int .u8 0, .int .u8 0, .int .u8 0, .int .u8 0, .int .u8 0, .int .u8 0, .int .u8 0, .int .u8 0, .int .u8 0, .int .u8 0, .int .u8 0, .int .u8 0, .int .u8 0, .int .u8 0, .int .u8 0, .int .u8 0, .int .u8 0, .int .u8 0, .int .u8 0, .int .u8 0, .int .u8 0, .int .u8 0, .int .u8 0] := Eq.trans (by kernel_rfl) rfl
@[go_sem] theorem tsz325 : tsz Tryz.prog 325 = some 3 := Eq.trans (by kernel_rfl) rfl
@[go_sem] theorem tagg325 : tagg Tryz.prog 325 = some true := Eq.trans (by kernel_rfl) rfl
@[go_sem] theorem tfld325_0 : tfld Tryz.prog 325 0 = some 0 := Eq.trans (by kernel_rfl) rfl
@[go_sem] theorem tfld325_1 : tfld Tryz.prog 325 1 = some 1 := Eq.trans (by kernel_rfl) rfl
@[go_sem] theorem tfld325_2 : tfld Tryz.prog 325 2 = some 2 := Eq.trans (by kernel_rfl) rfl
@[go_sem] theorem stood325 : Tryz.prog.stoodInHeld 325 = false := Eq.trans (by kernel_rfl) rfl
@[go_sem] theorem tpl325 : tpl Tryz.prog 325 = some (plL [(0, 1), (1, 1), (2, 1)]) := Eq.trans (by kernel_rfl) rfl
@[go_sem] theorem eqg325 : Tryz.prog.eqGuardType Tryz.prog.depth 325 = true := Eq.trans (by kernel_rfl) rfl
@[go_sem] theorem zcells325 : zcells Tryz.prog 325 = some [.str [], .str [], .nili] := Eq.trans (by kernel_rfl) rfl
@[go_sem] theorem und328 : Tryz.prog.underlying 328 = some (.array 20 218) := Eq.trans (by kernel_rfl) rfl
@[go_sem] theorem tsz328 : tsz Tryz.prog 328 = some 20 := Eq.trans (by kernel_rfl) rfl
@[go_sem] theorem tagg328 : tagg Tryz.prog 328 = some true := Eq.trans (by kernel_rfl) rfl
@[go_sem] theorem telt328 : telt Tryz.prog 328 = some ((some 20), 1) := Eq.trans (by kernel_rfl) rfl
@[go_sem] theorem tpl328 : tpl Tryz.prog 328 = some (plA 1) := Eq.trans (by kernel_rfl) rfl
@[go_sem] theorem aeq328 (d : Nat) (a b : List PV) : aeqD Tryz.prog d 328 (some (.array 20 218)) (.agg a) (.agg b) = aeqA (aeqT Tryz.prog d 218) Tryz.prog 218 1 20 0 a b := aeqD_array tsz218
@[go_sem] theorem eqg328 : Tryz.prog.eqGuardType Tryz.prog.depth 328 = false := Eq.trans (by kernel_rfl) rfl
@[go_sem] theorem zcells328 : zcells Tryz.prog 328 = some [.int .u64 0, .int .u64 0, .int .u64 0, .int .u64 0, .int .u64 0, .int .u64 0, .int .u64 0, .int .u64 0, .int .u64 0, .int .u64 0, .int .u64 0, .int .u64 0, .int .u64 0, .int .u64 0, .int .u64 0, .int .u64 0, .int .u64 0, .int .u64 0, .int .u64 0, .int .u64 0] := Eq.trans (by kernel_rfl) rfl
@[go_sem] theorem und329 : Tryz.prog.underlying 329 = some (.array 65 5) := Eq.trans (by kernel_rfl) rfl
@[go_sem] theorem tsz329 : tsz Tryz.prog 329 = some 65 := Eq.trans (by kernel_rfl) rfl
@[go_sem] theorem tagg329 : tagg Tryz.prog 329 = some true := Eq.trans (by kernel_rfl) rfl
@[go_sem] theorem telt329 : telt Tryz.prog 329 = some ((some 65), 1) := Eq.trans (by kernel_rfl) rfl
@[go_sem] theorem tpl329 : tpl Tryz.prog 329 = some (plA 1) := Eq.trans (by kernel_rfl) rfl
@[go_sem] theorem aeq329 (d : Nat) (a b : List PV) : aeqD Tryz.prog d 329 (some (.array 65 5)) (.agg a) (.agg b) = aeqA (aeqT Tryz.prog d 5) Tryz.prog 5 1 65 0 a b := aeqD_array tsz5
@[go_sem] theorem eqg329 : Tryz.prog.eqGuardType Tryz.prog.depth 329 = false := Eq.trans (by kernel_rfl) rfl
@[go_sem] theorem tsz331 : tsz Tryz.prog 331 = some 3 := Eq.trans (by kernel_rfl) rfl
@[go_sem] theorem tagg331 : tagg Tryz.prog 331 = some true := Eq.trans (by kernel_rfl) rfl
@[go_sem] theorem tfld331_0 : tfld Tryz.prog 331 0 = some 0 := Eq.trans (by kernel_rfl) rfl
@[go_sem] theorem tfld331_1 : tfld Tryz.prog 331 1 = some 1 := Eq.trans (by kernel_rfl) rfl
@[go_sem] theorem tfld331_2 : tfld Tryz.prog 331 2 = some 2 := Eq.trans (by kernel_rfl) rfl
@[go_sem] theorem stood331 : Tryz.prog.stoodInHeld 331 = false := Eq.trans (by kernel_rfl) rfl
@[go_sem] theorem tpl331 : tpl Tryz.prog 331 = some (plL [(0, 1), (1, 1), (2, 1)]) := Eq.trans (by kernel_rfl) rfl
@[go_sem] theorem aeq331 (d : Nat) (a b : List PV) : aeqD Tryz.prog d 331 (Tryz.prog.underlying 331) (.agg a) (.agg b) = oand (eqP (aeqT Tryz.prog d 3) (apart Tryz.prog 3 a 0) (apart Tryz.prog 3 b 0)) (oand (eqP (aeqT Tryz.prog d 3) (apart Tryz.prog 3 a 1) (apart Tryz.prog 3 b 1)) (oand (eqP (aeqT Tryz.prog d 3) (apart Tryz.prog 3 a 2) (apart Tryz.prog 3 b 2)) (some true))) := by rw [Tryz.underlying331, aeqD_struct stood331]; simp [aeqF_cons, aeqF_nil]
@[go_sem] theorem eqg331 : Tryz.prog.eqGuardType Tryz.prog.depth 331 = false := Eq.trans (by kernel_rfl) rfl
@[go_sem] theorem zcells331 : zcells Tryz.prog 331 = some [.int .i64 0, .int .i64 0, .int .i64 0] := Eq.trans (by kernel_rfl) rfl
@[go_sem] theorem tsz337 : tsz Tryz.prog 337 = some 1 := Eq.trans (by kernel_rfl) rfl
@[go_sem] theorem tagg337 : tagg Tryz.prog 337 = some true := Eq.trans (by kernel_rfl) rfl
@[go_sem] theorem tfld337_0 : tfld Tryz.prog 337 0 = some 0 := Eq.trans (by kernel_rfl) rfl
@[go_sem] theorem stood337 : Tryz.prog.stoodInHeld 337 = false := Eq.trans (by kernel_rfl) rfl
@[go_sem] theorem tpl337 : tpl Tryz.prog 337 = some (plL [(0, 1)]) := Eq.trans (by kernel_rfl) rfl
@[go_sem] theorem aeq337 (d : Nat) (a b : List PV) : aeqD Tryz.prog d 337 (Tryz.prog.underlying 337) (.agg a) (.agg b) = oand (eqP (aeqT Tryz.prog d 9) (apart Tryz.prog 9 a 0) (apart Tryz.prog 9 b 0)) (some true) := by rw [Tryz.underlying337, aeqD_struct stood337]; simp [aeqF_cons, aeqF_nil]
@[go_sem] theorem eqg337 : Tryz.prog.eqGuardType Tryz.prog.depth 337 = false := Eq.trans (by kernel_rfl) rfl
@[go_sem] theorem zcells337 : zcells Tryz.prog 337 = some [.str []] := Eq.trans (by kernel_rfl) rfl
@[go_sem] theorem und339 : Tryz.prog.underlying 339 = some (.array 32 5) := Eq.trans (by kernel_rfl) rfl
@[go_sem] theorem tsz339 : tsz Tryz.prog 339 = some 32 := Eq.trans (by kernel_rfl) rfl
@[go_sem] theorem tagg339 : tagg Tryz.prog 339 = some true := Eq.trans (by kernel_rfl) rfl
@[go_sem] theorem telt339 : telt Tryz.prog 339 = some ((some 32), 1) := Eq.trans (by kernel_rfl) rfl
@[go_sem] theorem tpl339 : tpl Tryz.prog 339 = some (plA 1) := Eq.trans (by kernel_rfl) rfl
@[go_sem] theorem aeq339 (d : Nat) (a b : List PV) : aeqD Tryz.prog d 339 (some (.array 32 5)) (.agg a) (.agg b) = aeqA (aeqT Tryz.prog d 5) Tryz.prog 5 1 32 0 a b := aeqD_array tsz5
@[go_sem] theorem eqg339 : Tryz.prog.eqGuardType Tryz.prog.depth 339 = false := Eq.trans (by kernel_rfl) rfl
@[go_sem] theorem zcells339 : zcells Tryz.prog 339 = some [.int .u8 0, .int .u8 0, .int .u8 0, .int .u8 0, .int .u8 0, .int .u8 0, .int .u8 0, .int .u8 0, .int .u8 0, .int .u8 0, .int .u8 0, .int .u8 0, .int .u8 0, .int .u8 0, .int .u8 0, .int .u8 0, .int .u8 0, .int .u8 0, .int .u8 0, .int .u8 0, .int .u8 0, .int .u8 0, .int .u8 0, .int .u8 0, .int .u8 0, .int .u8 0, .int .u8 0, .int .u8 0, .int .u8 0, .int .u8 0, .int .u8 0, .int .u8 0] := Eq.trans (by kernel_rfl) rfl
@[go_sem] theorem und340 : Tryz.prog.underlying 340 = some (.array 64 5) := Eq.trans (by kernel_rfl) rfl
@[go_sem] theorem tsz340 : tsz Tryz.prog 340 = some 64 := Eq.trans (by kernel_rfl) rfl
@[go_sem] theorem tagg340 : tagg Tryz.prog 340 = some true := Eq.trans (by kernel_rfl) rfl
@[go_sem] theorem telt340 : telt Tryz.prog 340 = some ((some 64), 1) := Eq.trans (by kernel_rfl) rfl
@[go_sem] theorem tpl340 : tpl Tryz.prog 340 = some (plA 1) := Eq.trans (by kernel_rfl) rfl
@[go_sem] theorem aeq340 (d : Nat) (a b : List PV) : aeqD Tryz.prog d 340 (some (.array 64 5)) (.agg a) (.agg b) = aeqA (aeqT Tryz.prog d 5) Tryz.prog 5 1 64 0 a b := aeqD_array tsz5
@[go_sem] theorem eqg340 : Tryz.prog.eqGuardType Tryz.prog.depth 340 = false := Eq.trans (by kernel_rfl) rfl
@[go_sem] theorem zcells340 : zcells Tryz.prog 340 = some [.int .u8 0, .int .u8 0, .int .u8 0, .int .u8 0, .int .u8 0, .int .u8 0, .int .u8 0, .int .u8 0, .int .u8 0, .int .u8 0, .int .u8 0, .int .u8 0, .int .u8 0, .int .u8 0, .int .u8 0, .int .u8 0, .int .u8 0, .int .u8 0, .int .u8 0, .int .u8 0, .int .u8 0, .int .u8 0, .int .u8 0, .int .u8 0, .int .u8 0, .int .u8 0, .int .u8 0, .int .u8 0, .int .u8 0, .int .u8 0, .int .u8 0, .int .u8 0, .int .u8 0, .int .u8 0, .int .u8 0, .int .u8 0, .int .u8 0, .int .u8 0, .int .u8 0, .int .u8 0, .int .u8 0, .int .u8 0, .int .u8 0, .int .u8 0, .int .u8 0, .int .u8 0, .int .u8 0, .int .u8 0, .int .u8 0, .int .u8 0, .int .u8 0, .int .u8 0, .int .u8 0, .int .u8 0, .int .u8 0, .int .u8 0, .int .u8 0, .int .u8 0, .int .u8 0, .int .u8 0, .int .u8 0, .int .u8 0, .int .u8 0, .int .u8 0] := Eq.trans (by kernel_rfl) rfl
theorem isF9 : IsFun Tryz.prog 9 := fun args w => Tryz.call9 args w
theorem isF10 : IsFun Tryz.prog 10 := fun args w => Tryz.call10 args w
theorem isF23 : IsFun Tryz.prog 23 := fun args w => Tryz.call23 args w
theorem isF24 : IsFun Tryz.prog 24 := fun args w => Tryz.call24 args w
theorem isF25 : IsFun Tryz.prog 25 := fun args w => Tryz.call25 args w
theorem isF26 : IsFun Tryz.prog 26 := fun args w => Tryz.call26 args w
theorem isF27 : IsFun Tryz.prog 27 := fun args w => Tryz.call27 args w
theorem isF28 : IsFun Tryz.prog 28 := fun args w => Tryz.call28 args w
theorem isF29 : IsFun Tryz.prog 29 := fun args w => Tryz.call29 args w
theorem isF30 : IsFun Tryz.prog 30 := fun args w => Tryz.call30 args w
theorem isF31 : IsFun Tryz.prog 31 := fun args w => Tryz.call31 args w
theorem isF32 : IsFun Tryz.prog 32 := fun args w => Tryz.call32 args w
theorem isF34 : IsFun Tryz.prog 34 := fun args w => Tryz.call34 args w
theorem isF39 : IsFun Tryz.prog 39 := fun args w => Tryz.call39 args w
theorem isF40 : IsFun Tryz.prog 40 := fun args w => Tryz.call40 args w
theorem isF41 : IsFun Tryz.prog 41 := fun args w => Tryz.call41 args w
theorem isF44 : IsFun Tryz.prog 44 := fun args w => Tryz.call44 args w
theorem isF48 : IsFun Tryz.prog 48 := fun args w => Tryz.call48 args w
theorem isF49 : IsFun Tryz.prog 49 := fun args w => Tryz.call49 args w
theorem isF51 : IsFun Tryz.prog 51 := fun args w => Tryz.call51 args w
theorem isF55 : IsFun Tryz.prog 55 := fun args w => Tryz.call55 args w
theorem isF56 : IsFun Tryz.prog 56 := fun args w => Tryz.call56 args w
theorem isF57 : IsFun Tryz.prog 57 := fun args w => Tryz.call57 args w
theorem isF58 : IsFun Tryz.prog 58 := fun args w => Tryz.call58 args w
theorem isF59 : IsFun Tryz.prog 59 := fun args w => Tryz.call59 args w
theorem isF60 : IsFun Tryz.prog 60 := fun args w => Tryz.call60 args w
theorem isF61 : IsFun Tryz.prog 61 := fun args w => Tryz.call61 args w
theorem isF62 : IsFun Tryz.prog 62 := fun args w => Tryz.call62 args w
theorem isF63 : IsFun Tryz.prog 63 := fun args w => Tryz.call63 args w
theorem isF68 : IsFun Tryz.prog 68 := fun args w => Tryz.call68 args w
theorem isF69 : IsFun Tryz.prog 69 := fun args w => Tryz.call69 args w
theorem isF70 : IsFun Tryz.prog 70 := fun args w => Tryz.call70 args w
theorem isF71 : IsFun Tryz.prog 71 := fun args w => Tryz.call71 args w
theorem isF72 : IsFun Tryz.prog 72 := fun args w => Tryz.call72 args w
theorem isF73 : IsFun Tryz.prog 73 := fun args w => Tryz.call73 args w
theorem isF75 : IsFun Tryz.prog 75 := fun args w => Tryz.call75 args w
theorem isF76 : IsFun Tryz.prog 76 := fun args w => Tryz.call76 args w
theorem isF77 : IsFun Tryz.prog 77 := fun args w => Tryz.call77 args w
theorem isF78 : IsFun Tryz.prog 78 := fun args w => Tryz.call78 args w
theorem isF79 : IsFun Tryz.prog 79 := fun args w => Tryz.call79 args w
theorem isF80 : IsFun Tryz.prog 80 := fun args w => Tryz.call80 args w
theorem isF81 : IsFun Tryz.prog 81 := fun args w => Tryz.call81 args w
theorem isF82 : IsFun Tryz.prog 82 := fun args w => Tryz.call82 args w
theorem isF83 : IsFun Tryz.prog 83 := fun args w => Tryz.call83 args w
theorem isF84 : IsFun Tryz.prog 84 := fun args w => Tryz.call84 args w
theorem isF85 : IsFun Tryz.prog 85 := fun args w => Tryz.call85 args w
theorem isF86 : IsFun Tryz.prog 86 := fun args w => Tryz.call86 args w
theorem isF89 : IsFun Tryz.prog 89 := fun args w => Tryz.call89 args w
theorem isF90 : IsFun Tryz.prog 90 := fun args w => Tryz.call90 args w
theorem isF94 : IsFun Tryz.prog 94 := fun args w => Tryz.call94 args w
theorem isF95 : IsFun Tryz.prog 95 := fun args w => Tryz.call95 args w
theorem isF96 : IsFun Tryz.prog 96 := fun args w => Tryz.call96 args w
theorem isF97 : IsFun Tryz.prog 97 := fun args w => Tryz.call97 args w
theorem isF98 : IsFun Tryz.prog 98 := fun args w => Tryz.call98 args w
theorem isF99 : IsFun Tryz.prog 99 := fun args w => Tryz.call99 args w
theorem isF100 : IsFun Tryz.prog 100 := fun args w => Tryz.call100 args w
theorem isF101 : IsFun Tryz.prog 101 := fun args w => Tryz.call101 args w
theorem isF102 : IsFun Tryz.prog 102 := fun args w => Tryz.call102 args w
theorem isF103 : IsFun Tryz.prog 103 := fun args w => Tryz.call103 args w
theorem isF104 : IsFun Tryz.prog 104 := fun args w => Tryz.call104 args w
theorem isF115 : IsFun Tryz.prog 115 := fun args w => Tryz.call115 args w
theorem isF116 : IsFun Tryz.prog 116 := fun args w => Tryz.call116 args w
theorem isF117 : IsFun Tryz.prog 117 := fun args w => Tryz.call117 args w
theorem isF118 : IsFun Tryz.prog 118 := fun args w => Tryz.call118 args w
theorem isF119 : IsFun Tryz.prog 119 := fun args w => Tryz.call119 args w
theorem isF120 : IsFun Tryz.prog 120 := fun args w => Tryz.call120 args w
theorem isF121 : IsFun Tryz.prog 121 := fun args w => Tryz.call121 args w
theorem isF122 : IsFun Tryz.prog 122 := fun args w => Tryz.call122 args w
theorem isF123 : IsFun Tryz.prog 123 := fun args w => Tryz.call123 args w
theorem isF124 : IsFun Tryz.prog 124 := fun args w => Tryz.call124 args w
theorem isF125 : IsFun Tryz.prog 125 := fun args w => Tryz.call125 args w
theorem isF126 : IsFun Tryz.prog 126 := fun args w => Tryz.call126 args w
theorem isF127 : IsFun Tryz.prog 127 := fun args w => Tryz.call127 args w
theorem isF128 : IsFun Tryz.prog 128 := fun args w => Tryz.call128 args w
theorem isF129 : IsFun Tryz.prog 129 := fun args w => Tryz.call129 args w
theorem isF132 : IsFun Tryz.prog 132 := fun args w => Tryz.call132 args w
theorem isF133 : IsFun Tryz.prog 133 := fun args w => Tryz.call133 args w
theorem isF134 : IsFun Tryz.prog 134 := fun args w => Tryz.call134 args w
theorem isF135 : IsFun Tryz.prog 135 := fun args w => Tryz.call135 args w
theorem isF136 : IsFun Tryz.prog 136 := fun args w => Tryz.call136 args w
theorem isF137 : IsFun Tryz.prog 137 := fun args w => Tryz.call137 args w
theorem isF138 : IsFun Tryz.prog 138 := fun args w => Tryz.call138 args w
theorem isF139 : IsFun Tryz.prog 139 := fun args w => Tryz.call139 args w
theorem isF140 : IsFun Tryz.prog 140 := fun args w => Tryz.call140 args w
theorem isF141 : IsFun Tryz.prog 141 := fun args w => Tryz.call141 args w
theorem isF142 : IsFun Tryz.prog 142 := fun args w => Tryz.call142 args w
theorem isF143 : IsFun Tryz.prog 143 := fun args w => Tryz.call143 args w
theorem isF144 : IsFun Tryz.prog 144 := fun args w => Tryz.call144 args w
theorem isF145 : IsFun Tryz.prog 145 := fun args w => Tryz.call145 args w
theorem isF146 : IsFun Tryz.prog 146 := fun args w => Tryz.call146 args w
theorem isF147 : IsFun Tryz.prog 147 := fun args w => Tryz.call147 args w
theorem isF148 : IsFun Tryz.prog 148 := fun args w => Tryz.call148 args w
theorem isF157 : IsFun Tryz.prog 157 := fun args w => Tryz.call157 args w
theorem isF163 : IsFun Tryz.prog 163 := fun args w => Tryz.call163 args w
theorem isF168 : IsFun Tryz.prog 168 := fun args w => Tryz.call168 args w
theorem isF169 : IsFun Tryz.prog 169 := fun args w => Tryz.call169 args w
theorem isF170 : IsFun Tryz.prog 170 := fun args w => Tryz.call170 args w
theorem isF171 : IsFun Tryz.prog 171 := fun args w => Tryz.call171 args w
theorem isF172 : IsFun Tryz.prog 172 := fun args w => Tryz.call172 args w
theorem isF173 : IsFun Tryz.prog 173 := fun args w => Tryz.call173 args w
theorem isF174 : IsFun Tryz.prog 174 := fun args w => Tryz.call174 args w
theorem isF175 : IsFun Tryz.prog 175 := fun args w => Tryz.call175 args w
theorem isF176 : IsFun Tryz.prog 176 := fun args w => Tryz.call176 args w
theorem isF177 : IsFun Tryz.prog 177 := fun args w => Tryz.call177 args w
theorem isF178 : IsFun Tryz.prog 178 := fun args w => Tryz.call178 args w
theorem isF179 : IsFun Tryz.prog 179 := fun args w => Tryz.call179 args w
theorem isF180 : IsFun Tryz.prog 180 := fun args w => Tryz.call180 args w
theorem isF181 : IsFun Tryz.prog 181 := fun args w => Tryz.call181 args w
theorem isF182 : IsFun Tryz.prog 182 := fun args w => Tryz.call182 args w
theorem isF183 : IsFun Tryz.prog 183 := fun args w => Tryz.call183 args w
theorem isF184 : IsFun Tryz.prog 184 := fun args w => Tryz.call184 args w
theorem isF185 : IsFun Tryz.prog 185 := fun args w => Tryz.call185 args w
theorem isF186 : IsFun Tryz.prog 186 := fun args w => Tryz.call186 args w
theorem isF187 : IsFun Tryz.prog 187 := fun args w => Tryz.call187 args w
theorem isF188 : IsFun Tryz.prog 188 := fun args w => Tryz.call188 args w
theorem isF189 : IsFun Tryz.prog 189 := fun args w => Tryz.call189 args w
theorem isF190 : IsFun Tryz.prog 190 := fun args w => Tryz.call190 args w
theorem isF191 : IsFun Tryz.prog 191 := fun args w => Tryz.call191 args w
theorem isF192 : IsFun Tryz.prog 192 := fun args w => Tryz.call192 args w
theorem isF194 : IsFun Tryz.prog 194 := fun args w => Tryz.call194 args w
theorem isF195 : IsFun Tryz.prog 195 := fun args w => Tryz.call195 args w
theorem isF196 : IsFun Tryz.prog 196 := fun args w => Tryz.call196 args w
theorem isF197 : IsFun Tryz.prog 197 := fun args w => Tryz.call197 args w
theorem isF198 : IsFun Tryz.prog 198 := fun args w => Tryz.call198 args w
theorem isF199 : IsFun Tryz.prog 199 := fun args w => Tryz.call199 args w
theorem isF200 : IsFun Tryz.prog 200 := fun args w => Tryz.call200 args w
theorem isF201 : IsFun Tryz.prog 201 := fun args w => Tryz.call201 args w
theorem isF202 : IsFun Tryz.prog 202 := fun args w => Tryz.call202 args w
theorem isF203 : IsFun Tryz.prog 203 := fun args w => Tryz.call203 args w
theorem isF217 : IsFun Tryz.prog 217 := fun args w => Tryz.call217 args w
theorem isF219 : IsFun Tryz.prog 219 := fun args w => Tryz.call219 args w
theorem isF220 : IsFun Tryz.prog 220 := fun args w => Tryz.call220 args w
theorem isF221 : IsFun Tryz.prog 221 := fun args w => Tryz.call221 args w
theorem isF222 : IsFun Tryz.prog 222 := fun args w => Tryz.call222 args w
theorem isF223 : IsFun Tryz.prog 223 := fun args w => Tryz.call223 args w
theorem isF224 : IsFun Tryz.prog 224 := fun args w => Tryz.call224 args w
theorem isF225 : IsFun Tryz.prog 225 := fun args w => Tryz.call225 args w
theorem isF226 : IsFun Tryz.prog 226 := fun args w => Tryz.call226 args w
theorem isF227 : IsFun Tryz.prog 227 := fun args w => Tryz.call227 args w
theorem isF228 : IsFun Tryz.prog 228 := fun args w => Tryz.call228 args w
theorem isF229 : IsFun Tryz.prog 229 := fun args w => Tryz.call229 args w
theorem isF230 : IsFun Tryz.prog 230 := fun args w => Tryz.call230 args w
theorem isF231 : IsFun Tryz.prog 231 := fun args w => Tryz.call231 args w
theorem isF232 : IsFun Tryz.prog 232 := fun args w => Tryz.call232 args w
theorem isF233 : IsFun Tryz.prog 233 := fun args w => Tryz.call233 args w
theorem isF234 : IsFun Tryz.prog 234 := fun args w => Tryz.call234 args w
theorem isF244 : IsFun Tryz.prog 244 := fun args w => Tryz.call244 args w
theorem isF246 : IsFun Tryz.prog 246 := fun args w => Tryz.call246 args w
theorem isF247 : IsFun Tryz.prog 247 := fun args w => Tryz.call247 args w
theorem isF248 : IsFun Tryz.prog 248 := fun args w => Tryz.call248 args w
theorem isF249 : IsFun Tryz.prog 249 := fun args w => Tryz.call249 args w
theorem isF250 : IsFun Tryz.prog 250 := fun args w => Tryz.call250 args w
theorem isF251 : IsFun Tryz.prog 251 := fun args w => Tryz.call251 args w
theorem isF252 : IsFun Tryz.prog 252 := fun args w => Tryz.call252 args w
theorem isF261 : IsFun Tryz.prog 261 := fun args w => Tryz.call261 args w
theorem isF266 : IsFun Tryz.prog 266 := fun args w => Tryz.call266 args w
theorem isF267 : IsFun Tryz.prog 267 := fun args w => Tryz.call267 args w
theorem isF268 : IsFun Tryz.prog 268 := fun args w => Tryz.call268 args w
theorem isF269 : IsFun Tryz.prog 269 := fun args w => Tryz.call269 args w
theorem isF277 : IsFun Tryz.prog 277 := fun args w => Tryz.call277 args w
theorem isF278 : IsFun Tryz.prog 278 := fun args w => Tryz.call278 args w
theorem isF279 : IsFun Tryz.prog 279 := fun args w => Tryz.call279 args w
theorem isF280 : IsFun Tryz.prog 280 := fun args w => Tryz.call280 args w
theorem isF281 : IsFun Tryz.prog 281 := fun args w => Tryz.call281 args w
theorem isF286 : IsFun Tryz.prog 286 := fun args w => Tryz.call286 args w
theorem isF287 : IsFun Tryz.prog 287 := fun args w => Tryz.call287 args w
theorem isF288 : IsFun Tryz.prog 288 := fun args w => Tryz.call288 args w
theorem isF289 : IsFun Tryz.prog 289 := fun args w => Tryz.call289 args w
theorem isF290 : IsFun Tryz.prog 290 := fun args w => Tryz.call290 args w
theorem isF291 : IsFun Tryz.prog 291 := fun args w => Tryz.call291 args w
theorem isF292 : IsFun Tryz.prog 292 := fun args w => Tryz.call292 args w
theorem mixed : Tryz.prog.follows .mixedOrders = true := by kernel_rfl
end Go.Proofs.YtcllkjiebfmjpaaGreatDoor.K
