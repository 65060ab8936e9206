/- Declarations that the closing texts need, part 4: joined by tools/slim.py. -/
import Derived.Test.YtccjopdlbolnhaaGreatZ3
import Derived.KernelRfl
import Derived.Test.YtccjopdlbolnhaaGreatProg
namespace Go.Proofs.YtccjopdlbolnhaaGreat.K
open Go Go.AM Go.Proofs
@[go_sem] theorem und3 : Tryz.prog.underlying 3 = some (.int .i64) := Eq.trans (by kernel_rfl) rfl
@[go_sem] theorem tsz3 : tsz Tryz.prog 3 = some 1 := Eq.trans (by kernel_rfl) rfl
@[go_sem] theorem tagg3 : tagg Tryz.prog 3 = some false := Eq.trans (by kernel_rfl) rfl
@[go_sem] theorem zcells3 : zcells Tryz.prog 3 = some [.int .i64 0] := Eq.trans (by kernel_rfl) rfl
@[go_sem] theorem und4 : Tryz.prog.underlying 4 = some .bool := Eq.trans (by kernel_rfl) rfl
@[go_sem] theorem tsz4 : tsz Tryz.prog 4 = some 1 := Eq.trans (by kernel_rfl) rfl
@[go_sem] theorem tagg4 : tagg Tryz.prog 4 = some false := Eq.trans (by kernel_rfl) rfl
@[go_sem] theorem zcells4 : zcells Tryz.prog 4 = some [.bool false] := Eq.trans (by kernel_rfl) rfl
@[go_sem] theorem und5 : Tryz.prog.underlying 5 = some (.int .u8) := Eq.trans (by kernel_rfl) rfl
@[go_sem] theorem tsz5 : tsz Tryz.prog 5 = some 1 := Eq.trans (by kernel_rfl) rfl
@[go_sem] theorem tagg5 : tagg Tryz.prog 5 = some false := Eq.trans (by kernel_rfl) rfl
@[go_sem] theorem zcells5 : zcells Tryz.prog 5 = some [.int .u8 0] := Eq.trans (by kernel_rfl) rfl
@[go_sem] theorem und9 : Tryz.prog.underlying 9 = some .string := Eq.trans (by kernel_rfl) rfl
@[go_sem] theorem tsz9 : tsz Tryz.prog 9 = some 1 := Eq.trans (by kernel_rfl) rfl
@[go_sem] theorem tagg9 : tagg Tryz.prog 9 = some false := Eq.trans (by kernel_rfl) rfl
@[go_sem] theorem zcells9 : zcells Tryz.prog 9 = some [.str []] := Eq.trans (by kernel_rfl) rfl
@[go_sem] theorem und22 : Tryz.prog.underlying 22 = some (.slice 9) := Eq.trans (by kernel_rfl) rfl
@[go_sem] theorem tsz22 : tsz Tryz.prog 22 = some 1 := Eq.trans (by kernel_rfl) rfl
@[go_sem] theorem tagg22 : tagg Tryz.prog 22 = some false := Eq.trans (by kernel_rfl) rfl
@[go_sem] theorem telt22 : telt Tryz.prog 22 = some (none, 1) := Eq.trans (by kernel_rfl) rfl
@[go_sem] theorem litF22 : litF Tryz.prog 22 = some 1 := Eq.trans (by kernel_rfl) rfl
@[go_sem] theorem appF22 : appF Tryz.prog 22 = some (1, 16) := Eq.trans (by kernel_rfl) rfl
@[go_sem] theorem aapp0_22 (H : List AM.Obj) (u : TypeId) (y : V) : aapp Tryz.prog H 22 u (.p (.list true [])) y = app0 H (some (1, 16)) (asrcB (Tryz.prog.underlying u) H y) := aapp_nil appF22
@[go_sem] theorem aapp1_22 (H : List AM.Obj) (u : TypeId) (o n : Nat) (y : V) : aapp Tryz.prog H 22 u (.sl o 0 n n) y = app1 H (some (1, 16)) (oat H o) o n (asrcB (Tryz.prog.underlying u) H y) := aapp_own appF22
@[go_sem] theorem makeF22 : makeF Tryz.prog 22 = some (1, 16, .str []) := Eq.trans (by kernel_rfl) rfl
@[go_sem] theorem amk22 (H : List AM.Obj) (fr : List V) (x y : Operand) : amem Tryz.prog (.makeSlice 22 x y) fr H = amakeB (some (1, 16, .str [])) H (ev fr x) (ev fr y) := amem_makeB makeF22
@[go_sem] theorem zcells22 : zcells Tryz.prog 22 = some [.list true []] := Eq.trans (by kernel_rfl) rfl
@[go_sem] theorem und23 : Tryz.prog.underlying 23 = some (.slice 125) := Eq.trans (by kernel_rfl) rfl
@[go_sem] theorem tsz23 : tsz Tryz.prog 23 = some 1 := Eq.trans (by kernel_rfl) rfl
@[go_sem] theorem tagg23 : tagg Tryz.prog 23 = some false := Eq.trans (by kernel_rfl) rfl
@[go_sem] theorem telt23 : telt Tryz.prog 23 = some (none, 6) := Eq.trans (by kernel_rfl) rfl
@[go_sem] theorem litF23 : litF Tryz.prog 23 = some 6 := Eq.trans (by kernel_rfl) rfl
@[go_sem] theorem appF23 : appF Tryz.prog 23 = some (6, 80) := Eq.trans (by kernel_rfl) rfl
@[go_sem] theorem aapp0_23 (H : List AM.Obj) (u : TypeId) (y : V) : aapp Tryz.prog H 23 u (.p (.list true [])) y = app0 H (some (6, 80)) (asrcB (Tryz.prog.underlying u) H y) := aapp_nil appF23
@[go_sem] theorem aapp1_23 (H : List AM.Obj) (u : TypeId) (o n : Nat) (y : V) : aapp Tryz.prog H 23 u (.sl o 0 n n) y = app1 H (some (6, 80)) (oat H o) o n (asrcB (Tryz.prog.underlying u) H y) := aapp_own appF23
@[go_sem] theorem makeF23 : makeF Tryz.prog 23 = some (6, 80, .agg [.int .i64 0, .int .i64 0, .int .i64 0, .int .i64 0, .list true [], .list true []]) := Eq.trans (by kernel_rfl) rfl
@[go_sem] theorem amk23 (H : List AM.Obj) (fr : List V) (x y : Operand) : amem Tryz.prog (.makeSlice 23 x y) fr H = amakeB (some (6, 80, .agg [.int .i64 0, .int .i64 0, .int .i64 0, .int .i64 0, .list true [], .list true []])) H (ev fr x) (ev fr y) := amem_makeB makeF23
@[go_sem] theorem zcells23 : zcells Tryz.prog 23 = some [.list true []] := Eq.trans (by kernel_rfl) rfl
@[go_sem] theorem tsz25 : tsz Tryz.prog 25 = some 2 := Eq.trans (by kernel_rfl) rfl
@[go_sem] theorem tagg25 : tagg Tryz.prog 25 = some true := Eq.trans (by kernel_rfl) rfl
@[go_sem] theorem tfld25_0 : tfld Tryz.prog 25 0 = some 0 := Eq.trans (by kernel_rfl) rfl
@[go_sem] theorem tfld25_1 : tfld Tryz.prog 25 1 = some 1 := Eq.trans (by kernel_rfl) rfl
@[go_sem] theorem stood25 : Tryz.prog.stoodInHeld 25 = false := Eq.trans (by kernel_rfl) rfl
@[go_sem] theorem tpl25 : tpl Tryz.prog 25 = some (plL [(0, 1), (1, 1)]) := Eq.trans (by kernel_rfl) rfl
@[go_sem] theorem aeq25 (d : Nat) (a b : List PV) : aeqD Tryz.prog d 25 (Tryz.prog.underlying 25) (.agg a) (.agg b) = oand (eqP (aeqT Tryz.prog d 22) (apart Tryz.prog 22 a 0) (apart Tryz.prog 22 b 0)) (oand (eqP (aeqT Tryz.prog d 23) (apart Tryz.prog 23 a 1) (apart Tryz.prog 23 b 1)) (some true)) := by rw [Tryz.underlying25, aeqD_struct stood25]; simp [aeqF_cons, aeqF_nil]
@[go_sem] theorem eqg25 : Tryz.prog.eqGuardType Tryz.prog.depth 25 = false := Eq.trans (by kernel_rfl) rfl
@[go_sem] theorem zcells25 : zcells Tryz.prog 25 = some [.list true [], .list true []] := Eq.trans (by kernel_rfl) rfl
@[go_sem] theorem und26 : Tryz.prog.underlying 26 = some (.slice 62) := Eq.trans (by kernel_rfl) rfl
@[go_sem] theorem tsz26 : tsz Tryz.prog 26 = some 1 := Eq.trans (by kernel_rfl) rfl
@[go_sem] theorem tagg26 : tagg Tryz.prog 26 = some false := Eq.trans (by kernel_rfl) rfl
@[go_sem] theorem telt26 : telt Tryz.prog 26 = some (none, 14) := Eq.trans (by kernel_rfl) rfl
@[go_sem] theorem litF26 : litF Tryz.prog 26 = some 14 := Eq.trans (by kernel_rfl) rfl
@[go_sem] theorem appF26 : appF Tryz.prog 26 = some (14, 136) := Eq.trans (by kernel_rfl) rfl
@[go_sem] theorem aapp0_26 (H : List AM.Obj) (u : TypeId) (y : V) : aapp Tryz.prog H 26 u (.p (.list true [])) y = app0 H (some (14, 136)) (asrcB (Tryz.prog.underlying u) H y) := aapp_nil appF26
@[go_sem] theorem aapp1_26 (H : List AM.Obj) (u : TypeId) (o n : Nat) (y : V) : aapp Tryz.prog H 26 u (.sl o 0 n n) y = app1 H (some (14, 136)) (oat H o) o n (asrcB (Tryz.prog.underlying u) H y) := aapp_own appF26
@[go_sem] theorem makeF26 : makeF Tryz.prog 26 = some (14, 136, .agg [.str [], .int .i64 0, .int .i64 0, .int .i64 0, .list true [], .int .i64 0, .int .i64 0, .int .i64 0, .int .i64 0, .int .i64 0, .int .i64 0, .int .i64 0, .int .i64 0, .int .i64 0]) := Eq.trans (by kernel_rfl) rfl
@[go_sem] theorem amk26 (H : List AM.Obj) (fr : List V) (x y : Operand) : amem Tryz.prog (.makeSlice 26 x y) fr H = amakeB (some (14, 136, .agg [.str [], .int .i64 0, .int .i64 0, .int .i64 0, .list true [], .int .i64 0, .int .i64 0, .int .i64 0, .int .i64 0, .int .i64 0, .int .i64 0, .int .i64 0, .int .i64 0, .int .i64 0])) H (ev fr x) (ev fr y) := amem_makeB makeF26
@[go_sem] theorem zcells26 : zcells Tryz.prog 26 = some [.list true []] := Eq.trans (by kernel_rfl) rfl
@[go_sem] theorem und27 : Tryz.prog.underlying 27 = some (.slice 60) := Eq.trans (by kernel_rfl) rfl
@[go_sem] theorem tsz27 : tsz Tryz.prog 27 = some 1 := Eq.trans (by kernel_rfl) rfl
@[go_sem] theorem tagg27 : tagg Tryz.prog 27 = some false := Eq.trans (by kernel_rfl) rfl
@[go_sem] theorem telt27 : telt Tryz.prog 27 = some (none, 16) := Eq.trans (by kernel_rfl) rfl
@[go_sem] theorem litF27 : litF Tryz.prog 27 = some 16 := Eq.trans (by kernel_rfl) rfl
@[go_sem] theorem appF27 : appF Tryz.prog 27 = some (16, 152) := Eq.trans (by kernel_rfl) rfl
@[go_sem] theorem aapp0_27 (H : List AM.Obj) (u : TypeId) (y : V) : aapp Tryz.prog H 27 u (.p (.list true [])) y = app0 H (some (16, 152)) (asrcB (Tryz.prog.underlying u) H y) := aapp_nil appF27
@[go_sem] theorem aapp1_27 (H : List AM.Obj) (u : TypeId) (o n : Nat) (y : V) : aapp Tryz.prog H 27 u (.sl o 0 n n) y = app1 H (some (16, 152)) (oat H o) o n (asrcB (Tryz.prog.underlying u) H y) := aapp_own appF27
@[go_sem] theorem makeF27 : makeF Tryz.prog 27 = some (16, 152, .agg [.str [], .list true [], .int .i64 0, .int .i64 0, .int .i64 0, .int .i64 0, .int .i64 0, .int .i64 0, .int .i64 0, .int .i64 0, .int .i64 0, .int .i64 0, .int .i64 0, .int .i64 0, .int .i64 0, .bool false]) := Eq.trans (by kernel_rfl) rfl
@[go_sem] theorem amk27 (H : List AM.Obj) (fr : List V) (x y : Operand) : amem Tryz.prog (.makeSlice 27 x y) fr H = amakeB (some (16, 152, .agg [.str [], .list true [], .int .i64 0, .int .i64 0, .int .i64 0, .int .i64 0, .int .i64 0, .int .i64 0, .int .i64 0, .int .i64 0, .int .i64 0, .int .i64 0, .int .i64 0, .int .i64 0, .int .i64 0, .bool false])) H (ev fr x) (ev fr y) := amem_makeB makeF27
@[go_sem] theorem zcells27 : zcells Tryz.prog 27 = some [.list true []] := Eq.trans (by kernel_rfl) rfl
@[go_sem] theorem und28 : Tryz.prog.underlying 28 = some (.slice 85) := Eq.trans (by kernel_rfl) rfl
@[go_sem] theorem tsz28 : tsz Tryz.prog 28 = some 1 := Eq.trans (by kernel_rfl) rfl
@[go_sem] theorem tagg28 : tagg Tryz.prog 28 = some false := Eq.trans (by kernel_rfl) rfl
@[go_sem] theorem telt28 : telt Tryz.prog 28 = some (none, 2) := Eq.trans (by kernel_rfl) rfl
@[go_sem] theorem litF28 : litF Tryz.prog 28 = some 2 := Eq.trans (by kernel_rfl) rfl
@[go_sem] theorem appF28 : appF Tryz.prog 28 = some (2, 16) := Eq.trans (by kernel_rfl) rfl
@[go_sem] theorem aapp0_28 (H : List AM.Obj) (u : TypeId) (y : V) : aapp Tryz.prog H 28 u (.p (.list true [])) y = app0 H (some (2, 16)) (asrcB (Tryz.prog.underlying u) H y) := aapp_nil appF28
@[go_sem] theorem aapp1_28 (H : List AM.Obj) (u : TypeId) (o n : Nat) (y : V) : aapp Tryz.prog H 28 u (.sl o 0 n n) y = app1 H (some (2, 16)) (oat H o) o n (asrcB (Tryz.prog.underlying u) H y) := aapp_own appF28
@[go_sem] theorem makeF28 : makeF Tryz.prog 28 = some (2, 16, .agg [.int .i64 0, .int .i64 0]) := Eq.trans (by kernel_rfl) rfl
@[go_sem] theorem amk28 (H : List AM.Obj) (fr : List V) (x y : Operand) : amem Tryz.prog (.makeSlice 28 x y) fr H = amakeB (some (2, 16, .agg [.int .i64 0, .int .i64 0])) H (ev fr x) (ev fr y) := amem_makeB makeF28
@[go_sem] theorem zcells28 : zcells Tryz.prog 28 = some [.list true []] := Eq.trans (by kernel_rfl) rfl
@[go_sem] theorem tsz30 : tsz Tryz.prog 30 = some 6 := Eq.trans (by kernel_rfl) rfl
@[go_sem] theorem tagg30 : tagg Tryz.prog 30 = some true := Eq.trans (by kernel_rfl) rfl
@[go_sem] theorem tfld30_0 : tfld Tryz.prog 30 0 = some 0 := Eq.trans (by kernel_rfl) rfl
@[go_sem] theorem tfld30_1 : tfld Tryz.prog 30 1 = some 2 := Eq.trans (by kernel_rfl) rfl
@[go_sem] theorem tfld30_2 : tfld Tryz.prog 30 2 = some 3 := Eq.trans (by kernel_rfl) rfl
@[go_sem] theorem tfld30_3 : tfld Tryz.prog 30 3 = some 4 := Eq.trans (by kernel_rfl) rfl
@[go_sem] theorem tfld30_4 : tfld Tryz.prog 30 4 = some 5 := Eq.trans (by kernel_rfl) rfl
@[go_sem] theorem stood30 : Tryz.prog.stoodInHeld 30 = false := Eq.trans (by kernel_rfl) rfl
@[go_sem] theorem tpl30 : tpl Tryz.prog 30 = some (plL [(0, 2), (2, 1), (3, 1), (4, 1), (5, 1)]) := Eq.trans (by kernel_rfl) rfl
@[go_sem] theorem aeq30 (d : Nat) (a b : List PV) : aeqD Tryz.prog d 30 (Tryz.prog.underlying 30) (.agg a) (.agg b) = oand (eqP (aeqT Tryz.prog d 25) (apart Tryz.prog 25 a 0) (apart Tryz.prog 25 b 0)) (oand (eqP (aeqT Tryz.prog d 26) (apart Tryz.prog 26 a 2) (apart Tryz.prog 26 b 2)) (oand (eqP (aeqT Tryz.prog d 27) (apart Tryz.prog 27 a 3) (apart Tryz.prog 27 b 3)) (oand (eqP (aeqT Tryz.prog d 28) (apart Tryz.prog 28 a 4) (apart Tryz.prog 28 b 4)) (oand (eqP (aeqT Tryz.prog d 28) (apart Tryz.prog 28 a 5) (apart Tryz.prog 28 b 5)) (some true))))) := by rw [Tryz.underlying30, aeqD_struct stood30]; simp [aeqF_cons, aeqF_nil]
@[go_sem] theorem eqg30 : Tryz.prog.eqGuardType Tryz.prog.depth 30 = false := Eq.trans (by kernel_rfl) rfl
@[go_sem] theorem zcells30 : zcells Tryz.prog 30 = some [.list true [], .list true [], .list true [], .list true [], .list true [], .list true []] := Eq.trans (by kernel_rfl) rfl
@[go_sem] theorem und31 : Tryz.prog.underlying 31 = some (.slice 55) := Eq.trans (by kernel_rfl) rfl
@[go_sem] theorem tsz31 : tsz Tryz.prog 31 = some 1 := Eq.trans (by kernel_rfl) rfl
@[go_sem] theorem tagg31 : tagg Tryz.prog 31 = some false := Eq.trans (by kernel_rfl) rfl
@[go_sem] theorem telt31 : telt Tryz.prog 31 = some (none, 2) := Eq.trans (by kernel_rfl) rfl
@[go_sem] theorem litF31 : litF Tryz.prog 31 = some 2 := Eq.trans (by kernel_rfl) rfl
@[go_sem] theorem appF31 : appF Tryz.prog 31 = some (2, 16) := Eq.trans (by kernel_rfl) rfl
@[go_sem] theorem aapp0_31 (H : List AM.Obj) (u : TypeId) (y : V) : aapp Tryz.prog H 31 u (.p (.list true [])) y = app0 H (some (2, 16)) (asrcB (Tryz.prog.underlying u) H y) := aapp_nil appF31
@[go_sem] theorem aapp1_31 (H : List AM.Obj) (u : TypeId) (o n : Nat) (y : V) : aapp Tryz.prog H 31 u (.sl o 0 n n) y = app1 H (some (2, 16)) (oat H o) o n (asrcB (Tryz.prog.underlying u) H y) := aapp_own appF31
@[go_sem] theorem makeF31 : makeF Tryz.prog 31 = some (2, 16, .agg [.int .i64 0, .int .i64 0]) := Eq.trans (by kernel_rfl) rfl
@[go_sem] theorem amk31 (H : List AM.Obj) (fr : List V) (x y : Operand) : amem Tryz.prog (.makeSlice 31 x y) fr H = amakeB (some (2, 16, .agg [.int .i64 0, .int .i64 0])) H (ev fr x) (ev fr y) := amem_makeB makeF31
@[go_sem] theorem zcells31 : zcells Tryz.prog 31 = some [.list true []] := Eq.trans (by kernel_rfl) rfl
@[go_sem] theorem und32 : Tryz.prog.underlying 32 = some (.slice 4) := Eq.trans (by kernel_rfl) rfl
@[go_sem] theorem tsz32 : tsz Tryz.prog 32 = some 1 := Eq.trans (by kernel_rfl) rfl
@[go_sem] theorem tagg32 : tagg Tryz.prog 32 = some false := Eq.trans (by kernel_rfl) rfl
@[go_sem] theorem telt32 : telt Tryz.prog 32 = some (none, 1) := Eq.trans (by kernel_rfl) rfl
@[go_sem] theorem litF32 : litF Tryz.prog 32 = some 1 := Eq.trans (by kernel_rfl) rfl
@[go_sem] theorem appF32 : appF Tryz.prog 32 = some (1, 1) := Eq.trans (by kernel_rfl) rfl
@[go_sem] theorem aapp0_32 (H : List AM.Obj) (u : TypeId) (y : V) : aapp Tryz.prog H 32 u (.p (.list true [])) y = app0 H (some (1, 1)) (asrcB (Tryz.prog.underlying u) H y) := aapp_nil appF32
@[go_sem] theorem aapp1_32 (H : List AM.Obj) (u : TypeId) (o n : Nat) (y : V) : aapp Tryz.prog H 32 u (.sl o 0 n n) y = app1 H (some (1, 1)) (oat H o) o n (asrcB (Tryz.prog.underlying u) H y) := aapp_own appF32
@[go_sem] theorem makeF32 : makeF Tryz.prog 32 = some (1, 1, .bool false) := Eq.trans (by kernel_rfl) rfl
@[go_sem] theorem amk32 (H : List AM.Obj) (fr : List V) (x y : Operand) : amem Tryz.prog (.makeSlice 32 x y) fr H = amakeB (some (1, 1, .bool false)) H (ev fr x) (ev fr y) := amem_makeB makeF32
@[go_sem] theorem zcells32 : zcells Tryz.prog 32 = some [.list true []] := Eq.trans (by kernel_rfl) rfl
@[go_sem] theorem und33 : Tryz.prog.underlying 33 = some (.slice 81) := Eq.trans (by kernel_rfl) rfl
@[go_sem] theorem tsz33 : tsz Tryz.prog 33 = some 1 := Eq.trans (by kernel_rfl) rfl
@[go_sem] theorem tagg33 : tagg Tryz.prog 33 = some false := Eq.trans (by kernel_rfl) rfl
@[go_sem] theorem telt33 : telt Tryz.prog 33 = some (none, 2) := Eq.trans (by kernel_rfl) rfl
@[go_sem] theorem litF33 : litF Tryz.prog 33 = some 2 := Eq.trans (by kernel_rfl) rfl
@[go_sem] theorem appF33 : appF Tryz.prog 33 = some (2, 16) := Eq.trans (by kernel_rfl) rfl
@[go_sem] theorem aapp0_33 (H : List AM.Obj) (u : TypeId) (y : V) : aapp Tryz.prog H 33 u (.p (.list true [])) y = app0 H (some (2, 16)) (asrcB (Tryz.prog.underlying u) H y) := aapp_nil appF33
@[go_sem] theorem aapp1_33 (H : List AM.Obj) (u : TypeId) (o n : Nat) (y : V) : aapp Tryz.prog H 33 u (.sl o 0 n n) y = app1 H (some (2, 16)) (oat H o) o n (asrcB (Tryz.prog.underlying u) H y) := aapp_own appF33
@[go_sem] theorem makeF33 : makeF Tryz.prog 33 = some (2, 16, .agg [.int .i64 0, .bool false]) := Eq.trans (by kernel_rfl) rfl
@[go_sem] theorem amk33 (H : List AM.Obj) (fr : List V) (x y : Operand) : amem Tryz.prog (.makeSlice 33 x y) fr H = amakeB (some (2, 16, .agg [.int .i64 0, .bool false])) H (ev fr x) (ev fr y) := amem_makeB makeF33
@[go_sem] theorem zcells33 : zcells Tryz.prog 33 = some [.list true []] := Eq.trans (by kernel_rfl) rfl
@[go_sem] theorem tsz35 : tsz Tryz.prog 35 = some 4 := Eq.trans (by kernel_rfl) rfl
@[go_sem] theorem tagg35 : tagg Tryz.prog 35 = some true := Eq.trans (by kernel_rfl) rfl
@[go_sem] theorem tfld35_0 : tfld Tryz.prog 35 0 = some 0 := Eq.trans (by kernel_rfl) rfl
@[go_sem] theorem tfld35_1 : tfld Tryz.prog 35 1 = some 1 := Eq.trans (by kernel_rfl) rfl
@[go_sem] theorem tfld35_2 : tfld Tryz.prog 35 2 = some 2 := Eq.trans (by kernel_rfl) rfl
@[go_sem] theorem tfld35_3 : tfld Tryz.prog 35 3 = some 3 := Eq.trans (by kernel_rfl) rfl
@[go_sem] theorem stood35 : Tryz.prog.stoodInHeld 35 = false := Eq.trans (by kernel_rfl) rfl
@[go_sem] theorem tpl35 : tpl Tryz.prog 35 = some (plL [(0, 1), (1, 1), (2, 1), (3, 1)]) := Eq.trans (by kernel_rfl) rfl
@[go_sem] theorem aeq35 (d : Nat) (a b : List PV) : aeqD Tryz.prog d 35 (Tryz.prog.underlying 35) (.agg a) (.agg b) = oand (eqP (aeqT Tryz.prog d 3) (apart Tryz.prog 3 a 0) (apart Tryz.prog 3 b 0)) (oand (eqP (aeqT Tryz.prog d 3) (apart Tryz.prog 3 a 1) (apart Tryz.prog 3 b 1)) (oand (eqP (aeqT Tryz.prog d 32) (apart Tryz.prog 32 a 2) (apart Tryz.prog 32 b 2)) (oand (eqP (aeqT Tryz.prog d 33) (apart Tryz.prog 33 a 3) (apart Tryz.prog 33 b 3)) (some true)))) := by rw [Tryz.underlying35, aeqD_struct stood35]; simp [aeqF_cons, aeqF_nil]
@[go_sem] theorem eqg35 : Tryz.prog.eqGuardType Tryz.prog.depth 35 = false := Eq.trans (by kernel_rfl) rfl
@[go_sem] theorem zcells35 : zcells Tryz.prog 35 = some [.int .i64 0, .int .i64 0, .list true [], .list true []] := Eq.trans (by kernel_rfl) rfl
@[go_sem] theorem und37 : Tryz.prog.underlying 37 = some (.int .i64) := Eq.trans (by kernel_rfl) rfl
@[go_sem] theorem tsz37 : tsz Tryz.prog 37 = some 1 := Eq.trans (by kernel_rfl) rfl
@[go_sem] theorem tagg37 : tagg Tryz.prog 37 = some false := Eq.trans (by kernel_rfl) rfl
@[go_sem] theorem zcells37 : zcells Tryz.prog 37 = some [.int .i64 0] := Eq.trans (by kernel_rfl) rfl
@[go_sem] theorem und43 : Tryz.prog.underlying 43 = some (.slice 94) := Eq.trans (by kernel_rfl) rfl
@[go_sem] theorem tsz43 : tsz Tryz.prog 43 = some 1 := Eq.trans (by kernel_rfl) rfl
@[go_sem] theorem tagg43 : tagg Tryz.prog 43 = some false := Eq.trans (by kernel_rfl) rfl
@[go_sem] theorem telt43 : telt Tryz.prog 43 = some (none, 2) := Eq.trans (by kernel_rfl) rfl
@[go_sem] theorem litF43 : litF Tryz.prog 43 = some 2 := Eq.trans (by kernel_rfl) rfl
@[go_sem] theorem appF43 : appF Tryz.prog 43 = some (2, 24) := Eq.trans (by kernel_rfl) rfl
@[go_sem] theorem aapp0_43 (H : List AM.Obj) (u : TypeId) (y : V) : aapp Tryz.prog H 43 u (.p (.list true [])) y = app0 H (some (2, 24)) (asrcB (Tryz.prog.underlying u) H y) := aapp_nil appF43
@[go_sem] theorem aapp1_43 (H : List AM.Obj) (u : TypeId) (o n : Nat) (y : V) : aapp Tryz.prog H 43 u (.sl o 0 n n) y = app1 H (some (2, 24)) (oat H o) o n (asrcB (Tryz.prog.underlying u) H y) := aapp_own appF43
@[go_sem] theorem makeF43 : makeF Tryz.prog 43 = some (2, 24, .agg [.int .i64 0, .str []]) := Eq.trans (by kernel_rfl) rfl
@[go_sem] theorem amk43 (H : List AM.Obj) (fr : List V) (x y : Operand) : amem Tryz.prog (.makeSlice 43 x y) fr H = amakeB (some (2, 24, .agg [.int .i64 0, .str []])) H (ev fr x) (ev fr y) := amem_makeB makeF43
@[go_sem] theorem zcells43 : zcells Tryz.prog 43 = some [.list true []] := Eq.trans (by kernel_rfl) rfl
@[go_sem] theorem und45 : Tryz.prog.underlying 45 = some (.slice 164) := Eq.trans (by kernel_rfl) rfl
@[go_sem] theorem tsz45 : tsz Tryz.prog 45 = some 1 := Eq.trans (by kernel_rfl) rfl
@[go_sem] theorem tagg45 : tagg Tryz.prog 45 = some false := Eq.trans (by kernel_rfl) rfl
@[go_sem] theorem telt45 : telt Tryz.prog 45 = some (none, 4) := Eq.trans (by kernel_rfl) rfl
@[go_sem] theorem litF45 : litF Tryz.prog 45 = some 4 := Eq.trans (by kernel_rfl) rfl
@[go_sem] theorem appF45 : appF Tryz.prog 45 = some (4, 32) := Eq.trans (by kernel_rfl) rfl
@[go_sem] theorem aapp0_45 (H : List AM.Obj) (u : TypeId) (y : V) : aapp Tryz.prog H 45 u (.p (.list true [])) y = app0 H (some (4, 32)) (asrcB (Tryz.prog.underlying u) H y) := aapp_nil appF45
@[go_sem] theorem aapp1_45 (H : List AM.Obj) (u : TypeId) (o n : Nat) (y : V) : aapp Tryz.prog H 45 u (.sl o 0 n n) y = app1 H (some (4, 32)) (oat H o) o n (asrcB (Tryz.prog.underlying u) H y) := aapp_own appF45
@[go_sem] theorem makeF45 : makeF Tryz.prog 45 = some (4, 32, .agg [.int .i64 0, .int .i64 0, .int .i64 0, .bool false]) := Eq.trans (by kernel_rfl) rfl
@[go_sem] theorem amk45 (H : List AM.Obj) (fr : List V) (x y : Operand) : amem Tryz.prog (.makeSlice 45 x y) fr H = amakeB (some (4, 32, .agg [.int .i64 0, .int .i64 0, .int .i64 0, .bool false])) H (ev fr x) (ev fr y) := amem_makeB makeF45
@[go_sem] theorem zcells45 : zcells Tryz.prog 45 = some [.list true []] := Eq.trans (by kernel_rfl) rfl
@[go_sem] theorem tsz47 : tsz Tryz.prog 47 = some 5 := Eq.trans (by kernel_rfl) rfl
@[go_sem] theorem tagg47 : tagg Tryz.prog 47 = some true := Eq.trans (by kernel_rfl) rfl
@[go_sem] theorem tfld47_0 : tfld Tryz.prog 47 0 = some 0 := Eq.trans (by kernel_rfl) rfl
@[go_sem] theorem tfld47_1 : tfld Tryz.prog 47 1 = some 1 := Eq.trans (by kernel_rfl) rfl
@[go_sem] theorem tfld47_2 : tfld Tryz.prog 47 2 = some 2 := Eq.trans (by kernel_rfl) rfl
@[go_sem] theorem tfld47_3 : tfld Tryz.prog 47 3 = some 3 := Eq.trans (by kernel_rfl) rfl
@[go_sem] theorem tfld47_4 : tfld Tryz.prog 47 4 = some 4 := Eq.trans (by kernel_rfl) rfl
@[go_sem] theorem stood47 : Tryz.prog.stoodInHeld 47 = false := Eq.trans (by kernel_rfl) rfl
@[go_sem] theorem tpl47 : tpl Tryz.prog 47 = some (plL [(0, 1), (1, 1), (2, 1), (3, 1), (4, 1)]) := Eq.trans (by kernel_rfl) rfl
@[go_sem] theorem aeq47 (d : Nat) (a b : List PV) : aeqD Tryz.prog d 47 (Tryz.prog.underlying 47) (.agg a) (.agg b) = oand (eqP (aeqT Tryz.prog d 4) (apart Tryz.prog 4 a 0) (apart Tryz.prog 4 b 0)) (oand (eqP (aeqT Tryz.prog d 3) (apart Tryz.prog 3 a 1) (apart Tryz.prog 3 b 1)) (oand (eqP (aeqT Tryz.prog d 45) (apart Tryz.prog 45 a 2) (apart Tryz.prog 45 b 2)) (oand (eqP (aeqT Tryz.prog d 3) (apart Tryz.prog 3 a 3) (apart Tryz.prog 3 b 3)) (oand (eqP (aeqT Tryz.prog d 3) (apart Tryz.prog 3 a 4) (apart Tryz.prog 3 b 4)) (some true))))) := by rw [Tryz.underlying47, aeqD_struct stood47]; simp [aeqF_cons, aeqF_nil]
@[go_sem] theorem eqg47 : Tryz.prog.eqGuardType Tryz.prog.depth 47 = false := Eq.trans (by kernel_rfl) rfl
@[go_sem] theorem zcells47 : zcells Tryz.prog 47 = some [.bool false, .int .i64 0, .list true [], .int .i64 0, .int .i64 0] := Eq.trans (by kernel_rfl) rfl
@[go_sem] theorem tsz49 : tsz Tryz.prog 49 = some 4 := Eq.trans (by kernel_rfl) rfl
@[go_sem] theorem tagg49 : tagg Tryz.prog 49 = some true := Eq.trans (by kernel_rfl) rfl
@[go_sem] theorem tfld49_0 : tfld Tryz.prog 49 0 = some 0 := Eq.trans (by kernel_rfl) rfl
@[go_sem] theorem tfld49_1 : tfld Tryz.prog 49 1 = some 1 := Eq.trans (by kernel_rfl) rfl
@[go_sem] theorem tfld49_2 : tfld Tryz.prog 49 2 = some 2 := Eq.trans (by kernel_rfl) rfl
@[go_sem] theorem tfld49_3 : tfld Tryz.prog 49 3 = some 3 := Eq.trans (by kernel_rfl) rfl
@[go_sem] theorem stood49 : Tryz.prog.stoodInHeld 49 = false := Eq.trans (by kernel_rfl) rfl
@[go_sem] theorem tpl49 : tpl Tryz.prog 49 = some (plL [(0, 1), (1, 1), (2, 1), (3, 1)]) := Eq.trans (by kernel_rfl) rfl
@[go_sem] theorem aeq49 (d : Nat) (a b : List PV) : aeqD Tryz.prog d 49 (Tryz.prog.underlying 49) (.agg a) (.agg b) = oand (eqP (aeqT Tryz.prog d 3) (apart Tryz.prog 3 a 0) (apart Tryz.prog 3 b 0)) (oand (eqP (aeqT Tryz.prog d 3) (apart Tryz.prog 3 a 1) (apart Tryz.prog 3 b 1)) (oand (eqP (aeqT Tryz.prog d 3) (apart Tryz.prog 3 a 2) (apart Tryz.prog 3 b 2)) (oand (eqP (aeqT Tryz.prog d 3) (apart Tryz.prog 3 a 3) (apart Tryz.prog 3 b 3)) (some true)))) := by rw [Tryz.underlying49, aeqD_struct stood49]; simp [aeqF_cons, aeqF_nil]
@[go_sem] theorem eqg49 : Tryz.prog.eqGuardType Tryz.prog.depth 49 = false := Eq.trans (by kernel_rfl) rfl
@[go_sem] theorem zcells49 : zcells Tryz.prog 49 = some [.int .i64 0, .int .i64 0, .int .i64 0, .int .i64 0] := Eq.trans (by kernel_rfl) rfl
@[go_sem] theorem tsz55 : tsz Tryz.prog 55 = some 2 := Eq.trans (by kernel_rfl) rfl
@[go_sem] theorem tagg55 : tagg Tryz.prog 55 = some true := Eq.trans (by kernel_rfl) rfl
@[go_sem] theorem tfld55_0 : tfld Tryz.prog 55 0 = some 0 := Eq.trans (by kernel_rfl) rfl
@[go_sem] theorem tfld55_1 : tfld Tryz.prog 55 1 = some 1 := Eq.trans (by kernel_rfl) rfl
@[go_sem] theorem stood55 : Tryz.prog.stoodInHeld 55 = false := Eq.trans (by kernel_rfl) rfl
@[go_sem] theorem tpl55 : tpl Tryz.prog 55 = some (plL [(0, 1), (1, 1)]) := Eq.trans (by kernel_rfl) rfl
@[go_sem] theorem aeq55 (d : Nat) (a b : List PV) : aeqD Tryz.prog d 55 (Tryz.prog.underlying 55) (.agg a) (.agg b) = oand (eqP (aeqT Tryz.prog d 3) (apart Tryz.prog 3 a 0) (apart Tryz.prog 3 b 0)) (oand (eqP (aeqT Tryz.prog d 3) (apart Tryz.prog 3 a 1) (apart Tryz.prog 3 b 1)) (some true)) := by rw [Tryz.underlying55, aeqD_struct stood55]; simp [aeqF_cons, aeqF_nil]
@[go_sem] theorem eqg55 : Tryz.prog.eqGuardType Tryz.prog.depth 55 = false := Eq.trans (by kernel_rfl) rfl
@[go_sem] theorem zcells55 : zcells Tryz.prog 55 = some [.int .i64 0, .int .i64 0] := Eq.trans (by kernel_rfl) rfl
@[go_sem] theorem tsz57 : tsz Tryz.prog 57 = some 4 := Eq.trans (by kernel_rfl) rfl
@[go_sem] theorem tagg57 : tagg Tryz.prog 57 = some true := Eq.trans (by kernel_rfl) rfl
@[go_sem] theorem tfld57_0 : tfld Tryz.prog 57 0 = some 0 := Eq.trans (by kernel_rfl) rfl
@[go_sem] theorem tfld57_1 : tfld Tryz.prog 57 1 = some 1 := Eq.trans (by kernel_rfl) rfl
@[go_sem] theorem tfld57_2 : tfld Tryz.prog 57 2 = some 2 := Eq.trans (by kernel_rfl) rfl
@[go_sem] theorem tfld57_3 : tfld Tryz.prog 57 3 = some 3 := Eq.trans (by kernel_rfl) rfl
@[go_sem] theorem stood57 : Tryz.prog.stoodInHeld 57 = false := Eq.trans (by kernel_rfl) rfl
@[go_sem] theorem tpl57 : tpl Tryz.prog 57 = some (plL [(0, 1), (1, 1), (2, 1), (3, 1)]) := Eq.trans (by kernel_rfl) rfl
@[go_sem] theorem aeq57 (d : Nat) (a b : List PV) : aeqD Tryz.prog d 57 (Tryz.prog.underlying 57) (.agg a) (.agg b) = oand (eqP (aeqT Tryz.prog d 3) (apart Tryz.prog 3 a 0) (apart Tryz.prog 3 b 0)) (oand (eqP (aeqT Tryz.prog d 3) (apart Tryz.prog 3 a 1) (apart Tryz.prog 3 b 1)) (oand (eqP (aeqT Tryz.prog d 3) (apart Tryz.prog 3 a 2) (apart Tryz.prog 3 b 2)) (oand (eqP (aeqT Tryz.prog d 3) (apart Tryz.prog 3 a 3) (apart Tryz.prog 3 b 3)) (some true)))) := by rw [Tryz.underlying57, aeqD_struct stood57]; simp [aeqF_cons, aeqF_nil]
@[go_sem] theorem eqg57 : Tryz.prog.eqGuardType Tryz.prog.depth 57 = false := Eq.trans (by kernel_rfl) rfl
@[go_sem] theorem zcells57 : zcells Tryz.prog 57 = some [.int .i64 0, .int .i64 0, .int .i64 0, .int .i64 0] := Eq.trans (by kernel_rfl) rfl
@[go_sem] theorem und58 : Tryz.prog.underlying 58 = some (.slice 3) := Eq.trans (by kernel_rfl) rfl
@[go_sem] theorem tsz58 : tsz Tryz.prog 58 = some 1 := Eq.trans (by kernel_rfl) rfl
@[go_sem] theorem tagg58 : tagg Tryz.prog 58 = some false := Eq.trans (by kernel_rfl) rfl
@[go_sem] theorem telt58 : telt Tryz.prog 58 = some (none, 1) := Eq.trans (by kernel_rfl) rfl
@[go_sem] theorem litF58 : litF Tryz.prog 58 = some 1 := Eq.trans (by kernel_rfl) rfl
@[go_sem] theorem appF58 : appF Tryz.prog 58 = some (1, 8) := Eq.trans (by kernel_rfl) rfl
@[go_sem] theorem aapp0_58 (H : List AM.Obj) (u : TypeId) (y : V) : aapp Tryz.prog H 58 u (.p (.list true [])) y = app0 H (some (1, 8)) (asrcB (Tryz.prog.underlying u) H y) := aapp_nil appF58
@[go_sem] theorem aapp1_58 (H : List AM.Obj) (u : TypeId) (o n : Nat) (y : V) : aapp Tryz.prog H 58 u (.sl o 0 n n) y = app1 H (some (1, 8)) (oat H o) o n (asrcB (Tryz.prog.underlying u) H y) := aapp_own appF58
@[go_sem] theorem makeF58 : makeF Tryz.prog 58 = some (1, 8, .int .i64 0) := Eq.trans (by kernel_rfl) rfl
@[go_sem] theorem amk58 (H : List AM.Obj) (fr : List V) (x y : Operand) : amem Tryz.prog (.makeSlice 58 x y) fr H = amakeB (some (1, 8, .int .i64 0)) H (ev fr x) (ev fr y) := amem_makeB makeF58
@[go_sem] theorem zcells58 : zcells Tryz.prog 58 = some [.list true []] := Eq.trans (by kernel_rfl) rfl
@[go_sem] theorem tsz60 : tsz Tryz.prog 60 = some 16 := Eq.trans (by kernel_rfl) rfl
@[go_sem] theorem tagg60 : tagg Tryz.prog 60 = some true := Eq.trans (by kernel_rfl) rfl
@[go_sem] theorem tfld60_0 : tfld Tryz.prog 60 0 = some 0 := Eq.trans (by kernel_rfl) rfl
@[go_sem] theorem tfld60_1 : tfld Tryz.prog 60 1 = some 1 := Eq.trans (by kernel_rfl) rfl
@[go_sem] theorem tfld60_2 : tfld Tryz.prog 60 2 = some 2 := Eq.trans (by kernel_rfl) rfl
@[go_sem] theorem tfld60_3 : tfld Tryz.prog 60 3 = some 6 := Eq.trans (by kernel_rfl) rfl
@[go_sem] theorem tfld60_4 : tfld Tryz.prog 60 4 = some 10 := Eq.trans (by kernel_rfl) rfl
@[go_sem] theorem tfld60_5 : tfld Tryz.prog 60 5 = some 11 := Eq.trans (by kernel_rfl) rfl
@[go_sem] theorem tfld60_6 : tfld Tryz.prog 60 6 = some 12 := Eq.trans (by kernel_rfl) rfl
@[go_sem] theorem tfld60_7 : tfld Tryz.prog 60 7 = some 13 := Eq.trans (by kernel_rfl) rfl
@[go_sem] theorem tfld60_8 : tfld Tryz.prog 60 8 = some 14 := Eq.trans (by kernel_rfl) rfl
@[go_sem] theorem tfld60_9 : tfld Tryz.prog 60 9 = some 15 := Eq.trans (by kernel_rfl) rfl
@[go_sem] theorem stood60 : Tryz.prog.stoodInHeld 60 = false := Eq.trans (by kernel_rfl) rfl
@[go_sem] theorem tpl60 : tpl Tryz.prog 60 = some (plL [(0, 1), (1, 1), (2, 4), (6, 4), (10, 1), (11, 1), (12, 1), (13, 1), (14, 1), (15, 1)]) := Eq.trans (by kernel_rfl) rfl
@[go_sem] theorem aeq60 (d : Nat) (a b : List PV) : aeqD Tryz.prog d 60 (Tryz.prog.underlying 60) (.agg a) (.agg b) = oand (eqP (aeqT Tryz.prog d 9) (apart Tryz.prog 9 a 0) (apart Tryz.prog 9 b 0)) (oand (eqP (aeqT Tryz.prog d 58) (apart Tryz.prog 58 a 1) (apart Tryz.prog 58 b 1)) (oand (eqP (aeqT Tryz.prog d 57) (apart Tryz.prog 57 a 2) (apart Tryz.prog 57 b 2)) (oand (eqP (aeqT Tryz.prog d 57) (apart Tryz.prog 57 a 6) (apart Tryz.prog 57 b 6)) (oand (eqP (aeqT Tryz.prog d 3) (apart Tryz.prog 3 a 10) (apart Tryz.prog 3 b 10)) (oand (eqP (aeqT Tryz.prog d 3) (apart Tryz.prog 3 a 11) (apart Tryz.prog 3 b 11)) (oand (eqP (aeqT Tryz.prog d 3) (apart Tryz.prog 3 a 12) (apart Tryz.prog 3 b 12)) (oand (eqP (aeqT Tryz.prog d 3) (apart Tryz.prog 3 a 13) (apart Tryz.prog 3 b 13)) (oand (eqP (aeqT Tryz.prog d 3) (apart Tryz.prog 3 a 14) (apart Tryz.prog 3 b 14)) (oand (eqP (aeqT Tryz.prog d 4) (apart Tryz.prog 4 a 15) (apart Tryz.prog 4 b 15)) (some true)))))))))) := by rw [Tryz.underlying60, aeqD_struct stood60]; simp [aeqF_cons, aeqF_nil]
@[go_sem] theorem eqg60 : Tryz.prog.eqGuardType Tryz.prog.depth 60 = false := Eq.trans (by kernel_rfl) rfl
@[go_sem] theorem zcells60 : zcells Tryz.prog 60 = some [.str [], .list true [], .int .i64 0, .int .i64 0, .int .i64 0, .int .i64 0, .int .i64 0, .int .i64 0, .int .i64 0, .int .i64 0, .int .i64 0, .int .i64 0, .int .i64 0, .int .i64 0, .int .i64 0, .bool false] := Eq.trans (by kernel_rfl) rfl
@[go_sem] theorem tsz62 : tsz Tryz.prog 62 = some 14 := Eq.trans (by kernel_rfl) rfl
@[go_sem] theorem tagg62 : tagg Tryz.prog 62 = some true := Eq.trans (by kernel_rfl) rfl
@[go_sem] theorem tfld62_0 : tfld Tryz.prog 62 0 = some 0 := Eq.trans (by kernel_rfl) rfl
@[go_sem] theorem tfld62_1 : tfld Tryz.prog 62 1 = some 1 := Eq.trans (by kernel_rfl) rfl
@[go_sem] theorem tfld62_2 : tfld Tryz.prog 62 2 = some 2 := Eq.trans (by kernel_rfl) rfl
@[go_sem] theorem tfld62_3 : tfld Tryz.prog 62 3 = some 3 := Eq.trans (by kernel_rfl) rfl
@[go_sem] theorem tfld62_4 : tfld Tryz.prog 62 4 = some 4 := Eq.trans (by kernel_rfl) rfl
@[go_sem] theorem tfld62_5 : tfld Tryz.prog 62 5 = some 5 := Eq.trans (by kernel_rfl) rfl
@[go_sem] theorem tfld62_6 : tfld Tryz.prog 62 6 = some 6 := Eq.trans (by kernel_rfl) rfl
@[go_sem] theorem tfld62_7 : tfld Tryz.prog 62 7 = some 7 := Eq.trans (by kernel_rfl) rfl
@[go_sem] theorem tfld62_8 : tfld Tryz.prog 62 8 = some 8 := Eq.trans (by kernel_rfl) rfl
@[go_sem] theorem tfld62_9 : tfld Tryz.prog 62 9 = some 9 := Eq.trans (by kernel_rfl) rfl
@[go_sem] theorem tfld62_10 : tfld Tryz.prog 62 10 = some 10 := Eq.trans (by kernel_rfl) rfl
@[go_sem] theorem tfld62_11 : tfld Tryz.prog 62 11 = some 11 := Eq.trans (by kernel_rfl) rfl
@[go_sem] theorem tfld62_12 : tfld Tryz.prog 62 12 = some 12 := Eq.trans (by kernel_rfl) rfl
@[go_sem] theorem tfld62_13 : tfld Tryz.prog 62 13 = some 13 := Eq.trans (by kernel_rfl) rfl
@[go_sem] theorem stood62 : Tryz.prog.stoodInHeld 62 = false := Eq.trans (by kernel_rfl) rfl
@[go_sem] theorem tpl62 : tpl Tryz.prog 62 = some (plL [(0, 1), (1, 1), (2, 1), (3, 1), (4, 1), (5, 1), (6, 1), (7, 1), (8, 1), (9, 1), (10, 1), (11, 1), (12, 1), (13, 1)]) := Eq.trans (by kernel_rfl) rfl
@[go_sem] theorem aeq62 (d : Nat) (a b : List PV) : aeqD Tryz.prog d 62 (Tryz.prog.underlying 62) (.agg a) (.agg b) = oand (eqP (aeqT Tryz.prog d 9) (apart Tryz.prog 9 a 0) (apart Tryz.prog 9 b 0)) (oand (eqP (aeqT Tryz.prog d 3) (apart Tryz.prog 3 a 1) (apart Tryz.prog 3 b 1)) (oand (eqP (aeqT Tryz.prog d 3) (apart Tryz.prog 3 a 2) (apart Tryz.prog 3 b 2)) (oand (eqP (aeqT Tryz.prog d 3) (apart Tryz.prog 3 a 3) (apart Tryz.prog 3 b 3)) (oand (eqP (aeqT Tryz.prog d 58) (apart Tryz.prog 58 a 4) (apart Tryz.prog 58 b 4)) (oand (eqP (aeqT Tryz.prog d 3) (apart Tryz.prog 3 a 5) (apart Tryz.prog 3 b 5)) (oand (eqP (aeqT Tryz.prog d 3) (apart Tryz.prog 3 a 6) (apart Tryz.prog 3 b 6)) (oand (eqP (aeqT Tryz.prog d 3) (apart Tryz.prog 3 a 7) (apart Tryz.prog 3 b 7)) (oand (eqP (aeqT Tryz.prog d 3) (apart Tryz.prog 3 a 8) (apart Tryz.prog 3 b 8)) (oand (eqP (aeqT Tryz.prog d 3) (apart Tryz.prog 3 a 9) (apart Tryz.prog 3 b 9)) (oand (eqP (aeqT Tryz.prog d 3) (apart Tryz.prog 3 a 10) (apart Tryz.prog 3 b 10)) (oand (eqP (aeqT Tryz.prog d 3) (apart Tryz.prog 3 a 11) (apart Tryz.prog 3 b 11)) (oand (eqP (aeqT Tryz.prog d 3) (apart Tryz.prog 3 a 12) (apart Tryz.prog 3 b 12)) (oand (eqP (aeqT Tryz.prog d 3) (apart Tryz.prog 3 a 13) (apart Tryz.prog 3 b 13)) (some true)))))))))))))) := by rw [Tryz.underlying62, aeqD_struct stood62]; simp [aeqF_cons, aeqF_nil]
@[go_sem] theorem eqg62 : Tryz.prog.eqGuardType Tryz.prog.depth 62 = false := Eq.trans (by kernel_rfl) rfl
@[go_sem] theorem zcells62 : zcells Tryz.prog 62 = some [.str [], .int .i64 0, .int .i64 0, .int .i64 0, .list true [], .int .i64 0, .int .i64 0, .int .i64 0, .int .i64 0, .int .i64 0, .int .i64 0, .int .i64 0, .int .i64 0, .int .i64 0] := Eq.trans (by kernel_rfl) rfl
@[go_sem] theorem tsz81 : tsz Tryz.prog 81 = some 2 := Eq.trans (by kernel_rfl) rfl
@[go_sem] theorem tagg81 : tagg Tryz.prog 81 = some true := Eq.trans (by kernel_rfl) rfl
@[go_sem] theorem tfld81_0 : tfld Tryz.prog 81 0 = some 0 := Eq.trans (by kernel_rfl) rfl
@[go_sem] theorem tfld81_1 : tfld Tryz.prog 81 1 = some 1 := Eq.trans (by kernel_rfl) rfl
@[go_sem] theorem stood81 : Tryz.prog.stoodInHeld 81 = false := Eq.trans (by kernel_rfl) rfl
@[go_sem] theorem tpl81 : tpl Tryz.prog 81 = some (plL [(0, 1), (1, 1)]) := Eq.trans (by kernel_rfl) rfl
@[go_sem] theorem aeq81 (d : Nat) (a b : List PV) : aeqD Tryz.prog d 81 (Tryz.prog.underlying 81) (.agg a) (.agg b) = oand (eqP (aeqT Tryz.prog d 3) (apart Tryz.prog 3 a 0) (apart Tryz.prog 3 b 0)) (oand (eqP (aeqT Tryz.prog d 4) (apart Tryz.prog 4 a 1) (apart Tryz.prog 4 b 1)) (some true)) := by rw [Tryz.underlying81, aeqD_struct stood81]; simp [aeqF_cons, aeqF_nil]
@[go_sem] theorem eqg81 : Tryz.prog.eqGuardType Tryz.prog.depth 81 = false := Eq.trans (by kernel_rfl) rfl
@[go_sem] theorem zcells81 : zcells Tryz.prog 81 = some [.int .i64 0, .bool false] := Eq.trans (by kernel_rfl) rfl
@[go_sem] theorem und85 : Tryz.prog.underlying 85 = some (.array 2 3) := Eq.trans (by kernel_rfl) rfl
@[go_sem] theorem tsz85 : tsz Tryz.prog 85 = some 2 := Eq.trans (by kernel_rfl) rfl
@[go_sem] theorem tagg85 : tagg Tryz.prog 85 = some true := Eq.trans (by kernel_rfl) rfl
@[go_sem] theorem telt85 : telt Tryz.prog 85 = some ((some 2), 1) := Eq.trans (by kernel_rfl) rfl
@[go_sem] theorem tpl85 : tpl Tryz.prog 85 = some (plA 1) := Eq.trans (by kernel_rfl) rfl
@[go_sem] theorem aeq85 (d : Nat) (a b : List PV) : aeqD Tryz.prog d 85 (some (.array 2 3)) (.agg a) (.agg b) = aeqA (aeqT Tryz.prog d 3) Tryz.prog 3 1 2 0 a b := aeqD_array tsz3
@[go_sem] theorem eqg85 : Tryz.prog.eqGuardType Tryz.prog.depth 85 = false := Eq.trans (by kernel_rfl) rfl
@[go_sem] theorem zcells85 : zcells Tryz.prog 85 = some [.int .i64 0, .int .i64 0] := Eq.trans (by kernel_rfl) rfl
@[go_sem] theorem tsz94 : tsz Tryz.prog 94 = some 2 := Eq.trans (by kernel_rfl) rfl
@[go_sem] theorem tagg94 : tagg Tryz.prog 94 = some true := Eq.trans (by kernel_rfl) rfl
@[go_sem] theorem tfld94_0 : tfld Tryz.prog 94 0 = some 0 := Eq.trans (by kernel_rfl) rfl
@[go_sem] theorem tfld94_1 : tfld Tryz.prog 94 1 = some 1 := Eq.trans (by kernel_rfl) rfl
@[go_sem] theorem stood94 : Tryz.prog.stoodInHeld 94 = false := Eq.trans (by kernel_rfl) rfl
@[go_sem] theorem tpl94 : tpl Tryz.prog 94 = some (plL [(0, 1), (1, 1)]) := Eq.trans (by kernel_rfl) rfl
@[go_sem] theorem aeq94 (d : Nat) (a b : List PV) : aeqD Tryz.prog d 94 (Tryz.prog.underlying 94) (.agg a) (.agg b) = oand (eqP (aeqT Tryz.prog d 37) (apart Tryz.prog 37 a 0) (apart Tryz.prog 37 b 0)) (oand (eqP (aeqT Tryz.prog d 9) (apart Tryz.prog 9 a 1) (apart Tryz.prog 9 b 1)) (some true)) := by rw [Tryz.underlying94, aeqD_struct stood94]; simp [aeqF_cons, aeqF_nil]
@[go_sem] theorem eqg94 : Tryz.prog.eqGuardType Tryz.prog.depth 94 = false := Eq.trans (by kernel_rfl) rfl
@[go_sem] theorem zcells94 : zcells Tryz.prog 94 = some [.int .i64 0, .str []] := Eq.trans (by kernel_rfl) rfl
@[go_sem] theorem und97 : Tryz.prog.underlying 97 = some (.slice 37) := Eq.trans (by kernel_rfl) rfl
@[go_sem] theorem tsz97 : tsz Tryz.prog 97 = some 1 := Eq.trans (by kernel_rfl) rfl
@[go_sem] theorem tagg97 : tagg Tryz.prog 97 = some false := Eq.trans (by kernel_rfl) rfl
@[go_sem] theorem telt97 : telt Tryz.prog 97 = some (none, 1) := Eq.trans (by kernel_rfl) rfl
@[go_sem] theorem litF97 : litF Tryz.prog 97 = some 1 := Eq.trans (by kernel_rfl) rfl
@[go_sem] theorem appF97 : appF Tryz.prog 97 = some (1, 8) := Eq.trans (by kernel_rfl) rfl
@[go_sem] theorem aapp0_97 (H : List AM.Obj) (u : TypeId) (y : V) : aapp Tryz.prog H 97 u (.p (.list true [])) y = app0 H (some (1, 8)) (asrcB (Tryz.prog.underlying u) H y) := aapp_nil appF97
@[go_sem] theorem aapp1_97 (H : List AM.Obj) (u : TypeId) (o n : Nat) (y : V) : aapp Tryz.prog H 97 u (.sl o 0 n n) y = app1 H (some (1, 8)) (oat H o) o n (asrcB (Tryz.prog.underlying u) H y) := aapp_own appF97
@[go_sem] theorem makeF97 : makeF Tryz.prog 97 = some (1, 8, .int .i64 0) := Eq.trans (by kernel_rfl) rfl
@[go_sem] theorem amk97 (H : List AM.Obj) (fr : List V) (x y : Operand) : amem Tryz.prog (.makeSlice 97 x y) fr H = amakeB (some (1, 8, .int .i64 0)) H (ev fr x) (ev fr y) := amem_makeB makeF97
@[go_sem] theorem zcells97 : zcells Tryz.prog 97 = some [.list true []] := Eq.trans (by kernel_rfl) rfl
@[go_sem] theorem und107 : Tryz.prog.underlying 107 = some (.slice 58) := Eq.trans (by kernel_rfl) rfl
@[go_sem] theorem tsz107 : tsz Tryz.prog 107 = some 1 := Eq.trans (by kernel_rfl) rfl
@[go_sem] theorem tagg107 : tagg Tryz.prog 107 = some false := Eq.trans (by kernel_rfl) rfl
@[go_sem] theorem telt107 : telt Tryz.prog 107 = some (none, 1) := Eq.trans (by kernel_rfl) rfl
@[go_sem] theorem litF107 : litF Tryz.prog 107 = some 1 := Eq.trans (by kernel_rfl) rfl
@[go_sem] theorem appF107 : appF Tryz.prog 107 = some (1, 24) := Eq.trans (by kernel_rfl) rfl
@[go_sem] theorem aapp0_107 (H : List AM.Obj) (u : TypeId) (y : V) : aapp Tryz.prog H 107 u (.p (.list true [])) y = app0 H (some (1, 24)) (asrcB (Tryz.prog.underlying u) H y) := aapp_nil appF107
@[go_sem] theorem aapp1_107 (H : List AM.Obj) (u : TypeId) (o n : Nat) (y : V) : aapp Tryz.prog H 107 u (.sl o 0 n n) y = app1 H (some (1, 24)) (oat H o) o n (asrcB (Tryz.prog.underlying u) H y) := aapp_own appF107
@[go_sem] theorem makeF107 : makeF Tryz.prog 107 = some (1, 24, .list true []) := Eq.trans (by kernel_rfl) rfl
@[go_sem] theorem amk107 (H : List AM.Obj) (fr : List V) (x y : Operand) : amem Tryz.prog (.makeSlice 107 x y) fr H = amakeB (some (1, 24, .list true [])) H (ev fr x) (ev fr y) := amem_makeB makeF107
@[go_sem] theorem zcells107 : zcells Tryz.prog 107 = some [.list true []] := Eq.trans (by kernel_rfl) rfl
@[go_sem] theorem und119 : Tryz.prog.underlying 119 = some (.int .u64) := Eq.trans (by kernel_rfl) rfl
@[go_sem] theorem tsz119 : tsz Tryz.prog 119 = some 1 := Eq.trans (by kernel_rfl) rfl
@[go_sem] theorem tagg119 : tagg Tryz.prog 119 = some false := Eq.trans (by kernel_rfl) rfl
@[go_sem] theorem zcells119 : zcells Tryz.prog 119 = some [.int .u64 0] := Eq.trans (by kernel_rfl) rfl
@[go_sem] theorem und123 : Tryz.prog.underlying 123 = some (.slice 128) := Eq.trans (by kernel_rfl) rfl
@[go_sem] theorem tsz123 : tsz Tryz.prog 123 = some 1 := Eq.trans (by kernel_rfl) rfl
@[go_sem] theorem tagg123 : tagg Tryz.prog 123 = some false := Eq.trans (by kernel_rfl) rfl
@[go_sem] theorem telt123 : telt Tryz.prog 123 = some (none, 2) := Eq.trans (by kernel_rfl) rfl
@[go_sem] theorem litF123 : litF Tryz.prog 123 = some 2 := Eq.trans (by kernel_rfl) rfl
@[go_sem] theorem appF123 : appF Tryz.prog 123 = some (2, 16) := Eq.trans (by kernel_rfl) rfl
@[go_sem] theorem aapp0_123 (H : List AM.Obj) (u : TypeId) (y : V) : aapp Tryz.prog H 123 u (.p (.list true [])) y = app0 H (some (2, 16)) (asrcB (Tryz.prog.underlying u) H y) := aapp_nil appF123
@[go_sem] theorem aapp1_123 (H : List AM.Obj) (u : TypeId) (o n : Nat) (y : V) : aapp Tryz.prog H 123 u (.sl o 0 n n) y = app1 H (some (2, 16)) (oat H o) o n (asrcB (Tryz.prog.underlying u) H y) := aapp_own appF123
@[go_sem] theorem makeF123 : makeF Tryz.prog 123 = some (2, 16, .agg [.int .i64 0, .int .i64 0]) := Eq.trans (by kernel_rfl) rfl
@[go_sem] theorem amk123 (H : List AM.Obj) (fr : List V) (x y : Operand) : amem Tryz.prog (.makeSlice 123 x y) fr H = amakeB (some (2, 16, .agg [.int .i64 0, .int .i64 0])) H (ev fr x) (ev fr y) := amem_makeB makeF123
@[go_sem] theorem zcells123 : zcells Tryz.prog 123 = some [.list true []] := Eq.trans (by kernel_rfl) rfl
@[go_sem] theorem tsz125 : tsz Tryz.prog 125 = some 6 := Eq.trans (by kernel_rfl) rfl
@[go_sem] theorem tagg125 : tagg Tryz.prog 125 = some true := Eq.trans (by kernel_rfl) rfl
@[go_sem] theorem tfld125_0 : tfld Tryz.prog 125 0 = some 0 := Eq.trans (by kernel_rfl) rfl
@[go_sem] theorem tfld125_1 : tfld Tryz.prog 125 1 = some 1 := Eq.trans (by kernel_rfl) rfl
@[go_sem] theorem tfld125_2 : tfld Tryz.prog 125 2 = some 2 := Eq.trans (by kernel_rfl) rfl
@[go_sem] theorem tfld125_3 : tfld Tryz.prog 125 3 = some 3 := Eq.trans (by kernel_rfl) rfl
@[go_sem] theorem tfld125_4 : tfld Tryz.prog 125 4 = some 4 := Eq.trans (by kernel_rfl) rfl
@[go_sem] theorem tfld125_5 : tfld Tryz.prog 125 5 = some 5 := Eq.trans (by kernel_rfl) rfl
@[go_sem] theorem stood125 : Tryz.prog.stoodInHeld 125 = false := Eq.trans (by kernel_rfl) rfl
@[go_sem] theorem tpl125 : tpl Tryz.prog 125 = some (plL [(0, 1), (1, 1), (2, 1), (3, 1), (4, 1), (5, 1)]) := Eq.trans (by kernel_rfl) rfl
@[go_sem] theorem aeq125 (d : Nat) (a b : List PV) : aeqD Tryz.prog d 125 (Tryz.prog.underlying 125) (.agg a) (.agg b) = oand (eqP (aeqT Tryz.prog d 3) (apart Tryz.prog 3 a 0) (apart Tryz.prog 3 b 0)) (oand (eqP (aeqT Tryz.prog d 3) (apart Tryz.prog 3 a 1) (apart Tryz.prog 3 b 1)) (oand (eqP (aeqT Tryz.prog d 3) (apart Tryz.prog 3 a 2) (apart Tryz.prog 3 b 2)) (oand (eqP (aeqT Tryz.prog d 3) (apart Tryz.prog 3 a 3) (apart Tryz.prog 3 b 3)) (oand (eqP (aeqT Tryz.prog d 123) (apart Tryz.prog 123 a 4) (apart Tryz.prog 123 b 4)) (oand (eqP (aeqT Tryz.prog d 123) (apart Tryz.prog 123 a 5) (apart Tryz.prog 123 b 5)) (some true)))))) := by rw [Tryz.underlying125, aeqD_struct stood125]; simp [aeqF_cons, aeqF_nil]
@[go_sem] theorem eqg125 : Tryz.prog.eqGuardType Tryz.prog.depth 125 = false := Eq.trans (by kernel_rfl) rfl
@[go_sem] theorem zcells125 : zcells Tryz.prog 125 = some [.int .i64 0, .int .i64 0, .int .i64 0, .int .i64 0, .list true [], .list true []] := Eq.trans (by kernel_rfl) rfl
@[go_sem] theorem tsz128 : tsz Tryz.prog 128 = some 2 := Eq.trans (by kernel_rfl) rfl
@[go_sem] theorem tagg128 : tagg Tryz.prog 128 = some true := Eq.trans (by kernel_rfl) rfl
@[go_sem] theorem tfld128_0 : tfld Tryz.prog 128 0 = some 0 := Eq.trans (by kernel_rfl) rfl
@[go_sem] theorem tfld128_1 : tfld Tryz.prog 128 1 = some 1 := Eq.trans (by kernel_rfl) rfl
@[go_sem] theorem stood128 : Tryz.prog.stoodInHeld 128 = false := Eq.trans (by kernel_rfl) rfl
@[go_sem] theorem tpl128 : tpl Tryz.prog 128 = some (plL [(0, 1), (1, 1)]) := Eq.trans (by kernel_rfl) rfl
@[go_sem] theorem aeq128 (d : Nat) (a b : List PV) : aeqD Tryz.prog d 128 (Tryz.prog.underlying 128) (.agg a) (.agg b) = oand (eqP (aeqT Tryz.prog d 3) (apart Tryz.prog 3 a 0) (apart Tryz.prog 3 b 0)) (oand (eqP (aeqT Tryz.prog d 3) (apart Tryz.prog 3 a 1) (apart Tryz.prog 3 b 1)) (some true)) := by rw [Tryz.underlying128, aeqD_struct stood128]; simp [aeqF_cons, aeqF_nil]
@[go_sem] theorem eqg128 : Tryz.prog.eqGuardType Tryz.prog.depth 128 = false := Eq.trans (by kernel_rfl) rfl
@[go_sem] theorem zcells128 : zcells Tryz.prog 128 = some [.int .i64 0, .int .i64 0] := Eq.trans (by kernel_rfl) rfl
@[go_sem] theorem und132 : Tryz.prog.underlying 132 = some (.slice 5) := Eq.trans (by kernel_rfl) rfl
@[go_sem] theorem tsz132 : tsz Tryz.prog 132 = some 1 := Eq.trans (by kernel_rfl) rfl
@[go_sem] theorem tagg132 : tagg Tryz.prog 132 = some false := Eq.trans (by kernel_rfl) rfl
@[go_sem] theorem telt132 : telt Tryz.prog 132 = some (none, 1) := Eq.trans (by kernel_rfl) rfl
@[go_sem] theorem litF132 : litF Tryz.prog 132 = some 1 := Eq.trans (by kernel_rfl) rfl
@[go_sem] theorem appF132 : appF Tryz.prog 132 = some (1, 1) := Eq.trans (by kernel_rfl) rfl
@[go_sem] theorem aapp0_132 (H : List AM.Obj) (u : TypeId) (y : V) : aapp Tryz.prog H 132 u (.p (.list true [])) y = app0 H (some (1, 1)) (asrcB (Tryz.prog.underlying u) H y) := aapp_nil appF132
@[go_sem] theorem aapp1_132 (H : List AM.Obj) (u : TypeId) (o n : Nat) (y : V) : aapp Tryz.prog H 132 u (.sl o 0 n n) y = app1 H (some (1, 1)) (oat H o) o n (asrcB (Tryz.prog.underlying u) H y) := aapp_own appF132
@[go_sem] theorem makeF132 : makeF Tryz.prog 132 = some (1, 1, .int .u8 0) := Eq.trans (by kernel_rfl) rfl
@[go_sem] theorem amk132 (H : List AM.Obj) (fr : List V) (x y : Operand) : amem Tryz.prog (.makeSlice 132 x y) fr H = amakeB (some (1, 1, .int .u8 0)) H (ev fr x) (ev fr y) := amem_makeB makeF132
@[go_sem] theorem zcells132 : zcells Tryz.prog 132 = some [.list true []] := Eq.trans (by kernel_rfl) rfl
@[go_sem] theorem und144 : Tryz.prog.underlying 144 = some (.int .i64) := Eq.trans (by kernel_rfl) rfl
@[go_sem] theorem tsz144 : tsz Tryz.prog 144 = some 1 := Eq.trans (by kernel_rfl) rfl
@[go_sem] theorem tagg144 : tagg Tryz.prog 144 = some false := Eq.trans (by kernel_rfl) rfl
@[go_sem] theorem zcells144 : zcells Tryz.prog 144 = some [.int .i64 0] := Eq.trans (by kernel_rfl) rfl
@[go_sem] theorem und152 : Tryz.prog.underlying 152 = some (.int .u32) := Eq.trans (by kernel_rfl) rfl
@[go_sem] theorem tsz152 : tsz Tryz.prog 152 = some 1 := Eq.trans (by kernel_rfl) rfl
@[go_sem] theorem tagg152 : tagg Tryz.prog 152 = some false := Eq.trans (by kernel_rfl) rfl
@[go_sem] theorem zcells152 : zcells Tryz.prog 152 = some [.int .u32 0] := Eq.trans (by kernel_rfl) rfl
@[go_sem] theorem und154 : Tryz.prog.underlying 154 = some (.int .u64) := Eq.trans (by kernel_rfl) rfl
@[go_sem] theorem tsz154 : tsz Tryz.prog 154 = some 1 := Eq.trans (by kernel_rfl) rfl
@[go_sem] theorem tagg154 : tagg Tryz.prog 154 = some false := Eq.trans (by kernel_rfl) rfl
@[go_sem] theorem zcells154 : zcells Tryz.prog 154 = some [.int .u64 0] := Eq.trans (by kernel_rfl) rfl
@[go_sem] theorem tsz159 : tsz Tryz.prog 159 = some 4 := Eq.trans (by kernel_rfl) rfl
@[go_sem] theorem tagg159 : tagg Tryz.prog 159 = some true := Eq.trans (by kernel_rfl) rfl
@[go_sem] theorem tfld159_0 : tfld Tryz.prog 159 0 = some 0 := Eq.trans (by kernel_rfl) rfl
@[go_sem] theorem tfld159_1 : tfld Tryz.prog 159 1 = some 1 := Eq.trans (by kernel_rfl) rfl
@[go_sem] theorem tfld159_2 : tfld Tryz.prog 159 2 = some 2 := Eq.trans (by kernel_rfl) rfl
@[go_sem] theorem tfld159_3 : tfld Tryz.prog 159 3 = some 3 := Eq.trans (by kernel_rfl) rfl
@[go_sem] theorem stood159 : Tryz.prog.stoodInHeld 159 = false := Eq.trans (by kernel_rfl) rfl
@[go_sem] theorem tpl159 : tpl Tryz.prog 159 = some (plL [(0, 1), (1, 1), (2, 1), (3, 1)]) := Eq.trans (by kernel_rfl) rfl
@[go_sem] theorem aeq159 (d : Nat) (a b : List PV) : aeqD Tryz.prog d 159 (Tryz.prog.underlying 159) (.agg a) (.agg b) = oand (eqP (aeqT Tryz.prog d 3) (apart Tryz.prog 3 a 0) (apart Tryz.prog 3 b 0)) (oand (eqP (aeqT Tryz.prog d 3) (apart Tryz.prog 3 a 1) (apart Tryz.prog 3 b 1)) (oand (eqP (aeqT Tryz.prog d 3) (apart Tryz.prog 3 a 2) (apart Tryz.prog 3 b 2)) (oand (eqP (aeqT Tryz.prog d 3) (apart Tryz.prog 3 a 3) (apart Tryz.prog 3 b 3)) (some true)))) := by rw [Tryz.underlying159, aeqD_struct stood159]; simp [aeqF_cons, aeqF_nil]
@[go_sem] theorem eqg159 : Tryz.prog.eqGuardType Tryz.prog.depth 159 = false := Eq.trans (by kernel_rfl) rfl
@[go_sem] theorem zcells159 : zcells Tryz.prog 159 = some [.int .i64 0, .int .i64 0, .int .i64 0, .int .i64 0] := Eq.trans (by kernel_rfl) rfl
@[go_sem] theorem tsz164 : tsz Tryz.prog 164 = some 4 := Eq.trans (by kernel_rfl) rfl
@[go_sem] theorem tagg164 : tagg Tryz.prog 164 = some true := Eq.trans (by kernel_rfl) rfl
@[go_sem] theorem tfld164_0 : tfld Tryz.prog 164 0 = some 0 := Eq.trans (by kernel_rfl) rfl
@[go_sem] theorem tfld164_1 : tfld Tryz.prog 164 1 = some 1 := Eq.trans (by kernel_rfl) rfl
@[go_sem] theorem tfld164_2 : tfld Tryz.prog 164 2 = some 2 := Eq.trans (by kernel_rfl) rfl
@[go_sem] theorem tfld164_3 : tfld Tryz.prog 164 3 = some 3 := Eq.trans (by kernel_rfl) rfl
@[go_sem] theorem stood164 : Tryz.prog.stoodInHeld 164 = false := Eq.trans (by kernel_rfl) rfl
@[go_sem] theorem tpl164 : tpl Tryz.prog 164 = some (plL [(0, 1), (1, 1), (2, 1), (3, 1)]) := Eq.trans (by kernel_rfl) rfl
@[go_sem] theorem aeq164 (d : Nat) (a b : List PV) : aeqD Tryz.prog d 164 (Tryz.prog.underlying 164) (.agg a) (.agg b) = oand (eqP (aeqT Tryz.prog d 3) (apart Tryz.prog 3 a 0) (apart Tryz.prog 3 b 0)) (oand (eqP (aeqT Tryz.prog d 3) (apart Tryz.prog 3 a 1) (apart Tryz.prog 3 b 1)) (oand (eqP (aeqT Tryz.prog d 3) (apart Tryz.prog 3 a 2) (apart Tryz.prog 3 b 2)) (oand (eqP (aeqT Tryz.prog d 4) (apart Tryz.prog 4 a 3) (apart Tryz.prog 4 b 3)) (some true)))) := by rw [Tryz.underlying164, aeqD_struct stood164]; simp [aeqF_cons, aeqF_nil]
@[go_sem] theorem eqg164 : Tryz.prog.eqGuardType Tryz.prog.depth 164 = false := Eq.trans (by kernel_rfl) rfl
@[go_sem] theorem zcells164 : zcells Tryz.prog 164 = some [.int .i64 0, .int .i64 0, .int .i64 0, .bool false] := Eq.trans (by kernel_rfl) rfl
@[go_sem] theorem und165 : Tryz.prog.underlying 165 = some (.int .u64) := Eq.trans (by kernel_rfl) rfl
@[go_sem] theorem tsz165 : tsz Tryz.prog 165 = some 1 := Eq.trans (by kernel_rfl) rfl
@[go_sem] theorem tagg165 : tagg Tryz.prog 165 = some false := Eq.trans (by kernel_rfl) rfl
@[go_sem] theorem zcells165 : zcells Tryz.prog 165 = some [.int .u64 0] := Eq.trans (by kernel_rfl) rfl
theorem isF3 : IsFun Tryz.prog 3 := fun args w => Tryz.call3 args w
theorem isF4 : IsFun Tryz.prog 4 := fun args w => Tryz.call4 args w
theorem isF5 : IsFun Tryz.prog 5 := fun args w => Tryz.call5 args w
theorem isF6 : IsFun Tryz.prog 6 := fun args w => Tryz.call6 args w
theorem isF7 : IsFun Tryz.prog 7 := fun args w => Tryz.call7 args w
theorem isF8 : IsFun Tryz.prog 8 := fun args w => Tryz.call8 args w
theorem isF9 : IsFun Tryz.prog 9 := fun args w => Tryz.call9 args w
theorem isF10 : IsFun Tryz.prog 10 := fun args w => Tryz.call10 args w
theorem isF11 : IsFun Tryz.prog 11 := fun args w => Tryz.call11 args w
theorem isF12 : IsFun Tryz.prog 12 := fun args w => Tryz.call12 args w
theorem isF13 : IsFun Tryz.prog 13 := fun args w => Tryz.call13 args w
theorem isF14 : IsFun Tryz.prog 14 := fun args w => Tryz.call14 args w
theorem isF15 : IsFun Tryz.prog 15 := fun args w => Tryz.call15 args w
theorem isF16 : IsFun Tryz.prog 16 := fun args w => Tryz.call16 args w
theorem isF17 : IsFun Tryz.prog 17 := fun args w => Tryz.call17 args w
theorem isF18 : IsFun Tryz.prog 18 := fun args w => Tryz.call18 args w
theorem isF19 : IsFun Tryz.prog 19 := fun args w => Tryz.call19 args w
theorem isF20 : IsFun Tryz.prog 20 := fun args w => Tryz.call20 args w
theorem isF21 : IsFun Tryz.prog 21 := fun args w => Tryz.call21 args w
theorem isF22 : IsFun Tryz.prog 22 := fun args w => Tryz.call22 args w
theorem isF23 : IsFun Tryz.prog 23 := fun args w => Tryz.call23 args w
theorem isF24 : IsFun Tryz.prog 24 := fun args w => Tryz.call24 args w
theorem isF25 : IsFun Tryz.prog 25 := fun args w => Tryz.call25 args w
theorem isF26 : IsFun Tryz.prog 26 := fun args w => Tryz.call26 args w
theorem isF27 : IsFun Tryz.prog 27 := fun args w => Tryz.call27 args w
theorem isF28 : IsFun Tryz.prog 28 := fun args w => Tryz.call28 args w
theorem isF29 : IsFun Tryz.prog 29 := fun args w => Tryz.call29 args w
theorem isF30 : IsFun Tryz.prog 30 := fun args w => Tryz.call30 args w
theorem isF31 : IsFun Tryz.prog 31 := fun args w => Tryz.call31 args w
theorem isF32 : IsFun Tryz.prog 32 := fun args w => Tryz.call32 args w
theorem isF33 : IsFun Tryz.prog 33 := fun args w => Tryz.call33 args w
theorem isF34 : IsFun Tryz.prog 34 := fun args w => Tryz.call34 args w
theorem isF35 : IsFun Tryz.prog 35 := fun args w => Tryz.call35 args w
theorem isF36 : IsFun Tryz.prog 36 := fun args w => Tryz.call36 args w
theorem isF37 : IsFun Tryz.prog 37 := fun args w => Tryz.call37 args w
theorem isF38 : IsFun Tryz.prog 38 := fun args w => Tryz.call38 args w
theorem isF39 : IsFun Tryz.prog 39 := fun args w => Tryz.call39 args w
theorem isF40 : IsFun Tryz.prog 40 := fun args w => Tryz.call40 args w
theorem isF41 : IsFun Tryz.prog 41 := fun args w => Tryz.call41 args w
theorem isF42 : IsFun Tryz.prog 42 := fun args w => Tryz.call42 args w
theorem isF43 : IsFun Tryz.prog 43 := fun args w => Tryz.call43 args w
theorem isF44 : IsFun Tryz.prog 44 := fun args w => Tryz.call44 args w
theorem isF45 : IsFun Tryz.prog 45 := fun args w => Tryz.call45 args w
theorem isF46 : IsFun Tryz.prog 46 := fun args w => Tryz.call46 args w
theorem isF47 : IsFun Tryz.prog 47 := fun args w => Tryz.call47 args w
theorem isF48 : IsFun Tryz.prog 48 := fun args w => Tryz.call48 args w
theorem isF49 : IsFun Tryz.prog 49 := fun args w => Tryz.call49 args w
theorem isF50 : IsFun Tryz.prog 50 := fun args w => Tryz.call50 args w
theorem isF51 : IsFun Tryz.prog 51 := fun args w => Tryz.call51 args w
theorem isF52 : IsFun Tryz.prog 52 := fun args w => Tryz.call52 args w
theorem isF53 : IsFun Tryz.prog 53 := fun args w => Tryz.call53 args w
theorem isF54 : IsFun Tryz.prog 54 := fun args w => Tryz.call54 args w
theorem isF55 : IsFun Tryz.prog 55 := fun args w => Tryz.call55 args w
theorem isF56 : IsFun Tryz.prog 56 := fun args w => Tryz.call56 args w
theorem isF59 : IsFun Tryz.prog 59 := fun args w => Tryz.call59 args w
theorem isF60 : IsFun Tryz.prog 60 := fun args w => Tryz.call60 args w
theorem isF61 : IsFun Tryz.prog 61 := fun args w => Tryz.call61 args w
theorem isF62 : IsFun Tryz.prog 62 := fun args w => Tryz.call62 args w
theorem isF63 : IsFun Tryz.prog 63 := fun args w => Tryz.call63 args w
theorem isF64 : IsFun Tryz.prog 64 := fun args w => Tryz.call64 args w
theorem isF65 : IsFun Tryz.prog 65 := fun args w => Tryz.call65 args w
theorem isF66 : IsFun Tryz.prog 66 := fun args w => Tryz.call66 args w
theorem isF67 : IsFun Tryz.prog 67 := fun args w => Tryz.call67 args w
theorem isF68 : IsFun Tryz.prog 68 := fun args w => Tryz.call68 args w
theorem isF69 : IsFun Tryz.prog 69 := fun args w => Tryz.call69 args w
theorem isF70 : IsFun Tryz.prog 70 := fun args w => Tryz.call70 args w
theorem isF71 : IsFun Tryz.prog 71 := fun args w => Tryz.call71 args w
theorem isF72 : IsFun Tryz.prog 72 := fun args w => Tryz.call72 args w
theorem isF73 : IsFun Tryz.prog 73 := fun args w => Tryz.call73 args w
theorem isF74 : IsFun Tryz.prog 74 := fun args w => Tryz.call74 args w
theorem isF75 : IsFun Tryz.prog 75 := fun args w => Tryz.call75 args w
theorem isF86 : IsFun Tryz.prog 86 := fun args w => Tryz.call86 args w
theorem isF87 : IsFun Tryz.prog 87 := fun args w => Tryz.call87 args w
theorem isF88 : IsFun Tryz.prog 88 := fun args w => Tryz.call88 args w
theorem isF89 : IsFun Tryz.prog 89 := fun args w => Tryz.call89 args w
theorem isF90 : IsFun Tryz.prog 90 := fun args w => Tryz.call90 args w
theorem isF91 : IsFun Tryz.prog 91 := fun args w => Tryz.call91 args w
theorem isF92 : IsFun Tryz.prog 92 := fun args w => Tryz.call92 args w
theorem isF98 : IsFun Tryz.prog 98 := fun args w => Tryz.call98 args w
theorem isF99 : IsFun Tryz.prog 99 := fun args w => Tryz.call99 args w
theorem isF101 : IsFun Tryz.prog 101 := fun args w => Tryz.call101 args w
theorem isF102 : IsFun Tryz.prog 102 := fun args w => Tryz.call102 args w
theorem isF103 : IsFun Tryz.prog 103 := fun args w => Tryz.call103 args w
theorem isF104 : IsFun Tryz.prog 104 := fun args w => Tryz.call104 args w
theorem isF105 : IsFun Tryz.prog 105 := fun args w => Tryz.call105 args w
theorem mixed : Tryz.prog.follows .mixedOrders = true := by kernel_rfl
end Go.Proofs.YtccjopdlbolnhaaGreat.K
