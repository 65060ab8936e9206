/- Declarations that the closing texts need, part 6: joined by tools/slim.py. -/
import Derived.Test.YtcdoglogglbemaaGreatDoorZ5
import Derived.KernelRfl
namespace Go.Proofs.YtcdoglogglbemaaGreatDoor.K
open Go Go.AM Go.Proofs
@[go_sem] theorem und3 : Tryz.prog.underlying 3 = some (.int .i64) := Eq.trans (by kernel_rfl) rfl
@[go_sem] theorem tsz3 : tsz Tryz.prog 3 = some 1 := Eq.trans (by kernel_rfl) rfl
@[go_sem] theorem tagg3 : tagg Tryz.prog 3 = some false := Eq.trans (by kernel_rfl) rfl
@[go_sem] theorem zcells3 : zcells Tryz.prog 3 = some [.int .i64 0] := Eq.trans (by kernel_rfl) rfl
@[go_sem] theorem und4 : Tryz.prog.underlying 4 = some .bool := Eq.trans (by kernel_rfl) rfl
@[go_sem] theorem tsz4 : tsz Tryz.prog 4 = some 1 := Eq.trans (by kernel_rfl) rfl
@[go_sem] theorem tagg4 : tagg Tryz.prog 4 = some false := Eq.trans (by kernel_rfl) rfl
@[go_sem] theorem und5 : Tryz.prog.underlying 5 = some (.int .u8) := Eq.trans (by kernel_rfl) rfl
@[go_sem] theorem und9 : Tryz.prog.underlying 9 = some .string := Eq.trans (by kernel_rfl) rfl
@[go_sem] theorem tsz9 : tsz Tryz.prog 9 = some 1 := Eq.trans (by kernel_rfl) rfl
@[go_sem] theorem tagg9 : tagg Tryz.prog 9 = some false := Eq.trans (by kernel_rfl) rfl
@[go_sem] theorem und22 : Tryz.prog.underlying 22 = some (.slice 9) := Eq.trans (by kernel_rfl) rfl
@[go_sem] theorem tsz22 : tsz Tryz.prog 22 = some 1 := Eq.trans (by kernel_rfl) rfl
@[go_sem] theorem tagg22 : tagg Tryz.prog 22 = some false := Eq.trans (by kernel_rfl) rfl
@[go_sem] theorem telt22 : telt Tryz.prog 22 = some (none, 1) := Eq.trans (by kernel_rfl) rfl
@[go_sem] theorem litF22 : litF Tryz.prog 22 = some 1 := Eq.trans (by kernel_rfl) rfl
@[go_sem] theorem und23 : Tryz.prog.underlying 23 = some (.slice 136) := Eq.trans (by kernel_rfl) rfl
@[go_sem] theorem tsz23 : tsz Tryz.prog 23 = some 1 := Eq.trans (by kernel_rfl) rfl
@[go_sem] theorem tagg23 : tagg Tryz.prog 23 = some false := Eq.trans (by kernel_rfl) rfl
@[go_sem] theorem telt23 : telt Tryz.prog 23 = some (none, 6) := Eq.trans (by kernel_rfl) rfl
@[go_sem] theorem litF23 : litF Tryz.prog 23 = some 6 := Eq.trans (by kernel_rfl) rfl
@[go_sem] theorem tsz25 : tsz Tryz.prog 25 = some 2 := Eq.trans (by kernel_rfl) rfl
@[go_sem] theorem tagg25 : tagg Tryz.prog 25 = some true := Eq.trans (by kernel_rfl) rfl
@[go_sem] theorem tfld25_0 : tfld Tryz.prog 25 0 = some 0 := Eq.trans (by kernel_rfl) rfl
@[go_sem] theorem tfld25_1 : tfld Tryz.prog 25 1 = some 1 := Eq.trans (by kernel_rfl) rfl
@[go_sem] theorem tpl25 : tpl Tryz.prog 25 = some (plL [(0, 1), (1, 1)]) := Eq.trans (by kernel_rfl) rfl
@[go_sem] theorem zcells25 : zcells Tryz.prog 25 = some [.list true [], .list true []] := Eq.trans (by kernel_rfl) rfl
@[go_sem] theorem und26 : Tryz.prog.underlying 26 = some (.slice 96) := Eq.trans (by kernel_rfl) rfl
@[go_sem] theorem tsz26 : tsz Tryz.prog 26 = some 1 := Eq.trans (by kernel_rfl) rfl
@[go_sem] theorem tagg26 : tagg Tryz.prog 26 = some false := Eq.trans (by kernel_rfl) rfl
@[go_sem] theorem telt26 : telt Tryz.prog 26 = some (none, 14) := Eq.trans (by kernel_rfl) rfl
@[go_sem] theorem litF26 : litF Tryz.prog 26 = some 14 := Eq.trans (by kernel_rfl) rfl
@[go_sem] theorem und27 : Tryz.prog.underlying 27 = some (.slice 100) := Eq.trans (by kernel_rfl) rfl
@[go_sem] theorem tsz27 : tsz Tryz.prog 27 = some 1 := Eq.trans (by kernel_rfl) rfl
@[go_sem] theorem tagg27 : tagg Tryz.prog 27 = some false := Eq.trans (by kernel_rfl) rfl
@[go_sem] theorem telt27 : telt Tryz.prog 27 = some (none, 16) := Eq.trans (by kernel_rfl) rfl
@[go_sem] theorem litF27 : litF Tryz.prog 27 = some 16 := Eq.trans (by kernel_rfl) rfl
@[go_sem] theorem und28 : Tryz.prog.underlying 28 = some (.slice 149) := Eq.trans (by kernel_rfl) rfl
@[go_sem] theorem tsz28 : tsz Tryz.prog 28 = some 1 := Eq.trans (by kernel_rfl) rfl
@[go_sem] theorem tagg28 : tagg Tryz.prog 28 = some false := Eq.trans (by kernel_rfl) rfl
@[go_sem] theorem telt28 : telt Tryz.prog 28 = some (none, 2) := Eq.trans (by kernel_rfl) rfl
@[go_sem] theorem tsz30 : tsz Tryz.prog 30 = some 6 := Eq.trans (by kernel_rfl) rfl
@[go_sem] theorem tagg30 : tagg Tryz.prog 30 = some true := Eq.trans (by kernel_rfl) rfl
@[go_sem] theorem tfld30_0 : tfld Tryz.prog 30 0 = some 0 := Eq.trans (by kernel_rfl) rfl
@[go_sem] theorem tfld30_1 : tfld Tryz.prog 30 1 = some 2 := Eq.trans (by kernel_rfl) rfl
@[go_sem] theorem tfld30_2 : tfld Tryz.prog 30 2 = some 3 := Eq.trans (by kernel_rfl) rfl
@[go_sem] theorem tfld30_3 : tfld Tryz.prog 30 3 = some 4 := Eq.trans (by kernel_rfl) rfl
@[go_sem] theorem tfld30_4 : tfld Tryz.prog 30 4 = some 5 := Eq.trans (by kernel_rfl) rfl
@[go_sem] theorem tpl30 : tpl Tryz.prog 30 = some (plL [(0, 2), (2, 1), (3, 1), (4, 1), (5, 1)]) := Eq.trans (by kernel_rfl) rfl
@[go_sem] theorem zcells30 : zcells Tryz.prog 30 = some [.list true [], .list true [], .list true [], .list true [], .list true [], .list true []] := Eq.trans (by kernel_rfl) rfl
@[go_sem] theorem und31 : Tryz.prog.underlying 31 = some (.slice 44) := Eq.trans (by kernel_rfl) rfl
@[go_sem] theorem tsz31 : tsz Tryz.prog 31 = some 1 := Eq.trans (by kernel_rfl) rfl
@[go_sem] theorem tagg31 : tagg Tryz.prog 31 = some false := Eq.trans (by kernel_rfl) rfl
@[go_sem] theorem telt31 : telt Tryz.prog 31 = some (none, 4) := Eq.trans (by kernel_rfl) rfl
@[go_sem] theorem litF31 : litF Tryz.prog 31 = some 4 := Eq.trans (by kernel_rfl) rfl
@[go_sem] theorem appF31 : appF Tryz.prog 31 = some (4, 64) := Eq.trans (by kernel_rfl) rfl
@[go_sem] theorem aapp1_31 (H : List AM.Obj) (u : TypeId) (o n : Nat) (y : V) : aapp Tryz.prog H 31 u (.sl o 0 n n) y = app1 H (some (4, 64)) (oat H o) o n (asrcB (Tryz.prog.underlying u) H y) := aapp_own appF31
@[go_sem] theorem und32 : Tryz.prog.underlying 32 = some (.slice 3) := Eq.trans (by kernel_rfl) rfl
@[go_sem] theorem tsz32 : tsz Tryz.prog 32 = some 1 := Eq.trans (by kernel_rfl) rfl
@[go_sem] theorem tagg32 : tagg Tryz.prog 32 = some false := Eq.trans (by kernel_rfl) rfl
@[go_sem] theorem telt32 : telt Tryz.prog 32 = some (none, 1) := Eq.trans (by kernel_rfl) rfl
@[go_sem] theorem litF32 : litF Tryz.prog 32 = some 1 := Eq.trans (by kernel_rfl) rfl
@[go_sem] theorem appF32 : appF Tryz.prog 32 = some (1, 8) := Eq.trans (by kernel_rfl) rfl
@[go_sem] theorem aapp1_32 (H : List AM.Obj) (u : TypeId) (o n : Nat) (y : V) : aapp Tryz.prog H 32 u (.sl o 0 n n) y = app1 H (some (1, 8)) (oat H o) o n (asrcB (Tryz.prog.underlying u) H y) := aapp_own appF32
@[go_sem] theorem makeF32 : makeF Tryz.prog 32 = some (1, 8, .int .i64 0) := Eq.trans (by kernel_rfl) rfl
@[go_sem] theorem amk32 (H : List AM.Obj) (fr : List V) (x y : Operand) : amem Tryz.prog (.makeSlice 32 x y) fr H = amakeB (some (1, 8, .int .i64 0)) H (ev fr x) (ev fr y) := amem_makeB makeF32
@[go_sem] theorem zcells32 : zcells Tryz.prog 32 = some [.list true []] := Eq.trans (by kernel_rfl) rfl
@[go_sem] theorem tsz34 : tsz Tryz.prog 34 = some 2 := Eq.trans (by kernel_rfl) rfl
@[go_sem] theorem tagg34 : tagg Tryz.prog 34 = some true := Eq.trans (by kernel_rfl) rfl
@[go_sem] theorem tfld34_0 : tfld Tryz.prog 34 0 = some 0 := Eq.trans (by kernel_rfl) rfl
@[go_sem] theorem tfld34_1 : tfld Tryz.prog 34 1 = some 1 := Eq.trans (by kernel_rfl) rfl
@[go_sem] theorem tpl34 : tpl Tryz.prog 34 = some (plL [(0, 1), (1, 1)]) := Eq.trans (by kernel_rfl) rfl
@[go_sem] theorem zcells34 : zcells Tryz.prog 34 = some [.list true [], .list true []] := Eq.trans (by kernel_rfl) rfl
@[go_sem] theorem tsz37 : tsz Tryz.prog 37 = some 1 := Eq.trans (by kernel_rfl) rfl
@[go_sem] theorem tagg37 : tagg Tryz.prog 37 = some false := Eq.trans (by kernel_rfl) rfl
@[go_sem] theorem und41 : Tryz.prog.underlying 41 = some (.slice 4) := Eq.trans (by kernel_rfl) rfl
@[go_sem] theorem tsz41 : tsz Tryz.prog 41 = some 1 := Eq.trans (by kernel_rfl) rfl
@[go_sem] theorem tagg41 : tagg Tryz.prog 41 = some false := Eq.trans (by kernel_rfl) rfl
@[go_sem] theorem telt41 : telt Tryz.prog 41 = some (none, 1) := Eq.trans (by kernel_rfl) rfl
@[go_sem] theorem litF41 : litF Tryz.prog 41 = some 1 := Eq.trans (by kernel_rfl) rfl
@[go_sem] theorem makeF41 : makeF Tryz.prog 41 = some (1, 1, .bool false) := Eq.trans (by kernel_rfl) rfl
@[go_sem] theorem amk41 (H : List AM.Obj) (fr : List V) (x y : Operand) : amem Tryz.prog (.makeSlice 41 x y) fr H = amakeB (some (1, 1, .bool false)) H (ev fr x) (ev fr y) := amem_makeB makeF41
@[go_sem] theorem und42 : Tryz.prog.underlying 42 = some (.slice 73) := Eq.trans (by kernel_rfl) rfl
@[go_sem] theorem tsz42 : tsz Tryz.prog 42 = some 1 := Eq.trans (by kernel_rfl) rfl
@[go_sem] theorem tagg42 : tagg Tryz.prog 42 = some false := Eq.trans (by kernel_rfl) rfl
@[go_sem] theorem telt42 : telt Tryz.prog 42 = some (none, 2) := Eq.trans (by kernel_rfl) rfl
@[go_sem] theorem litF42 : litF Tryz.prog 42 = some 2 := Eq.trans (by kernel_rfl) rfl
@[go_sem] theorem appF42 : appF Tryz.prog 42 = some (2, 16) := Eq.trans (by kernel_rfl) rfl
@[go_sem] theorem aapp1_42 (H : List AM.Obj) (u : TypeId) (o n : Nat) (y : V) : aapp Tryz.prog H 42 u (.sl o 0 n n) y = app1 H (some (2, 16)) (oat H o) o n (asrcB (Tryz.prog.underlying u) H y) := aapp_own appF42
@[go_sem] theorem tsz44 : tsz Tryz.prog 44 = some 4 := Eq.trans (by kernel_rfl) rfl
@[go_sem] theorem tagg44 : tagg Tryz.prog 44 = some true := Eq.trans (by kernel_rfl) rfl
@[go_sem] theorem tfld44_0 : tfld Tryz.prog 44 0 = some 0 := Eq.trans (by kernel_rfl) rfl
@[go_sem] theorem tfld44_1 : tfld Tryz.prog 44 1 = some 1 := Eq.trans (by kernel_rfl) rfl
@[go_sem] theorem tfld44_2 : tfld Tryz.prog 44 2 = some 2 := Eq.trans (by kernel_rfl) rfl
@[go_sem] theorem tfld44_3 : tfld Tryz.prog 44 3 = some 3 := Eq.trans (by kernel_rfl) rfl
@[go_sem] theorem tpl44 : tpl Tryz.prog 44 = some (plL [(0, 1), (1, 1), (2, 1), (3, 1)]) := Eq.trans (by kernel_rfl) rfl
@[go_sem] theorem zcells44 : zcells Tryz.prog 44 = some [.int .i64 0, .int .i64 0, .list true [], .list true []] := Eq.trans (by kernel_rfl) rfl
@[go_sem] theorem und54 : Tryz.prog.underlying 54 = some (.int .u64) := Eq.trans (by kernel_rfl) rfl
@[go_sem] theorem tsz58 : tsz Tryz.prog 58 = some 1 := Eq.trans (by kernel_rfl) rfl
@[go_sem] theorem tagg58 : tagg Tryz.prog 58 = some false := Eq.trans (by kernel_rfl) rfl
@[go_sem] theorem und64 : Tryz.prog.underlying 64 = some (.slice 183) := Eq.trans (by kernel_rfl) rfl
@[go_sem] theorem telt64 : telt Tryz.prog 64 = some (none, 2) := Eq.trans (by kernel_rfl) rfl
@[go_sem] theorem litF64 : litF Tryz.prog 64 = some 2 := Eq.trans (by kernel_rfl) rfl
@[go_sem] theorem appF64 : appF Tryz.prog 64 = some (2, 24) := Eq.trans (by kernel_rfl) rfl
@[go_sem] theorem aapp0_64 (H : List AM.Obj) (u : TypeId) (y : V) : aapp Tryz.prog H 64 u (.p (.list true [])) y = app0 H (some (2, 24)) (asrcB (Tryz.prog.underlying u) H y) := aapp_nil appF64
@[go_sem] theorem aapp1_64 (H : List AM.Obj) (u : TypeId) (o n : Nat) (y : V) : aapp Tryz.prog H 64 u (.sl o 0 n n) y = app1 H (some (2, 24)) (oat H o) o n (asrcB (Tryz.prog.underlying u) H y) := aapp_own appF64
@[go_sem] theorem tsz73 : tsz Tryz.prog 73 = some 2 := Eq.trans (by kernel_rfl) rfl
@[go_sem] theorem tagg73 : tagg Tryz.prog 73 = some true := Eq.trans (by kernel_rfl) rfl
@[go_sem] theorem tfld73_0 : tfld Tryz.prog 73 0 = some 0 := Eq.trans (by kernel_rfl) rfl
@[go_sem] theorem tfld73_1 : tfld Tryz.prog 73 1 = some 1 := Eq.trans (by kernel_rfl) rfl
@[go_sem] theorem stood73 : Tryz.prog.stoodInHeld 73 = false := Eq.trans (by kernel_rfl) rfl
@[go_sem] theorem tpl73 : tpl Tryz.prog 73 = some (plL [(0, 1), (1, 1)]) := Eq.trans (by kernel_rfl) rfl
@[go_sem] theorem aeq73 (d : Nat) (a b : List PV) : aeqD Tryz.prog d 73 (Tryz.prog.underlying 73) (.agg a) (.agg b) = oand (eqP (aeqT Tryz.prog d 3) (apart Tryz.prog 3 a 0) (apart Tryz.prog 3 b 0)) (oand (eqP (aeqT Tryz.prog d 4) (apart Tryz.prog 4 a 1) (apart Tryz.prog 4 b 1)) (some true)) := by rw [Tryz.underlying73, aeqD_struct stood73]; simp [aeqF_cons, aeqF_nil]
@[go_sem] theorem eqg73 : Tryz.prog.eqGuardType Tryz.prog.depth 73 = false := Eq.trans (by kernel_rfl) rfl
@[go_sem] theorem zcells73 : zcells Tryz.prog 73 = some [.int .i64 0, .bool false] := Eq.trans (by kernel_rfl) rfl
@[go_sem] theorem tsz93 : tsz Tryz.prog 93 = some 1 := Eq.trans (by kernel_rfl) rfl
@[go_sem] theorem tagg93 : tagg Tryz.prog 93 = some false := Eq.trans (by kernel_rfl) rfl
@[go_sem] theorem tsz96 : tsz Tryz.prog 96 = some 14 := Eq.trans (by kernel_rfl) rfl
@[go_sem] theorem tagg96 : tagg Tryz.prog 96 = some true := Eq.trans (by kernel_rfl) rfl
@[go_sem] theorem tfld96_0 : tfld Tryz.prog 96 0 = some 0 := Eq.trans (by kernel_rfl) rfl
@[go_sem] theorem tfld96_1 : tfld Tryz.prog 96 1 = some 1 := Eq.trans (by kernel_rfl) rfl
@[go_sem] theorem tfld96_2 : tfld Tryz.prog 96 2 = some 2 := Eq.trans (by kernel_rfl) rfl
@[go_sem] theorem tfld96_3 : tfld Tryz.prog 96 3 = some 3 := Eq.trans (by kernel_rfl) rfl
@[go_sem] theorem tfld96_4 : tfld Tryz.prog 96 4 = some 4 := Eq.trans (by kernel_rfl) rfl
@[go_sem] theorem tfld96_5 : tfld Tryz.prog 96 5 = some 5 := Eq.trans (by kernel_rfl) rfl
@[go_sem] theorem tfld96_6 : tfld Tryz.prog 96 6 = some 6 := Eq.trans (by kernel_rfl) rfl
@[go_sem] theorem tfld96_7 : tfld Tryz.prog 96 7 = some 7 := Eq.trans (by kernel_rfl) rfl
@[go_sem] theorem tfld96_8 : tfld Tryz.prog 96 8 = some 8 := Eq.trans (by kernel_rfl) rfl
@[go_sem] theorem tfld96_9 : tfld Tryz.prog 96 9 = some 9 := Eq.trans (by kernel_rfl) rfl
@[go_sem] theorem tfld96_10 : tfld Tryz.prog 96 10 = some 10 := Eq.trans (by kernel_rfl) rfl
@[go_sem] theorem tfld96_11 : tfld Tryz.prog 96 11 = some 11 := Eq.trans (by kernel_rfl) rfl
@[go_sem] theorem tfld96_12 : tfld Tryz.prog 96 12 = some 12 := Eq.trans (by kernel_rfl) rfl
@[go_sem] theorem tfld96_13 : tfld Tryz.prog 96 13 = some 13 := Eq.trans (by kernel_rfl) rfl
@[go_sem] theorem tpl96 : tpl Tryz.prog 96 = some (plL [(0, 1), (1, 1), (2, 1), (3, 1), (4, 1), (5, 1), (6, 1), (7, 1), (8, 1), (9, 1), (10, 1), (11, 1), (12, 1), (13, 1)]) := Eq.trans (by kernel_rfl) rfl
@[go_sem] theorem zcells96 : zcells Tryz.prog 96 = some [.str [], .int .i64 0, .int .i64 0, .int .i64 0, .list true [], .int .i64 0, .int .i64 0, .int .i64 0, .int .i64 0, .int .i64 0, .int .i64 0, .int .i64 0, .int .i64 0, .int .i64 0] := Eq.trans (by kernel_rfl) rfl
@[go_sem] theorem tsz98 : tsz Tryz.prog 98 = some 4 := Eq.trans (by kernel_rfl) rfl
@[go_sem] theorem tagg98 : tagg Tryz.prog 98 = some true := Eq.trans (by kernel_rfl) rfl
@[go_sem] theorem tfld98_0 : tfld Tryz.prog 98 0 = some 0 := Eq.trans (by kernel_rfl) rfl
@[go_sem] theorem tfld98_1 : tfld Tryz.prog 98 1 = some 1 := Eq.trans (by kernel_rfl) rfl
@[go_sem] theorem tfld98_2 : tfld Tryz.prog 98 2 = some 2 := Eq.trans (by kernel_rfl) rfl
@[go_sem] theorem tfld98_3 : tfld Tryz.prog 98 3 = some 3 := Eq.trans (by kernel_rfl) rfl
@[go_sem] theorem tpl98 : tpl Tryz.prog 98 = some (plL [(0, 1), (1, 1), (2, 1), (3, 1)]) := Eq.trans (by kernel_rfl) rfl
@[go_sem] theorem zcells98 : zcells Tryz.prog 98 = some [.int .i64 0, .int .i64 0, .int .i64 0, .int .i64 0] := Eq.trans (by kernel_rfl) rfl
@[go_sem] theorem tsz100 : tsz Tryz.prog 100 = some 16 := Eq.trans (by kernel_rfl) rfl
@[go_sem] theorem tagg100 : tagg Tryz.prog 100 = some true := Eq.trans (by kernel_rfl) rfl
@[go_sem] theorem tfld100_0 : tfld Tryz.prog 100 0 = some 0 := Eq.trans (by kernel_rfl) rfl
@[go_sem] theorem tfld100_1 : tfld Tryz.prog 100 1 = some 1 := Eq.trans (by kernel_rfl) rfl
@[go_sem] theorem tfld100_2 : tfld Tryz.prog 100 2 = some 2 := Eq.trans (by kernel_rfl) rfl
@[go_sem] theorem tfld100_3 : tfld Tryz.prog 100 3 = some 6 := Eq.trans (by kernel_rfl) rfl
@[go_sem] theorem tfld100_4 : tfld Tryz.prog 100 4 = some 10 := Eq.trans (by kernel_rfl) rfl
@[go_sem] theorem tfld100_5 : tfld Tryz.prog 100 5 = some 11 := Eq.trans (by kernel_rfl) rfl
@[go_sem] theorem tfld100_6 : tfld Tryz.prog 100 6 = some 12 := Eq.trans (by kernel_rfl) rfl
@[go_sem] theorem tfld100_7 : tfld Tryz.prog 100 7 = some 13 := Eq.trans (by kernel_rfl) rfl
@[go_sem] theorem tfld100_8 : tfld Tryz.prog 100 8 = some 14 := Eq.trans (by kernel_rfl) rfl
@[go_sem] theorem tfld100_9 : tfld Tryz.prog 100 9 = some 15 := Eq.trans (by kernel_rfl) rfl
@[go_sem] theorem tpl100 : tpl Tryz.prog 100 = some (plL [(0, 1), (1, 1), (2, 4), (6, 4), (10, 1), (11, 1), (12, 1), (13, 1), (14, 1), (15, 1)]) := Eq.trans (by kernel_rfl) rfl
@[go_sem] theorem zcells100 : zcells Tryz.prog 100 = some [.str [], .list true [], .int .i64 0, .int .i64 0, .int .i64 0, .int .i64 0, .int .i64 0, .int .i64 0, .int .i64 0, .int .i64 0, .int .i64 0, .int .i64 0, .int .i64 0, .int .i64 0, .int .i64 0, .bool false] := Eq.trans (by kernel_rfl) rfl
@[go_sem] theorem tsz115 : tsz Tryz.prog 115 = some 4 := Eq.trans (by kernel_rfl) rfl
@[go_sem] theorem tagg115 : tagg Tryz.prog 115 = some true := Eq.trans (by kernel_rfl) rfl
@[go_sem] theorem tfld115_0 : tfld Tryz.prog 115 0 = some 0 := Eq.trans (by kernel_rfl) rfl
@[go_sem] theorem tfld115_1 : tfld Tryz.prog 115 1 = some 1 := Eq.trans (by kernel_rfl) rfl
@[go_sem] theorem tfld115_2 : tfld Tryz.prog 115 2 = some 2 := Eq.trans (by kernel_rfl) rfl
@[go_sem] theorem tfld115_3 : tfld Tryz.prog 115 3 = some 3 := Eq.trans (by kernel_rfl) rfl
@[go_sem] theorem tpl115 : tpl Tryz.prog 115 = some (plL [(0, 1), (1, 1), (2, 1), (3, 1)]) := Eq.trans (by kernel_rfl) rfl
@[go_sem] theorem zcells115 : zcells Tryz.prog 115 = some [.int .i64 0, .int .i64 0, .int .i64 0, .int .i64 0] := Eq.trans (by kernel_rfl) rfl
@[go_sem] theorem tsz133 : tsz Tryz.prog 133 = some 2 := Eq.trans (by kernel_rfl) rfl
@[go_sem] theorem tagg133 : tagg Tryz.prog 133 = some true := Eq.trans (by kernel_rfl) rfl
@[go_sem] theorem tfld133_0 : tfld Tryz.prog 133 0 = some 0 := Eq.trans (by kernel_rfl) rfl
@[go_sem] theorem tfld133_1 : tfld Tryz.prog 133 1 = some 1 := Eq.trans (by kernel_rfl) rfl
@[go_sem] theorem tpl133 : tpl Tryz.prog 133 = some (plL [(0, 1), (1, 1)]) := Eq.trans (by kernel_rfl) rfl
@[go_sem] theorem zcells133 : zcells Tryz.prog 133 = some [.int .i64 0, .int .i64 0] := Eq.trans (by kernel_rfl) rfl
@[go_sem] theorem und134 : Tryz.prog.underlying 134 = some (.slice 133) := Eq.trans (by kernel_rfl) rfl
@[go_sem] theorem tsz134 : tsz Tryz.prog 134 = some 1 := Eq.trans (by kernel_rfl) rfl
@[go_sem] theorem tagg134 : tagg Tryz.prog 134 = some false := Eq.trans (by kernel_rfl) rfl
@[go_sem] theorem telt134 : telt Tryz.prog 134 = some (none, 2) := Eq.trans (by kernel_rfl) rfl
@[go_sem] theorem litF134 : litF Tryz.prog 134 = some 2 := Eq.trans (by kernel_rfl) rfl
@[go_sem] theorem tsz136 : tsz Tryz.prog 136 = some 6 := Eq.trans (by kernel_rfl) rfl
@[go_sem] theorem tagg136 : tagg Tryz.prog 136 = some true := Eq.trans (by kernel_rfl) rfl
@[go_sem] theorem tfld136_0 : tfld Tryz.prog 136 0 = some 0 := Eq.trans (by kernel_rfl) rfl
@[go_sem] theorem tfld136_1 : tfld Tryz.prog 136 1 = some 1 := Eq.trans (by kernel_rfl) rfl
@[go_sem] theorem tfld136_2 : tfld Tryz.prog 136 2 = some 2 := Eq.trans (by kernel_rfl) rfl
@[go_sem] theorem tfld136_3 : tfld Tryz.prog 136 3 = some 3 := Eq.trans (by kernel_rfl) rfl
@[go_sem] theorem tfld136_4 : tfld Tryz.prog 136 4 = some 4 := Eq.trans (by kernel_rfl) rfl
@[go_sem] theorem tfld136_5 : tfld Tryz.prog 136 5 = some 5 := Eq.trans (by kernel_rfl) rfl
@[go_sem] theorem tpl136 : tpl Tryz.prog 136 = some (plL [(0, 1), (1, 1), (2, 1), (3, 1), (4, 1), (5, 1)]) := Eq.trans (by kernel_rfl) rfl
@[go_sem] theorem zcells136 : zcells Tryz.prog 136 = some [.int .i64 0, .int .i64 0, .int .i64 0, .int .i64 0, .list true [], .list true []] := Eq.trans (by kernel_rfl) rfl
@[go_sem] theorem tsz143 : tsz Tryz.prog 143 = some 1 := Eq.trans (by kernel_rfl) rfl
@[go_sem] theorem tagg143 : tagg Tryz.prog 143 = some false := Eq.trans (by kernel_rfl) rfl
@[go_sem] theorem zcells143 : zcells Tryz.prog 143 = some [.nilm] := Eq.trans (by kernel_rfl) rfl
@[go_sem] theorem tsz149 : tsz Tryz.prog 149 = some 2 := Eq.trans (by kernel_rfl) rfl
@[go_sem] theorem tagg149 : tagg Tryz.prog 149 = some true := Eq.trans (by kernel_rfl) rfl
@[go_sem] theorem telt149 : telt Tryz.prog 149 = some ((some 2), 1) := Eq.trans (by kernel_rfl) rfl
@[go_sem] theorem zcells149 : zcells Tryz.prog 149 = some [.int .i64 0, .int .i64 0] := Eq.trans (by kernel_rfl) rfl
@[go_sem] theorem und150 : Tryz.prog.underlying 150 = some (.slice 341) := Eq.trans (by kernel_rfl) rfl
@[go_sem] theorem tsz150 : tsz Tryz.prog 150 = some 1 := Eq.trans (by kernel_rfl) rfl
@[go_sem] theorem tagg150 : tagg Tryz.prog 150 = some false := Eq.trans (by kernel_rfl) rfl
@[go_sem] theorem telt150 : telt Tryz.prog 150 = some (none, 4) := Eq.trans (by kernel_rfl) rfl
@[go_sem] theorem litF150 : litF Tryz.prog 150 = some 4 := Eq.trans (by kernel_rfl) rfl
@[go_sem] theorem appF150 : appF Tryz.prog 150 = some (4, 32) := Eq.trans (by kernel_rfl) rfl
@[go_sem] theorem aapp1_150 (H : List AM.Obj) (u : TypeId) (o n : Nat) (y : V) : aapp Tryz.prog H 150 u (.sl o 0 n n) y = app1 H (some (4, 32)) (oat H o) o n (asrcB (Tryz.prog.underlying u) H y) := aapp_own appF150
@[go_sem] theorem tsz152 : tsz Tryz.prog 152 = some 5 := Eq.trans (by kernel_rfl) rfl
@[go_sem] theorem tagg152 : tagg Tryz.prog 152 = some true := Eq.trans (by kernel_rfl) rfl
@[go_sem] theorem tfld152_0 : tfld Tryz.prog 152 0 = some 0 := Eq.trans (by kernel_rfl) rfl
@[go_sem] theorem tfld152_1 : tfld Tryz.prog 152 1 = some 1 := Eq.trans (by kernel_rfl) rfl
@[go_sem] theorem tfld152_2 : tfld Tryz.prog 152 2 = some 2 := Eq.trans (by kernel_rfl) rfl
@[go_sem] theorem tfld152_3 : tfld Tryz.prog 152 3 = some 3 := Eq.trans (by kernel_rfl) rfl
@[go_sem] theorem tfld152_4 : tfld Tryz.prog 152 4 = some 4 := Eq.trans (by kernel_rfl) rfl
@[go_sem] theorem tpl152 : tpl Tryz.prog 152 = some (plL [(0, 1), (1, 1), (2, 1), (3, 1), (4, 1)]) := Eq.trans (by kernel_rfl) rfl
@[go_sem] theorem zcells152 : zcells Tryz.prog 152 = some [.bool false, .int .i64 0, .list true [], .int .i64 0, .int .i64 0] := Eq.trans (by kernel_rfl) rfl
@[go_sem] theorem und175 : Tryz.prog.underlying 175 = some (.array 4 3) := Eq.trans (by kernel_rfl) rfl
@[go_sem] theorem tsz175 : tsz Tryz.prog 175 = some 4 := Eq.trans (by kernel_rfl) rfl
@[go_sem] theorem tagg175 : tagg Tryz.prog 175 = some true := Eq.trans (by kernel_rfl) rfl
@[go_sem] theorem telt175 : telt Tryz.prog 175 = some ((some 4), 1) := Eq.trans (by kernel_rfl) rfl
@[go_sem] theorem tpl175 : tpl Tryz.prog 175 = some (plA 1) := Eq.trans (by kernel_rfl) rfl
@[go_sem] theorem zcells175 : zcells Tryz.prog 175 = some [.int .i64 0, .int .i64 0, .int .i64 0, .int .i64 0] := Eq.trans (by kernel_rfl) rfl
@[go_sem] theorem tfld183_0 : tfld Tryz.prog 183 0 = some 0 := Eq.trans (by kernel_rfl) rfl
@[go_sem] theorem tfld183_1 : tfld Tryz.prog 183 1 = some 1 := Eq.trans (by kernel_rfl) rfl
@[go_sem] theorem tpl183 : tpl Tryz.prog 183 = some (plL [(0, 1), (1, 1)]) := Eq.trans (by kernel_rfl) rfl
@[go_sem] theorem zcells183 : zcells Tryz.prog 183 = some [.int .i64 0, .str []] := Eq.trans (by kernel_rfl) rfl
@[go_sem] theorem und186 : Tryz.prog.underlying 186 = some (.slice 37) := Eq.trans (by kernel_rfl) rfl
@[go_sem] theorem telt186 : telt Tryz.prog 186 = some (none, 1) := Eq.trans (by kernel_rfl) rfl
@[go_sem] theorem litF186 : litF Tryz.prog 186 = some 1 := Eq.trans (by kernel_rfl) rfl
@[go_sem] theorem appF186 : appF Tryz.prog 186 = some (1, 8) := Eq.trans (by kernel_rfl) rfl
@[go_sem] theorem aapp1_186 (H : List AM.Obj) (u : TypeId) (o n : Nat) (y : V) : aapp Tryz.prog H 186 u (.sl o 0 n n) y = app1 H (some (1, 8)) (oat H o) o n (asrcB (Tryz.prog.underlying u) H y) := aapp_own appF186
@[go_sem] theorem und237 : Tryz.prog.underlying 237 = some (.slice 93) := Eq.trans (by kernel_rfl) rfl
@[go_sem] theorem telt237 : telt Tryz.prog 237 = some (none, 1) := Eq.trans (by kernel_rfl) rfl
@[go_sem] theorem litF237 : litF Tryz.prog 237 = some 1 := Eq.trans (by kernel_rfl) rfl
@[go_sem] theorem und244 : Tryz.prog.underlying 244 = some (.slice 5) := Eq.trans (by kernel_rfl) rfl
@[go_sem] theorem litF244 : litF Tryz.prog 244 = some 1 := Eq.trans (by kernel_rfl) rfl
@[go_sem] theorem und260 : Tryz.prog.underlying 260 = some (.slice 32) := Eq.trans (by kernel_rfl) rfl
@[go_sem] theorem telt260 : telt Tryz.prog 260 = some (none, 1) := Eq.trans (by kernel_rfl) rfl
@[go_sem] theorem litF260 : litF Tryz.prog 260 = some 1 := Eq.trans (by kernel_rfl) rfl
@[go_sem] theorem appF260 : appF Tryz.prog 260 = some (1, 24) := Eq.trans (by kernel_rfl) rfl
@[go_sem] theorem aapp1_260 (H : List AM.Obj) (u : TypeId) (o n : Nat) (y : V) : aapp Tryz.prog H 260 u (.sl o 0 n n) y = app1 H (some (1, 24)) (oat H o) o n (asrcB (Tryz.prog.underlying u) H y) := aapp_own appF260
@[go_sem] theorem und295 : Tryz.prog.underlying 295 = some (.slice 98) := Eq.trans (by kernel_rfl) rfl
@[go_sem] theorem tsz295 : tsz Tryz.prog 295 = some 1 := Eq.trans (by kernel_rfl) rfl
@[go_sem] theorem tagg295 : tagg Tryz.prog 295 = some false := Eq.trans (by kernel_rfl) rfl
@[go_sem] theorem telt295 : telt Tryz.prog 295 = some (none, 4) := Eq.trans (by kernel_rfl) rfl
@[go_sem] theorem litF295 : litF Tryz.prog 295 = some 4 := Eq.trans (by kernel_rfl) rfl
@[go_sem] theorem appF295 : appF Tryz.prog 295 = some (4, 32) := Eq.trans (by kernel_rfl) rfl
@[go_sem] theorem aapp1_295 (H : List AM.Obj) (u : TypeId) (o n : Nat) (y : V) : aapp Tryz.prog H 295 u (.sl o 0 n n) y = app1 H (some (4, 32)) (oat H o) o n (asrcB (Tryz.prog.underlying u) H y) := aapp_own appF295
@[go_sem] theorem tsz297 : tsz Tryz.prog 297 = some 25 := Eq.trans (by kernel_rfl) rfl
@[go_sem] theorem tagg297 : tagg Tryz.prog 297 = some true := Eq.trans (by kernel_rfl) rfl
@[go_sem] theorem tfld297_0 : tfld Tryz.prog 297 0 = some 0 := Eq.trans (by kernel_rfl) rfl
@[go_sem] theorem tfld297_1 : tfld Tryz.prog 297 1 = some 6 := Eq.trans (by kernel_rfl) rfl
@[go_sem] theorem tfld297_2 : tfld Tryz.prog 297 2 = some 20 := Eq.trans (by kernel_rfl) rfl
@[go_sem] theorem tfld297_3 : tfld Tryz.prog 297 3 = some 24 := Eq.trans (by kernel_rfl) rfl
@[go_sem] theorem tpl297 : tpl Tryz.prog 297 = some (plL [(0, 6), (6, 14), (20, 4), (24, 1)]) := Eq.trans (by kernel_rfl) rfl
@[go_sem] theorem zcells297 : zcells Tryz.prog 297 = some [.list true [], .list true [], .list true [], .list true [], .list true [], .list true [], .str [], .int .i64 0, .int .i64 0, .int .i64 0, .list true [], .int .i64 0, .int .i64 0, .int .i64 0, .int .i64 0, .int .i64 0, .int .i64 0, .int .i64 0, .int .i64 0, .int .i64 0, .int .i64 0, .int .i64 0, .list true [], .list true [], .list true []] := Eq.trans (by kernel_rfl) rfl
@[go_sem] theorem tsz301 : tsz Tryz.prog 301 = some 7 := Eq.trans (by kernel_rfl) rfl
@[go_sem] theorem tagg301 : tagg Tryz.prog 301 = some true := Eq.trans (by kernel_rfl) rfl
@[go_sem] theorem tfld301_0 : tfld Tryz.prog 301 0 = some 0 := Eq.trans (by kernel_rfl) rfl
@[go_sem] theorem tfld301_1 : tfld Tryz.prog 301 1 = some 1 := Eq.trans (by kernel_rfl) rfl
@[go_sem] theorem tfld301_2 : tfld Tryz.prog 301 2 = some 2 := Eq.trans (by kernel_rfl) rfl
@[go_sem] theorem tpl301 : tpl Tryz.prog 301 = some (plL [(0, 1), (1, 1), (2, 5)]) := Eq.trans (by kernel_rfl) rfl
@[go_sem] theorem zcells301 : zcells Tryz.prog 301 = some [.int .i64 0, .int .i64 0, .bool false, .int .i64 0, .list true [], .int .i64 0, .int .i64 0] := Eq.trans (by kernel_rfl) rfl
@[go_sem] theorem und303 : Tryz.prog.underlying 303 = some (.slice 301) := Eq.trans (by kernel_rfl) rfl
@[go_sem] theorem telt303 : telt Tryz.prog 303 = some (none, 7) := Eq.trans (by kernel_rfl) rfl
@[go_sem] theorem litF303 : litF Tryz.prog 303 = some 7 := Eq.trans (by kernel_rfl) rfl
@[go_sem] theorem appF303 : appF Tryz.prog 303 = some (7, 72) := Eq.trans (by kernel_rfl) rfl
@[go_sem] theorem aapp1_303 (H : List AM.Obj) (u : TypeId) (o n : Nat) (y : V) : aapp Tryz.prog H 303 u (.sl o 0 n n) y = app1 H (some (7, 72)) (oat H o) o n (asrcB (Tryz.prog.underlying u) H y) := aapp_own appF303
@[go_sem] theorem tfld341_2 : tfld Tryz.prog 341 2 = some 2 := Eq.trans (by kernel_rfl) rfl
@[go_sem] theorem tfld341_3 : tfld Tryz.prog 341 3 = some 3 := Eq.trans (by kernel_rfl) rfl
@[go_sem] theorem tpl341 : tpl Tryz.prog 341 = some (plL [(0, 1), (1, 1), (2, 1), (3, 1)]) := Eq.trans (by kernel_rfl) rfl
@[go_sem] theorem zcells341 : zcells Tryz.prog 341 = some [.int .i64 0, .int .i64 0, .int .i64 0, .bool false] := Eq.trans (by kernel_rfl) rfl
@[go_sem] theorem tsz358 : tsz Tryz.prog 358 = some 3 := Eq.trans (by kernel_rfl) rfl
@[go_sem] theorem tagg358 : tagg Tryz.prog 358 = some true := Eq.trans (by kernel_rfl) rfl
@[go_sem] theorem stood358 : Tryz.prog.stoodInHeld 358 = false := Eq.trans (by kernel_rfl) rfl
@[go_sem] theorem tpl358 : tpl Tryz.prog 358 = some (plL [(0, 1), (1, 1), (2, 1)]) := Eq.trans (by kernel_rfl) rfl
@[go_sem] theorem aeq358 (d : Nat) (a b : List PV) : aeqD Tryz.prog d 358 (Tryz.prog.underlying 358) (.agg a) (.agg b) = oand (eqP (aeqT Tryz.prog d 3) (apart Tryz.prog 3 a 0) (apart Tryz.prog 3 b 0)) (oand (eqP (aeqT Tryz.prog d 3) (apart Tryz.prog 3 a 1) (apart Tryz.prog 3 b 1)) (oand (eqP (aeqT Tryz.prog d 3) (apart Tryz.prog 3 a 2) (apart Tryz.prog 3 b 2)) (some true))) := by rw [Tryz.underlying358, aeqD_struct stood358]; simp [aeqF_cons, aeqF_nil]
@[go_sem] theorem eqg358 : Tryz.prog.eqGuardType Tryz.prog.depth 358 = false := Eq.trans (by kernel_rfl) rfl
@[go_sem] theorem zcells358 : zcells Tryz.prog 358 = some [.int .i64 0, .int .i64 0, .int .i64 0] := Eq.trans (by kernel_rfl) rfl
theorem isF3 : IsFun Tryz.prog 3 := fun args w => Tryz.call3 args w
theorem isF11 : IsFun Tryz.prog 11 := fun args w => Tryz.call11 args w
theorem isF12 : IsFun Tryz.prog 12 := fun args w => Tryz.call12 args w
theorem isF13 : IsFun Tryz.prog 13 := fun args w => Tryz.call13 args w
theorem isF14 : IsFun Tryz.prog 14 := fun args w => Tryz.call14 args w
theorem isF15 : IsFun Tryz.prog 15 := fun args w => Tryz.call15 args w
theorem isF16 : IsFun Tryz.prog 16 := fun args w => Tryz.call16 args w
theorem isF18 : IsFun Tryz.prog 18 := fun args w => Tryz.call18 args w
theorem isF21 : IsFun Tryz.prog 21 := fun args w => Tryz.call21 args w
theorem isF34 : IsFun Tryz.prog 34 := fun args w => Tryz.call34 args w
theorem isF35 : IsFun Tryz.prog 35 := fun args w => Tryz.call35 args w
theorem isF36 : IsFun Tryz.prog 36 := fun args w => Tryz.call36 args w
theorem isF37 : IsFun Tryz.prog 37 := fun args w => Tryz.call37 args w
theorem isF38 : IsFun Tryz.prog 38 := fun args w => Tryz.call38 args w
theorem isF39 : IsFun Tryz.prog 39 := fun args w => Tryz.call39 args w
theorem isF40 : IsFun Tryz.prog 40 := fun args w => Tryz.call40 args w
theorem isF41 : IsFun Tryz.prog 41 := fun args w => Tryz.call41 args w
theorem isF42 : IsFun Tryz.prog 42 := fun args w => Tryz.call42 args w
theorem isF43 : IsFun Tryz.prog 43 := fun args w => Tryz.call43 args w
theorem isF44 : IsFun Tryz.prog 44 := fun args w => Tryz.call44 args w
theorem isF45 : IsFun Tryz.prog 45 := fun args w => Tryz.call45 args w
theorem isF46 : IsFun Tryz.prog 46 := fun args w => Tryz.call46 args w
theorem isF47 : IsFun Tryz.prog 47 := fun args w => Tryz.call47 args w
theorem isF48 : IsFun Tryz.prog 48 := fun args w => Tryz.call48 args w
theorem isF49 : IsFun Tryz.prog 49 := fun args w => Tryz.call49 args w
theorem isF50 : IsFun Tryz.prog 50 := fun args w => Tryz.call50 args w
theorem isF51 : IsFun Tryz.prog 51 := fun args w => Tryz.call51 args w
theorem isF52 : IsFun Tryz.prog 52 := fun args w => Tryz.call52 args w
theorem isF54 : IsFun Tryz.prog 54 := fun args w => Tryz.call54 args w
theorem isF55 : IsFun Tryz.prog 55 := fun args w => Tryz.call55 args w
theorem isF56 : IsFun Tryz.prog 56 := fun args w => Tryz.call56 args w
theorem isF57 : IsFun Tryz.prog 57 := fun args w => Tryz.call57 args w
theorem isF58 : IsFun Tryz.prog 58 := fun args w => Tryz.call58 args w
theorem isF59 : IsFun Tryz.prog 59 := fun args w => Tryz.call59 args w
theorem isF65 : IsFun Tryz.prog 65 := fun args w => Tryz.call65 args w
theorem isF66 : IsFun Tryz.prog 66 := fun args w => Tryz.call66 args w
theorem isF67 : IsFun Tryz.prog 67 := fun args w => Tryz.call67 args w
theorem isF85 : IsFun Tryz.prog 85 := fun args w => Tryz.call85 args w
theorem isF93 : IsFun Tryz.prog 93 := fun args w => Tryz.call93 args w
theorem isF95 : IsFun Tryz.prog 95 := fun args w => Tryz.call95 args w
theorem isF96 : IsFun Tryz.prog 96 := fun args w => Tryz.call96 args w
theorem isF97 : IsFun Tryz.prog 97 := fun args w => Tryz.call97 args w
theorem isF98 : IsFun Tryz.prog 98 := fun args w => Tryz.call98 args w
theorem isF99 : IsFun Tryz.prog 99 := fun args w => Tryz.call99 args w
theorem isF100 : IsFun Tryz.prog 100 := fun args w => Tryz.call100 args w
theorem isF101 : IsFun Tryz.prog 101 := fun args w => Tryz.call101 args w
theorem isF102 : IsFun Tryz.prog 102 := fun args w => Tryz.call102 args w
theorem isF103 : IsFun Tryz.prog 103 := fun args w => Tryz.call103 args w
theorem isF104 : IsFun Tryz.prog 104 := fun args w => Tryz.call104 args w
theorem isF107 : IsFun Tryz.prog 107 := fun args w => Tryz.call107 args w
theorem isF109 : IsFun Tryz.prog 109 := fun args w => Tryz.call109 args w
theorem isF110 : IsFun Tryz.prog 110 := fun args w => Tryz.call110 args w
theorem isF111 : IsFun Tryz.prog 111 := fun args w => Tryz.call111 args w
theorem isF112 : IsFun Tryz.prog 112 := fun args w => Tryz.call112 args w
theorem isF113 : IsFun Tryz.prog 113 := fun args w => Tryz.call113 args w
theorem isF114 : IsFun Tryz.prog 114 := fun args w => Tryz.call114 args w
theorem isF115 : IsFun Tryz.prog 115 := fun args w => Tryz.call115 args w
theorem isF133 : IsFun Tryz.prog 133 := fun args w => Tryz.call133 args w
theorem isF134 : IsFun Tryz.prog 134 := fun args w => Tryz.call134 args w
theorem isF136 : IsFun Tryz.prog 136 := fun args w => Tryz.call136 args w
theorem isF140 : IsFun Tryz.prog 140 := fun args w => Tryz.call140 args w
theorem isF143 : IsFun Tryz.prog 143 := fun args w => Tryz.call143 args w
theorem isF144 : IsFun Tryz.prog 144 := fun args w => Tryz.call144 args w
theorem isF145 : IsFun Tryz.prog 145 := fun args w => Tryz.call145 args w
theorem isF146 : IsFun Tryz.prog 146 := fun args w => Tryz.call146 args w
theorem isF147 : IsFun Tryz.prog 147 := fun args w => Tryz.call147 args w
theorem isF148 : IsFun Tryz.prog 148 := fun args w => Tryz.call148 args w
theorem isF149 : IsFun Tryz.prog 149 := fun args w => Tryz.call149 args w
theorem isF150 : IsFun Tryz.prog 150 := fun args w => Tryz.call150 args w
theorem isF151 : IsFun Tryz.prog 151 := fun args w => Tryz.call151 args w
theorem isF164 : IsFun Tryz.prog 164 := fun args w => Tryz.call164 args w
theorem isF165 : IsFun Tryz.prog 165 := fun args w => Tryz.call165 args w
theorem isF166 : IsFun Tryz.prog 166 := fun args w => Tryz.call166 args w
theorem isF167 : IsFun Tryz.prog 167 := fun args w => Tryz.call167 args w
theorem isF168 : IsFun Tryz.prog 168 := fun args w => Tryz.call168 args w
theorem isF169 : IsFun Tryz.prog 169 := fun args w => Tryz.call169 args w
theorem isF187 : IsFun Tryz.prog 187 := fun args w => Tryz.call187 args w
theorem isF194 : IsFun Tryz.prog 194 := fun args w => Tryz.call194 args w
theorem isF195 : IsFun Tryz.prog 195 := fun args w => Tryz.call195 args w
theorem isF196 : IsFun Tryz.prog 196 := fun args w => Tryz.call196 args w
theorem isF197 : IsFun Tryz.prog 197 := fun args w => Tryz.call197 args w
theorem isF198 : IsFun Tryz.prog 198 := fun args w => Tryz.call198 args w
theorem isF199 : IsFun Tryz.prog 199 := fun args w => Tryz.call199 args w
theorem isF202 : IsFun Tryz.prog 202 := fun args w => Tryz.call202 args w
theorem isF203 : IsFun Tryz.prog 203 := fun args w => Tryz.call203 args w
theorem isF204 : IsFun Tryz.prog 204 := fun args w => Tryz.call204 args w
theorem isF205 : IsFun Tryz.prog 205 := fun args w => Tryz.call205 args w
theorem isF206 : IsFun Tryz.prog 206 := fun args w => Tryz.call206 args w
theorem isF207 : IsFun Tryz.prog 207 := fun args w => Tryz.call207 args w
theorem isF208 : IsFun Tryz.prog 208 := fun args w => Tryz.call208 args w
theorem isF209 : IsFun Tryz.prog 209 := fun args w => Tryz.call209 args w
theorem isF210 : IsFun Tryz.prog 210 := fun args w => Tryz.call210 args w
theorem isF217 : IsFun Tryz.prog 217 := fun args w => Tryz.call217 args w
theorem isF218 : IsFun Tryz.prog 218 := fun args w => Tryz.call218 args w
theorem isF219 : IsFun Tryz.prog 219 := fun args w => Tryz.call219 args w
theorem isF246 : IsFun Tryz.prog 246 := fun args w => Tryz.call246 args w
theorem isF260 : IsFun Tryz.prog 260 := fun args w => Tryz.call260 args w
theorem isF261 : IsFun Tryz.prog 261 := fun args w => Tryz.call261 args w
theorem isF262 : IsFun Tryz.prog 262 := fun args w => Tryz.call262 args w
theorem isF263 : IsFun Tryz.prog 263 := fun args w => Tryz.call263 args w
theorem isF264 : IsFun Tryz.prog 264 := fun args w => Tryz.call264 args w
theorem isF265 : IsFun Tryz.prog 265 := fun args w => Tryz.call265 args w
theorem isF266 : IsFun Tryz.prog 266 := fun args w => Tryz.call266 args w
theorem isF267 : IsFun Tryz.prog 267 := fun args w => Tryz.call267 args w
theorem isF268 : IsFun Tryz.prog 268 := fun args w => Tryz.call268 args w
theorem isF269 : IsFun Tryz.prog 269 := fun args w => Tryz.call269 args w
theorem isF270 : IsFun Tryz.prog 270 := fun args w => Tryz.call270 args w
theorem isF271 : IsFun Tryz.prog 271 := fun args w => Tryz.call271 args w
theorem isF272 : IsFun Tryz.prog 272 := fun args w => Tryz.call272 args w
theorem isF273 : IsFun Tryz.prog 273 := fun args w => Tryz.call273 args w
theorem isF274 : IsFun Tryz.prog 274 := fun args w => Tryz.call274 args w
theorem isF275 : IsFun Tryz.prog 275 := fun args w => Tryz.call275 args w
theorem isF276 : IsFun Tryz.prog 276 := fun args w => Tryz.call276 args w
theorem isF278 : IsFun Tryz.prog 278 := fun args w => Tryz.call278 args w
theorem isF279 : IsFun Tryz.prog 279 := fun args w => Tryz.call279 args w
theorem isF281 : IsFun Tryz.prog 281 := fun args w => Tryz.call281 args w
theorem isF294 : IsFun Tryz.prog 294 := fun args w => Tryz.call294 args w
theorem isF299 : IsFun Tryz.prog 299 := fun args w => Tryz.call299 args w
theorem isF300 : IsFun Tryz.prog 300 := fun args w => Tryz.call300 args w
theorem isF301 : IsFun Tryz.prog 301 := fun args w => Tryz.call301 args w
theorem isF302 : IsFun Tryz.prog 302 := fun args w => Tryz.call302 args w
theorem isF303 : IsFun Tryz.prog 303 := fun args w => Tryz.call303 args w
theorem isF304 : IsFun Tryz.prog 304 := fun args w => Tryz.call304 args w
theorem isF305 : IsFun Tryz.prog 305 := fun args w => Tryz.call305 args w
theorem isF306 : IsFun Tryz.prog 306 := fun args w => Tryz.call306 args w
theorem isF307 : IsFun Tryz.prog 307 := fun args w => Tryz.call307 args w
theorem isF308 : IsFun Tryz.prog 308 := fun args w => Tryz.call308 args w
theorem isF309 : IsFun Tryz.prog 309 := fun args w => Tryz.call309 args w
theorem isF310 : IsFun Tryz.prog 310 := fun args w => Tryz.call310 args w
theorem isF311 : IsFun Tryz.prog 311 := fun args w => Tryz.call311 args w
theorem isF321 : IsFun Tryz.prog 321 := fun args w => Tryz.call321 args w
theorem isF322 : IsFun Tryz.prog 322 := fun args w => Tryz.call322 args w
theorem isF323 : IsFun Tryz.prog 323 := fun args w => Tryz.call323 args w
theorem isF324 : IsFun Tryz.prog 324 := fun args w => Tryz.call324 args w
theorem isF327 : IsFun Tryz.prog 327 := fun args w => Tryz.call327 args w
theorem isF328 : IsFun Tryz.prog 328 := fun args w => Tryz.call328 args w
theorem isF329 : IsFun Tryz.prog 329 := fun args w => Tryz.call329 args w
theorem isF330 : IsFun Tryz.prog 330 := fun args w => Tryz.call330 args w
theorem isF331 : IsFun Tryz.prog 331 := fun args w => Tryz.call331 args w
theorem isF332 : IsFun Tryz.prog 332 := fun args w => Tryz.call332 args w
theorem isF333 : IsFun Tryz.prog 333 := fun args w => Tryz.call333 args w
theorem isF338 : IsFun Tryz.prog 338 := fun args w => Tryz.call338 args w
theorem isF339 : IsFun Tryz.prog 339 := fun args w => Tryz.call339 args w
theorem isF341 : IsFun Tryz.prog 341 := fun args w => Tryz.call341 args w
theorem isF342 : IsFun Tryz.prog 342 := fun args w => Tryz.call342 args w
theorem isF343 : IsFun Tryz.prog 343 := fun args w => Tryz.call343 args w
theorem isF347 : IsFun Tryz.prog 347 := fun args w => Tryz.call347 args w
theorem isF348 : IsFun Tryz.prog 348 := fun args w => Tryz.call348 args w
theorem isF349 : IsFun Tryz.prog 349 := fun args w => Tryz.call349 args w
theorem isF351 : IsFun Tryz.prog 351 := fun args w => Tryz.call351 args w
theorem isF352 : IsFun Tryz.prog 352 := fun args w => Tryz.call352 args w
theorem isF353 : IsFun Tryz.prog 353 := fun args w => Tryz.call353 args w
theorem isF354 : IsFun Tryz.prog 354 := fun args w => Tryz.call354 args w
theorem mixed : Tryz.prog.follows .mixedOrders = true := by kernel_rfl
end Go.Proofs.YtcdoglogglbemaaGreatDoor.K
