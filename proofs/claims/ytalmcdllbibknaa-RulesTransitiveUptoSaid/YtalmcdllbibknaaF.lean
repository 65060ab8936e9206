/- Facts of the program's types, printed by tools/Facts.lean. -/
import Derived.Test.YtalmcdllbibknaaProg
import Derived.Test.YtalmcdllbibknaaA3
import Derived.KernelRfl
namespace Go.Proofs.Ytalmcdllbibknaa.K
open Go Go.AM Go.Proofs
@[go_sem] theorem und3 : Try.prog.underlying 3 = some (.int .i64) := Eq.trans (by kernel_rfl) rfl
@[go_sem] theorem tsz3 : tsz Try.prog 3 = some 1 := Eq.trans (by kernel_rfl) rfl
@[go_sem] theorem tagg3 : tagg Try.prog 3 = some false := Eq.trans (by kernel_rfl) rfl
@[go_sem] theorem zcells3 : zcells Try.prog 3 = some [.int .i64 0] := Eq.trans (by kernel_rfl) rfl
@[go_sem] theorem und4 : Try.prog.underlying 4 = some .bool := Eq.trans (by kernel_rfl) rfl
@[go_sem] theorem tsz4 : tsz Try.prog 4 = some 1 := Eq.trans (by kernel_rfl) rfl
@[go_sem] theorem tagg4 : tagg Try.prog 4 = some false := Eq.trans (by kernel_rfl) rfl
@[go_sem] theorem zcells4 : zcells Try.prog 4 = some [.bool false] := Eq.trans (by kernel_rfl) rfl
@[go_sem] theorem und5 : Try.prog.underlying 5 = some (.int .u8) := Eq.trans (by kernel_rfl) rfl
@[go_sem] theorem tsz5 : tsz Try.prog 5 = some 1 := Eq.trans (by kernel_rfl) rfl
@[go_sem] theorem tagg5 : tagg Try.prog 5 = some false := Eq.trans (by kernel_rfl) rfl
@[go_sem] theorem zcells5 : zcells Try.prog 5 = some [.int .u8 0] := Eq.trans (by kernel_rfl) rfl
@[go_sem] theorem und9 : Try.prog.underlying 9 = some .string := Eq.trans (by kernel_rfl) rfl
@[go_sem] theorem tsz9 : tsz Try.prog 9 = some 1 := Eq.trans (by kernel_rfl) rfl
@[go_sem] theorem tagg9 : tagg Try.prog 9 = some false := Eq.trans (by kernel_rfl) rfl
@[go_sem] theorem zcells9 : zcells Try.prog 9 = some [.str []] := Eq.trans (by kernel_rfl) rfl
@[go_sem] theorem und21 : Try.prog.underlying 21 = some (.int .i32) := Eq.trans (by kernel_rfl) rfl
@[go_sem] theorem tsz21 : tsz Try.prog 21 = some 1 := Eq.trans (by kernel_rfl) rfl
@[go_sem] theorem tagg21 : tagg Try.prog 21 = some false := Eq.trans (by kernel_rfl) rfl
@[go_sem] theorem zcells21 : zcells Try.prog 21 = some [.int .i32 0] := Eq.trans (by kernel_rfl) rfl
@[go_sem] theorem und22 : Try.prog.underlying 22 = some (.slice 45) := Eq.trans (by kernel_rfl) rfl
@[go_sem] theorem tsz22 : tsz Try.prog 22 = some 1 := Eq.trans (by kernel_rfl) rfl
@[go_sem] theorem tagg22 : tagg Try.prog 22 = some false := Eq.trans (by kernel_rfl) rfl
@[go_sem] theorem telt22 : telt Try.prog 22 = some (none, 2) := Eq.trans (by kernel_rfl) rfl
@[go_sem] theorem litF22 : litF Try.prog 22 = some 2 := Eq.trans (by kernel_rfl) rfl
@[go_sem] theorem appF22 : appF Try.prog 22 = some (2, 16) := Eq.trans (by kernel_rfl) rfl
@[go_sem] theorem aapp0_22 (H : List AM.Obj) (u : TypeId) (y : V) : aapp Try.prog H 22 u (.p (.list true [])) y = app0 H (some (2, 16)) (asrcB (Try.prog.underlying u) H y) := aapp_nil appF22
@[go_sem] theorem aapp1_22 (H : List AM.Obj) (u : TypeId) (o n : Nat) (y : V) : aapp Try.prog H 22 u (.sl o 0 n n) y = app1 H (some (2, 16)) (oat H o) o n (asrcB (Try.prog.underlying u) H y) := aapp_own appF22
@[go_sem] theorem makeF22 : makeF Try.prog 22 = some (2, 16, .agg [.int .i64 0, .int .i64 0]) := Eq.trans (by kernel_rfl) rfl
@[go_sem] theorem amk22 (H : List AM.Obj) (fr : List V) (x y : Operand) : amem Try.prog (.makeSlice 22 x y) fr H = amakeB (some (2, 16, .agg [.int .i64 0, .int .i64 0])) H (ev fr x) (ev fr y) := amem_makeB makeF22
@[go_sem] theorem zcells22 : zcells Try.prog 22 = some [.list true []] := Eq.trans (by kernel_rfl) rfl
@[go_sem] theorem und24 : Try.prog.underlying 24 = some (.slice 28) := Eq.trans (by kernel_rfl) rfl
@[go_sem] theorem tsz24 : tsz Try.prog 24 = some 1 := Eq.trans (by kernel_rfl) rfl
@[go_sem] theorem tagg24 : tagg Try.prog 24 = some false := Eq.trans (by kernel_rfl) rfl
@[go_sem] theorem telt24 : telt Try.prog 24 = some (none, 2) := Eq.trans (by kernel_rfl) rfl
@[go_sem] theorem litF24 : litF Try.prog 24 = some 2 := Eq.trans (by kernel_rfl) rfl
@[go_sem] theorem appF24 : appF Try.prog 24 = some (2, 24) := Eq.trans (by kernel_rfl) rfl
@[go_sem] theorem aapp0_24 (H : List AM.Obj) (u : TypeId) (y : V) : aapp Try.prog H 24 u (.p (.list true [])) y = app0 H (some (2, 24)) (asrcB (Try.prog.underlying u) H y) := aapp_nil appF24
@[go_sem] theorem aapp1_24 (H : List AM.Obj) (u : TypeId) (o n : Nat) (y : V) : aapp Try.prog H 24 u (.sl o 0 n n) y = app1 H (some (2, 24)) (oat H o) o n (asrcB (Try.prog.underlying u) H y) := aapp_own appF24
@[go_sem] theorem makeF24 : makeF Try.prog 24 = some (2, 24, .agg [.int .i64 0, .str []]) := Eq.trans (by kernel_rfl) rfl
@[go_sem] theorem amk24 (H : List AM.Obj) (fr : List V) (x y : Operand) : amem Try.prog (.makeSlice 24 x y) fr H = amakeB (some (2, 24, .agg [.int .i64 0, .str []])) H (ev fr x) (ev fr y) := amem_makeB makeF24
@[go_sem] theorem zcells24 : zcells Try.prog 24 = some [.list true []] := Eq.trans (by kernel_rfl) rfl
@[go_sem] theorem und26 : Try.prog.underlying 26 = some (.int .i64) := Eq.trans (by kernel_rfl) rfl
@[go_sem] theorem tsz26 : tsz Try.prog 26 = some 1 := Eq.trans (by kernel_rfl) rfl
@[go_sem] theorem tagg26 : tagg Try.prog 26 = some false := Eq.trans (by kernel_rfl) rfl
@[go_sem] theorem zcells26 : zcells Try.prog 26 = some [.int .i64 0] := Eq.trans (by kernel_rfl) rfl
@[go_sem] theorem tsz28 : tsz Try.prog 28 = some 2 := Eq.trans (by kernel_rfl) rfl
@[go_sem] theorem tagg28 : tagg Try.prog 28 = some true := Eq.trans (by kernel_rfl) rfl
@[go_sem] theorem tfld28_0 : tfld Try.prog 28 0 = some 0 := Eq.trans (by kernel_rfl) rfl
@[go_sem] theorem tfv28_0 : tfv Try.prog 28 0 = some (26, 0) := Eq.trans (by kernel_rfl) rfl
@[go_sem] theorem tfld28_1 : tfld Try.prog 28 1 = some 1 := Eq.trans (by kernel_rfl) rfl
@[go_sem] theorem tfv28_1 : tfv Try.prog 28 1 = some (9, 1) := Eq.trans (by kernel_rfl) rfl
@[go_sem] theorem stood28 : Try.prog.stoodInHeld 28 = false := Eq.trans (by kernel_rfl) rfl
@[go_sem] theorem tpl28 : tpl Try.prog 28 = some (plL [(0, 1), (1, 1)]) := Eq.trans (by kernel_rfl) rfl
@[go_sem] theorem aeq28 (d : Nat) (a b : List PV) : aeqD Try.prog d 28 (Try.prog.underlying 28) (.agg a) (.agg b) = oand (eqP (aeqT Try.prog d 26) (apart Try.prog 26 a 0) (apart Try.prog 26 b 0)) (oand (eqP (aeqT Try.prog d 9) (apart Try.prog 9 a 1) (apart Try.prog 9 b 1)) (some true)) := by rw [Try.underlying28, aeqD_struct stood28]; simp [aeqF_cons, aeqF_nil]
@[go_sem] theorem eqg28 : Try.prog.eqGuardType Try.prog.depth 28 = false := Eq.trans (by kernel_rfl) rfl
@[go_sem] theorem zcells28 : zcells Try.prog 28 = some [.int .i64 0, .str []] := Eq.trans (by kernel_rfl) rfl
@[go_sem] theorem und30 : Try.prog.underlying 30 = some (.slice 9) := Eq.trans (by kernel_rfl) rfl
@[go_sem] theorem tsz30 : tsz Try.prog 30 = some 1 := Eq.trans (by kernel_rfl) rfl
@[go_sem] theorem tagg30 : tagg Try.prog 30 = some false := Eq.trans (by kernel_rfl) rfl
@[go_sem] theorem telt30 : telt Try.prog 30 = some (none, 1) := Eq.trans (by kernel_rfl) rfl
@[go_sem] theorem litF30 : litF Try.prog 30 = some 1 := Eq.trans (by kernel_rfl) rfl
@[go_sem] theorem appF30 : appF Try.prog 30 = some (1, 16) := Eq.trans (by kernel_rfl) rfl
@[go_sem] theorem aapp0_30 (H : List AM.Obj) (u : TypeId) (y : V) : aapp Try.prog H 30 u (.p (.list true [])) y = app0 H (some (1, 16)) (asrcB (Try.prog.underlying u) H y) := aapp_nil appF30
@[go_sem] theorem aapp1_30 (H : List AM.Obj) (u : TypeId) (o n : Nat) (y : V) : aapp Try.prog H 30 u (.sl o 0 n n) y = app1 H (some (1, 16)) (oat H o) o n (asrcB (Try.prog.underlying u) H y) := aapp_own appF30
@[go_sem] theorem makeF30 : makeF Try.prog 30 = some (1, 16, .str []) := Eq.trans (by kernel_rfl) rfl
@[go_sem] theorem amk30 (H : List AM.Obj) (fr : List V) (x y : Operand) : amem Try.prog (.makeSlice 30 x y) fr H = amakeB (some (1, 16, .str [])) H (ev fr x) (ev fr y) := amem_makeB makeF30
@[go_sem] theorem zcells30 : zcells Try.prog 30 = some [.list true []] := Eq.trans (by kernel_rfl) rfl
@[go_sem] theorem und31 : Try.prog.underlying 31 = some (.slice 84) := Eq.trans (by kernel_rfl) rfl
@[go_sem] theorem tsz31 : tsz Try.prog 31 = some 1 := Eq.trans (by kernel_rfl) rfl
@[go_sem] theorem tagg31 : tagg Try.prog 31 = some false := Eq.trans (by kernel_rfl) rfl
@[go_sem] theorem telt31 : telt Try.prog 31 = some (none, 6) := Eq.trans (by kernel_rfl) rfl
@[go_sem] theorem litF31 : litF Try.prog 31 = some 6 := Eq.trans (by kernel_rfl) rfl
@[go_sem] theorem appF31 : appF Try.prog 31 = some (6, 80) := Eq.trans (by kernel_rfl) rfl
@[go_sem] theorem aapp0_31 (H : List AM.Obj) (u : TypeId) (y : V) : aapp Try.prog H 31 u (.p (.list true [])) y = app0 H (some (6, 80)) (asrcB (Try.prog.underlying u) H y) := aapp_nil appF31
@[go_sem] theorem aapp1_31 (H : List AM.Obj) (u : TypeId) (o n : Nat) (y : V) : aapp Try.prog H 31 u (.sl o 0 n n) y = app1 H (some (6, 80)) (oat H o) o n (asrcB (Try.prog.underlying u) H y) := aapp_own appF31
@[go_sem] theorem makeF31 : makeF Try.prog 31 = some (6, 80, .agg [.int .i64 0, .int .i64 0, .int .i64 0, .int .i64 0, .list true [], .list true []]) := Eq.trans (by kernel_rfl) rfl
@[go_sem] theorem amk31 (H : List AM.Obj) (fr : List V) (x y : Operand) : amem Try.prog (.makeSlice 31 x y) fr H = amakeB (some (6, 80, .agg [.int .i64 0, .int .i64 0, .int .i64 0, .int .i64 0, .list true [], .list true []])) H (ev fr x) (ev fr y) := amem_makeB makeF31
@[go_sem] theorem zcells31 : zcells Try.prog 31 = some [.list true []] := Eq.trans (by kernel_rfl) rfl
@[go_sem] theorem tsz33 : tsz Try.prog 33 = some 2 := Eq.trans (by kernel_rfl) rfl
@[go_sem] theorem tagg33 : tagg Try.prog 33 = some true := Eq.trans (by kernel_rfl) rfl
@[go_sem] theorem tfld33_0 : tfld Try.prog 33 0 = some 0 := Eq.trans (by kernel_rfl) rfl
@[go_sem] theorem tfv33_0 : tfv Try.prog 33 0 = some (30, 0) := Eq.trans (by kernel_rfl) rfl
@[go_sem] theorem tfld33_1 : tfld Try.prog 33 1 = some 1 := Eq.trans (by kernel_rfl) rfl
@[go_sem] theorem tfv33_1 : tfv Try.prog 33 1 = some (31, 1) := Eq.trans (by kernel_rfl) rfl
@[go_sem] theorem stood33 : Try.prog.stoodInHeld 33 = false := Eq.trans (by kernel_rfl) rfl
@[go_sem] theorem tpl33 : tpl Try.prog 33 = some (plL [(0, 1), (1, 1)]) := Eq.trans (by kernel_rfl) rfl
@[go_sem] theorem aeq33 (d : Nat) (a b : List PV) : aeqD Try.prog d 33 (Try.prog.underlying 33) (.agg a) (.agg b) = oand (eqP (aeqT Try.prog d 30) (apart Try.prog 30 a 0) (apart Try.prog 30 b 0)) (oand (eqP (aeqT Try.prog d 31) (apart Try.prog 31 a 1) (apart Try.prog 31 b 1)) (some true)) := by rw [Try.underlying33, aeqD_struct stood33]; simp [aeqF_cons, aeqF_nil]
@[go_sem] theorem eqg33 : Try.prog.eqGuardType Try.prog.depth 33 = false := Eq.trans (by kernel_rfl) rfl
@[go_sem] theorem zcells33 : zcells Try.prog 33 = some [.list true [], .list true []] := Eq.trans (by kernel_rfl) rfl
@[go_sem] theorem und34 : Try.prog.underlying 34 = some (.slice 86) := Eq.trans (by kernel_rfl) rfl
@[go_sem] theorem tsz34 : tsz Try.prog 34 = some 1 := Eq.trans (by kernel_rfl) rfl
@[go_sem] theorem tagg34 : tagg Try.prog 34 = some false := Eq.trans (by kernel_rfl) rfl
@[go_sem] theorem telt34 : telt Try.prog 34 = some (none, 14) := Eq.trans (by kernel_rfl) rfl
@[go_sem] theorem litF34 : litF Try.prog 34 = some 14 := Eq.trans (by kernel_rfl) rfl
@[go_sem] theorem appF34 : appF Try.prog 34 = some (14, 136) := Eq.trans (by kernel_rfl) rfl
@[go_sem] theorem aapp0_34 (H : List AM.Obj) (u : TypeId) (y : V) : aapp Try.prog H 34 u (.p (.list true [])) y = app0 H (some (14, 136)) (asrcB (Try.prog.underlying u) H y) := aapp_nil appF34
@[go_sem] theorem aapp1_34 (H : List AM.Obj) (u : TypeId) (o n : Nat) (y : V) : aapp Try.prog H 34 u (.sl o 0 n n) y = app1 H (some (14, 136)) (oat H o) o n (asrcB (Try.prog.underlying u) H y) := aapp_own appF34
@[go_sem] theorem makeF34 : makeF Try.prog 34 = some (14, 136, .agg [.str [], .int .i64 0, .int .i64 0, .int .i64 0, .list true [], .int .i64 0, .int .i64 0, .int .i64 0, .int .i64 0, .int .i64 0, .int .i64 0, .int .i64 0, .int .i64 0, .int .i64 0]) := Eq.trans (by kernel_rfl) rfl
@[go_sem] theorem amk34 (H : List AM.Obj) (fr : List V) (x y : Operand) : amem Try.prog (.makeSlice 34 x y) fr H = amakeB (some (14, 136, .agg [.str [], .int .i64 0, .int .i64 0, .int .i64 0, .list true [], .int .i64 0, .int .i64 0, .int .i64 0, .int .i64 0, .int .i64 0, .int .i64 0, .int .i64 0, .int .i64 0, .int .i64 0])) H (ev fr x) (ev fr y) := amem_makeB makeF34
@[go_sem] theorem zcells34 : zcells Try.prog 34 = some [.list true []] := Eq.trans (by kernel_rfl) rfl
@[go_sem] theorem und35 : Try.prog.underlying 35 = some (.slice 52) := Eq.trans (by kernel_rfl) rfl
@[go_sem] theorem tsz35 : tsz Try.prog 35 = some 1 := Eq.trans (by kernel_rfl) rfl
@[go_sem] theorem tagg35 : tagg Try.prog 35 = some false := Eq.trans (by kernel_rfl) rfl
@[go_sem] theorem telt35 : telt Try.prog 35 = some (none, 16) := Eq.trans (by kernel_rfl) rfl
@[go_sem] theorem litF35 : litF Try.prog 35 = some 16 := Eq.trans (by kernel_rfl) rfl
@[go_sem] theorem appF35 : appF Try.prog 35 = some (16, 152) := Eq.trans (by kernel_rfl) rfl
@[go_sem] theorem aapp0_35 (H : List AM.Obj) (u : TypeId) (y : V) : aapp Try.prog H 35 u (.p (.list true [])) y = app0 H (some (16, 152)) (asrcB (Try.prog.underlying u) H y) := aapp_nil appF35
@[go_sem] theorem aapp1_35 (H : List AM.Obj) (u : TypeId) (o n : Nat) (y : V) : aapp Try.prog H 35 u (.sl o 0 n n) y = app1 H (some (16, 152)) (oat H o) o n (asrcB (Try.prog.underlying u) H y) := aapp_own appF35
@[go_sem] theorem makeF35 : makeF Try.prog 35 = some (16, 152, .agg [.str [], .list true [], .int .i64 0, .int .i64 0, .int .i64 0, .int .i64 0, .int .i64 0, .int .i64 0, .int .i64 0, .int .i64 0, .int .i64 0, .int .i64 0, .int .i64 0, .int .i64 0, .int .i64 0, .bool false]) := Eq.trans (by kernel_rfl) rfl
@[go_sem] theorem amk35 (H : List AM.Obj) (fr : List V) (x y : Operand) : amem Try.prog (.makeSlice 35 x y) fr H = amakeB (some (16, 152, .agg [.str [], .list true [], .int .i64 0, .int .i64 0, .int .i64 0, .int .i64 0, .int .i64 0, .int .i64 0, .int .i64 0, .int .i64 0, .int .i64 0, .int .i64 0, .int .i64 0, .int .i64 0, .int .i64 0, .bool false])) H (ev fr x) (ev fr y) := amem_makeB makeF35
@[go_sem] theorem zcells35 : zcells Try.prog 35 = some [.list true []] := Eq.trans (by kernel_rfl) rfl
@[go_sem] theorem tsz37 : tsz Try.prog 37 = some 6 := Eq.trans (by kernel_rfl) rfl
@[go_sem] theorem tagg37 : tagg Try.prog 37 = some true := Eq.trans (by kernel_rfl) rfl
@[go_sem] theorem tfld37_0 : tfld Try.prog 37 0 = some 0 := Eq.trans (by kernel_rfl) rfl
@[go_sem] theorem tfv37_0 : tfv Try.prog 37 0 = some (33, 0) := Eq.trans (by kernel_rfl) rfl
@[go_sem] theorem tfld37_1 : tfld Try.prog 37 1 = some 2 := Eq.trans (by kernel_rfl) rfl
@[go_sem] theorem tfv37_1 : tfv Try.prog 37 1 = some (34, 2) := Eq.trans (by kernel_rfl) rfl
@[go_sem] theorem tfld37_2 : tfld Try.prog 37 2 = some 3 := Eq.trans (by kernel_rfl) rfl
@[go_sem] theorem tfv37_2 : tfv Try.prog 37 2 = some (35, 3) := Eq.trans (by kernel_rfl) rfl
@[go_sem] theorem tfld37_3 : tfld Try.prog 37 3 = some 4 := Eq.trans (by kernel_rfl) rfl
@[go_sem] theorem tfv37_3 : tfv Try.prog 37 3 = some (22, 4) := Eq.trans (by kernel_rfl) rfl
@[go_sem] theorem tfld37_4 : tfld Try.prog 37 4 = some 5 := Eq.trans (by kernel_rfl) rfl
@[go_sem] theorem tfv37_4 : tfv Try.prog 37 4 = some (22, 5) := Eq.trans (by kernel_rfl) rfl
@[go_sem] theorem stood37 : Try.prog.stoodInHeld 37 = false := Eq.trans (by kernel_rfl) rfl
@[go_sem] theorem tpl37 : tpl Try.prog 37 = some (plL [(0, 2), (2, 1), (3, 1), (4, 1), (5, 1)]) := Eq.trans (by kernel_rfl) rfl
@[go_sem] theorem aeq37 (d : Nat) (a b : List PV) : aeqD Try.prog d 37 (Try.prog.underlying 37) (.agg a) (.agg b) = oand (eqP (aeqT Try.prog d 33) (apart Try.prog 33 a 0) (apart Try.prog 33 b 0)) (oand (eqP (aeqT Try.prog d 34) (apart Try.prog 34 a 2) (apart Try.prog 34 b 2)) (oand (eqP (aeqT Try.prog d 35) (apart Try.prog 35 a 3) (apart Try.prog 35 b 3)) (oand (eqP (aeqT Try.prog d 22) (apart Try.prog 22 a 4) (apart Try.prog 22 b 4)) (oand (eqP (aeqT Try.prog d 22) (apart Try.prog 22 a 5) (apart Try.prog 22 b 5)) (some true))))) := by rw [Try.underlying37, aeqD_struct stood37]; simp [aeqF_cons, aeqF_nil]
@[go_sem] theorem eqg37 : Try.prog.eqGuardType Try.prog.depth 37 = false := Eq.trans (by kernel_rfl) rfl
@[go_sem] theorem zcells37 : zcells Try.prog 37 = some [.list true [], .list true [], .list true [], .list true [], .list true [], .list true []] := Eq.trans (by kernel_rfl) rfl
@[go_sem] theorem und45 : Try.prog.underlying 45 = some (.array 2 3) := Eq.trans (by kernel_rfl) rfl
@[go_sem] theorem tsz45 : tsz Try.prog 45 = some 2 := Eq.trans (by kernel_rfl) rfl
@[go_sem] theorem tagg45 : tagg Try.prog 45 = some true := Eq.trans (by kernel_rfl) rfl
@[go_sem] theorem telt45 : telt Try.prog 45 = some ((some 2), 1) := Eq.trans (by kernel_rfl) rfl
@[go_sem] theorem tpl45 : tpl Try.prog 45 = some (plA 1) := Eq.trans (by kernel_rfl) rfl
@[go_sem] theorem aeq45 (d : Nat) (a b : List PV) : aeqD Try.prog d 45 (some (.array 2 3)) (.agg a) (.agg b) = aeqA (aeqT Try.prog d 3) Try.prog 3 1 2 0 a b := aeqD_array tsz3
@[go_sem] theorem eqg45 : Try.prog.eqGuardType Try.prog.depth 45 = false := Eq.trans (by kernel_rfl) rfl
@[go_sem] theorem zcells45 : zcells Try.prog 45 = some [.int .i64 0, .int .i64 0] := Eq.trans (by kernel_rfl) rfl
@[go_sem] theorem und47 : Try.prog.underlying 47 = some (.int .u64) := Eq.trans (by kernel_rfl) rfl
@[go_sem] theorem tsz47 : tsz Try.prog 47 = some 1 := Eq.trans (by kernel_rfl) rfl
@[go_sem] theorem tagg47 : tagg Try.prog 47 = some false := Eq.trans (by kernel_rfl) rfl
@[go_sem] theorem zcells47 : zcells Try.prog 47 = some [.int .u64 0] := Eq.trans (by kernel_rfl) rfl
@[go_sem] theorem und48 : Try.prog.underlying 48 = some (.slice 3) := Eq.trans (by kernel_rfl) rfl
@[go_sem] theorem tsz48 : tsz Try.prog 48 = some 1 := Eq.trans (by kernel_rfl) rfl
@[go_sem] theorem tagg48 : tagg Try.prog 48 = some false := Eq.trans (by kernel_rfl) rfl
@[go_sem] theorem telt48 : telt Try.prog 48 = some (none, 1) := Eq.trans (by kernel_rfl) rfl
@[go_sem] theorem litF48 : litF Try.prog 48 = some 1 := Eq.trans (by kernel_rfl) rfl
@[go_sem] theorem appF48 : appF Try.prog 48 = some (1, 8) := Eq.trans (by kernel_rfl) rfl
@[go_sem] theorem aapp0_48 (H : List AM.Obj) (u : TypeId) (y : V) : aapp Try.prog H 48 u (.p (.list true [])) y = app0 H (some (1, 8)) (asrcB (Try.prog.underlying u) H y) := aapp_nil appF48
@[go_sem] theorem aapp1_48 (H : List AM.Obj) (u : TypeId) (o n : Nat) (y : V) : aapp Try.prog H 48 u (.sl o 0 n n) y = app1 H (some (1, 8)) (oat H o) o n (asrcB (Try.prog.underlying u) H y) := aapp_own appF48
@[go_sem] theorem makeF48 : makeF Try.prog 48 = some (1, 8, .int .i64 0) := Eq.trans (by kernel_rfl) rfl
@[go_sem] theorem amk48 (H : List AM.Obj) (fr : List V) (x y : Operand) : amem Try.prog (.makeSlice 48 x y) fr H = amakeB (some (1, 8, .int .i64 0)) H (ev fr x) (ev fr y) := amem_makeB makeF48
@[go_sem] theorem zcells48 : zcells Try.prog 48 = some [.list true []] := Eq.trans (by kernel_rfl) rfl
@[go_sem] theorem tsz50 : tsz Try.prog 50 = some 4 := Eq.trans (by kernel_rfl) rfl
@[go_sem] theorem tagg50 : tagg Try.prog 50 = some true := Eq.trans (by kernel_rfl) rfl
@[go_sem] theorem tfld50_0 : tfld Try.prog 50 0 = some 0 := Eq.trans (by kernel_rfl) rfl
@[go_sem] theorem tfv50_0 : tfv Try.prog 50 0 = some (3, 0) := Eq.trans (by kernel_rfl) rfl
@[go_sem] theorem tfld50_1 : tfld Try.prog 50 1 = some 1 := Eq.trans (by kernel_rfl) rfl
@[go_sem] theorem tfv50_1 : tfv Try.prog 50 1 = some (3, 1) := Eq.trans (by kernel_rfl) rfl
@[go_sem] theorem tfld50_2 : tfld Try.prog 50 2 = some 2 := Eq.trans (by kernel_rfl) rfl
@[go_sem] theorem tfv50_2 : tfv Try.prog 50 2 = some (3, 2) := Eq.trans (by kernel_rfl) rfl
@[go_sem] theorem tfld50_3 : tfld Try.prog 50 3 = some 3 := Eq.trans (by kernel_rfl) rfl
@[go_sem] theorem tfv50_3 : tfv Try.prog 50 3 = some (3, 3) := Eq.trans (by kernel_rfl) rfl
@[go_sem] theorem stood50 : Try.prog.stoodInHeld 50 = false := Eq.trans (by kernel_rfl) rfl
@[go_sem] theorem tpl50 : tpl Try.prog 50 = some (plL [(0, 1), (1, 1), (2, 1), (3, 1)]) := Eq.trans (by kernel_rfl) rfl
@[go_sem] theorem aeq50 (d : Nat) (a b : List PV) : aeqD Try.prog d 50 (Try.prog.underlying 50) (.agg a) (.agg b) = oand (eqP (aeqT Try.prog d 3) (apart Try.prog 3 a 0) (apart Try.prog 3 b 0)) (oand (eqP (aeqT Try.prog d 3) (apart Try.prog 3 a 1) (apart Try.prog 3 b 1)) (oand (eqP (aeqT Try.prog d 3) (apart Try.prog 3 a 2) (apart Try.prog 3 b 2)) (oand (eqP (aeqT Try.prog d 3) (apart Try.prog 3 a 3) (apart Try.prog 3 b 3)) (some true)))) := by rw [Try.underlying50, aeqD_struct stood50]; simp [aeqF_cons, aeqF_nil]
@[go_sem] theorem eqg50 : Try.prog.eqGuardType Try.prog.depth 50 = false := Eq.trans (by kernel_rfl) rfl
@[go_sem] theorem zcells50 : zcells Try.prog 50 = some [.int .i64 0, .int .i64 0, .int .i64 0, .int .i64 0] := Eq.trans (by kernel_rfl) rfl
@[go_sem] theorem tsz52 : tsz Try.prog 52 = some 16 := Eq.trans (by kernel_rfl) rfl
@[go_sem] theorem tagg52 : tagg Try.prog 52 = some true := Eq.trans (by kernel_rfl) rfl
@[go_sem] theorem tfld52_0 : tfld Try.prog 52 0 = some 0 := Eq.trans (by kernel_rfl) rfl
@[go_sem] theorem tfv52_0 : tfv Try.prog 52 0 = some (9, 0) := Eq.trans (by kernel_rfl) rfl
@[go_sem] theorem tfld52_1 : tfld Try.prog 52 1 = some 1 := Eq.trans (by kernel_rfl) rfl
@[go_sem] theorem tfv52_1 : tfv Try.prog 52 1 = some (48, 1) := Eq.trans (by kernel_rfl) rfl
@[go_sem] theorem tfld52_2 : tfld Try.prog 52 2 = some 2 := Eq.trans (by kernel_rfl) rfl
@[go_sem] theorem tfv52_2 : tfv Try.prog 52 2 = some (50, 2) := Eq.trans (by kernel_rfl) rfl
@[go_sem] theorem tfld52_3 : tfld Try.prog 52 3 = some 6 := Eq.trans (by kernel_rfl) rfl
@[go_sem] theorem tfv52_3 : tfv Try.prog 52 3 = some (50, 6) := Eq.trans (by kernel_rfl) rfl
@[go_sem] theorem tfld52_4 : tfld Try.prog 52 4 = some 10 := Eq.trans (by kernel_rfl) rfl
@[go_sem] theorem tfv52_4 : tfv Try.prog 52 4 = some (3, 10) := Eq.trans (by kernel_rfl) rfl
@[go_sem] theorem tfld52_5 : tfld Try.prog 52 5 = some 11 := Eq.trans (by kernel_rfl) rfl
@[go_sem] theorem tfv52_5 : tfv Try.prog 52 5 = some (3, 11) := Eq.trans (by kernel_rfl) rfl
@[go_sem] theorem tfld52_6 : tfld Try.prog 52 6 = some 12 := Eq.trans (by kernel_rfl) rfl
@[go_sem] theorem tfv52_6 : tfv Try.prog 52 6 = some (3, 12) := Eq.trans (by kernel_rfl) rfl
@[go_sem] theorem tfld52_7 : tfld Try.prog 52 7 = some 13 := Eq.trans (by kernel_rfl) rfl
@[go_sem] theorem tfv52_7 : tfv Try.prog 52 7 = some (3, 13) := Eq.trans (by kernel_rfl) rfl
@[go_sem] theorem tfld52_8 : tfld Try.prog 52 8 = some 14 := Eq.trans (by kernel_rfl) rfl
@[go_sem] theorem tfv52_8 : tfv Try.prog 52 8 = some (3, 14) := Eq.trans (by kernel_rfl) rfl
@[go_sem] theorem tfld52_9 : tfld Try.prog 52 9 = some 15 := Eq.trans (by kernel_rfl) rfl
@[go_sem] theorem tfv52_9 : tfv Try.prog 52 9 = some (4, 15) := Eq.trans (by kernel_rfl) rfl
@[go_sem] theorem stood52 : Try.prog.stoodInHeld 52 = false := Eq.trans (by kernel_rfl) rfl
@[go_sem] theorem tpl52 : tpl Try.prog 52 = some (plL [(0, 1), (1, 1), (2, 4), (6, 4), (10, 1), (11, 1), (12, 1), (13, 1), (14, 1), (15, 1)]) := Eq.trans (by kernel_rfl) rfl
@[go_sem] theorem aeq52 (d : Nat) (a b : List PV) : aeqD Try.prog d 52 (Try.prog.underlying 52) (.agg a) (.agg b) = oand (eqP (aeqT Try.prog d 9) (apart Try.prog 9 a 0) (apart Try.prog 9 b 0)) (oand (eqP (aeqT Try.prog d 48) (apart Try.prog 48 a 1) (apart Try.prog 48 b 1)) (oand (eqP (aeqT Try.prog d 50) (apart Try.prog 50 a 2) (apart Try.prog 50 b 2)) (oand (eqP (aeqT Try.prog d 50) (apart Try.prog 50 a 6) (apart Try.prog 50 b 6)) (oand (eqP (aeqT Try.prog d 3) (apart Try.prog 3 a 10) (apart Try.prog 3 b 10)) (oand (eqP (aeqT Try.prog d 3) (apart Try.prog 3 a 11) (apart Try.prog 3 b 11)) (oand (eqP (aeqT Try.prog d 3) (apart Try.prog 3 a 12) (apart Try.prog 3 b 12)) (oand (eqP (aeqT Try.prog d 3) (apart Try.prog 3 a 13) (apart Try.prog 3 b 13)) (oand (eqP (aeqT Try.prog d 3) (apart Try.prog 3 a 14) (apart Try.prog 3 b 14)) (oand (eqP (aeqT Try.prog d 4) (apart Try.prog 4 a 15) (apart Try.prog 4 b 15)) (some true)))))))))) := by rw [Try.underlying52, aeqD_struct stood52]; simp [aeqF_cons, aeqF_nil]
@[go_sem] theorem eqg52 : Try.prog.eqGuardType Try.prog.depth 52 = false := Eq.trans (by kernel_rfl) rfl
@[go_sem] theorem zcells52 : zcells Try.prog 52 = some [.str [], .list true [], .int .i64 0, .int .i64 0, .int .i64 0, .int .i64 0, .int .i64 0, .int .i64 0, .int .i64 0, .int .i64 0, .int .i64 0, .int .i64 0, .int .i64 0, .int .i64 0, .int .i64 0, .bool false] := Eq.trans (by kernel_rfl) rfl
@[go_sem] theorem und65 : Try.prog.underlying 65 = some (.slice 5) := Eq.trans (by kernel_rfl) rfl
@[go_sem] theorem tsz65 : tsz Try.prog 65 = some 1 := Eq.trans (by kernel_rfl) rfl
@[go_sem] theorem tagg65 : tagg Try.prog 65 = some false := Eq.trans (by kernel_rfl) rfl
@[go_sem] theorem telt65 : telt Try.prog 65 = some (none, 1) := Eq.trans (by kernel_rfl) rfl
@[go_sem] theorem litF65 : litF Try.prog 65 = some 1 := Eq.trans (by kernel_rfl) rfl
@[go_sem] theorem appF65 : appF Try.prog 65 = some (1, 1) := Eq.trans (by kernel_rfl) rfl
@[go_sem] theorem aapp0_65 (H : List AM.Obj) (u : TypeId) (y : V) : aapp Try.prog H 65 u (.p (.list true [])) y = app0 H (some (1, 1)) (asrcB (Try.prog.underlying u) H y) := aapp_nil appF65
@[go_sem] theorem aapp1_65 (H : List AM.Obj) (u : TypeId) (o n : Nat) (y : V) : aapp Try.prog H 65 u (.sl o 0 n n) y = app1 H (some (1, 1)) (oat H o) o n (asrcB (Try.prog.underlying u) H y) := aapp_own appF65
@[go_sem] theorem makeF65 : makeF Try.prog 65 = some (1, 1, .int .u8 0) := Eq.trans (by kernel_rfl) rfl
@[go_sem] theorem amk65 (H : List AM.Obj) (fr : List V) (x y : Operand) : amem Try.prog (.makeSlice 65 x y) fr H = amakeB (some (1, 1, .int .u8 0)) H (ev fr x) (ev fr y) := amem_makeB makeF65
@[go_sem] theorem zcells65 : zcells Try.prog 65 = some [.list true []] := Eq.trans (by kernel_rfl) rfl
@[go_sem] theorem und82 : Try.prog.underlying 82 = some (.slice 89) := Eq.trans (by kernel_rfl) rfl
@[go_sem] theorem tsz82 : tsz Try.prog 82 = some 1 := Eq.trans (by kernel_rfl) rfl
@[go_sem] theorem tagg82 : tagg Try.prog 82 = some false := Eq.trans (by kernel_rfl) rfl
@[go_sem] theorem telt82 : telt Try.prog 82 = some (none, 2) := Eq.trans (by kernel_rfl) rfl
@[go_sem] theorem litF82 : litF Try.prog 82 = some 2 := Eq.trans (by kernel_rfl) rfl
@[go_sem] theorem appF82 : appF Try.prog 82 = some (2, 16) := Eq.trans (by kernel_rfl) rfl
@[go_sem] theorem aapp0_82 (H : List AM.Obj) (u : TypeId) (y : V) : aapp Try.prog H 82 u (.p (.list true [])) y = app0 H (some (2, 16)) (asrcB (Try.prog.underlying u) H y) := aapp_nil appF82
@[go_sem] theorem aapp1_82 (H : List AM.Obj) (u : TypeId) (o n : Nat) (y : V) : aapp Try.prog H 82 u (.sl o 0 n n) y = app1 H (some (2, 16)) (oat H o) o n (asrcB (Try.prog.underlying u) H y) := aapp_own appF82
@[go_sem] theorem makeF82 : makeF Try.prog 82 = some (2, 16, .agg [.int .i64 0, .int .i64 0]) := Eq.trans (by kernel_rfl) rfl
@[go_sem] theorem amk82 (H : List AM.Obj) (fr : List V) (x y : Operand) : amem Try.prog (.makeSlice 82 x y) fr H = amakeB (some (2, 16, .agg [.int .i64 0, .int .i64 0])) H (ev fr x) (ev fr y) := amem_makeB makeF82
@[go_sem] theorem zcells82 : zcells Try.prog 82 = some [.list true []] := Eq.trans (by kernel_rfl) rfl
@[go_sem] theorem tsz84 : tsz Try.prog 84 = some 6 := Eq.trans (by kernel_rfl) rfl
@[go_sem] theorem tagg84 : tagg Try.prog 84 = some true := Eq.trans (by kernel_rfl) rfl
@[go_sem] theorem tfld84_0 : tfld Try.prog 84 0 = some 0 := Eq.trans (by kernel_rfl) rfl
@[go_sem] theorem tfv84_0 : tfv Try.prog 84 0 = some (3, 0) := Eq.trans (by kernel_rfl) rfl
@[go_sem] theorem tfld84_1 : tfld Try.prog 84 1 = some 1 := Eq.trans (by kernel_rfl) rfl
@[go_sem] theorem tfv84_1 : tfv Try.prog 84 1 = some (3, 1) := Eq.trans (by kernel_rfl) rfl
@[go_sem] theorem tfld84_2 : tfld Try.prog 84 2 = some 2 := Eq.trans (by kernel_rfl) rfl
@[go_sem] theorem tfv84_2 : tfv Try.prog 84 2 = some (3, 2) := Eq.trans (by kernel_rfl) rfl
@[go_sem] theorem tfld84_3 : tfld Try.prog 84 3 = some 3 := Eq.trans (by kernel_rfl) rfl
@[go_sem] theorem tfv84_3 : tfv Try.prog 84 3 = some (3, 3) := Eq.trans (by kernel_rfl) rfl
@[go_sem] theorem tfld84_4 : tfld Try.prog 84 4 = some 4 := Eq.trans (by kernel_rfl) rfl
@[go_sem] theorem tfv84_4 : tfv Try.prog 84 4 = some (82, 4) := Eq.trans (by kernel_rfl) rfl
@[go_sem] theorem tfld84_5 : tfld Try.prog 84 5 = some 5 := Eq.trans (by kernel_rfl) rfl
@[go_sem] theorem tfv84_5 : tfv Try.prog 84 5 = some (82, 5) := Eq.trans (by kernel_rfl) rfl
@[go_sem] theorem stood84 : Try.prog.stoodInHeld 84 = false := Eq.trans (by kernel_rfl) rfl
@[go_sem] theorem tpl84 : tpl Try.prog 84 = some (plL [(0, 1), (1, 1), (2, 1), (3, 1), (4, 1), (5, 1)]) := Eq.trans (by kernel_rfl) rfl
@[go_sem] theorem aeq84 (d : Nat) (a b : List PV) : aeqD Try.prog d 84 (Try.prog.underlying 84) (.agg a) (.agg b) = oand (eqP (aeqT Try.prog d 3) (apart Try.prog 3 a 0) (apart Try.prog 3 b 0)) (oand (eqP (aeqT Try.prog d 3) (apart Try.prog 3 a 1) (apart Try.prog 3 b 1)) (oand (eqP (aeqT Try.prog d 3) (apart Try.prog 3 a 2) (apart Try.prog 3 b 2)) (oand (eqP (aeqT Try.prog d 3) (apart Try.prog 3 a 3) (apart Try.prog 3 b 3)) (oand (eqP (aeqT Try.prog d 82) (apart Try.prog 82 a 4) (apart Try.prog 82 b 4)) (oand (eqP (aeqT Try.prog d 82) (apart Try.prog 82 a 5) (apart Try.prog 82 b 5)) (some true)))))) := by rw [Try.underlying84, aeqD_struct stood84]; simp [aeqF_cons, aeqF_nil]
@[go_sem] theorem eqg84 : Try.prog.eqGuardType Try.prog.depth 84 = false := Eq.trans (by kernel_rfl) rfl
@[go_sem] theorem zcells84 : zcells Try.prog 84 = some [.int .i64 0, .int .i64 0, .int .i64 0, .int .i64 0, .list true [], .list true []] := Eq.trans (by kernel_rfl) rfl
@[go_sem] theorem tsz86 : tsz Try.prog 86 = some 14 := Eq.trans (by kernel_rfl) rfl
@[go_sem] theorem tagg86 : tagg Try.prog 86 = some true := Eq.trans (by kernel_rfl) rfl
@[go_sem] theorem tfld86_0 : tfld Try.prog 86 0 = some 0 := Eq.trans (by kernel_rfl) rfl
@[go_sem] theorem tfv86_0 : tfv Try.prog 86 0 = some (9, 0) := Eq.trans (by kernel_rfl) rfl
@[go_sem] theorem tfld86_1 : tfld Try.prog 86 1 = some 1 := Eq.trans (by kernel_rfl) rfl
@[go_sem] theorem tfv86_1 : tfv Try.prog 86 1 = some (3, 1) := Eq.trans (by kernel_rfl) rfl
@[go_sem] theorem tfld86_2 : tfld Try.prog 86 2 = some 2 := Eq.trans (by kernel_rfl) rfl
@[go_sem] theorem tfv86_2 : tfv Try.prog 86 2 = some (3, 2) := Eq.trans (by kernel_rfl) rfl
@[go_sem] theorem tfld86_3 : tfld Try.prog 86 3 = some 3 := Eq.trans (by kernel_rfl) rfl
@[go_sem] theorem tfv86_3 : tfv Try.prog 86 3 = some (3, 3) := Eq.trans (by kernel_rfl) rfl
@[go_sem] theorem tfld86_4 : tfld Try.prog 86 4 = some 4 := Eq.trans (by kernel_rfl) rfl
@[go_sem] theorem tfv86_4 : tfv Try.prog 86 4 = some (48, 4) := Eq.trans (by kernel_rfl) rfl
@[go_sem] theorem tfld86_5 : tfld Try.prog 86 5 = some 5 := Eq.trans (by kernel_rfl) rfl
@[go_sem] theorem tfv86_5 : tfv Try.prog 86 5 = some (3, 5) := Eq.trans (by kernel_rfl) rfl
@[go_sem] theorem tfld86_6 : tfld Try.prog 86 6 = some 6 := Eq.trans (by kernel_rfl) rfl
@[go_sem] theorem tfv86_6 : tfv Try.prog 86 6 = some (3, 6) := Eq.trans (by kernel_rfl) rfl
@[go_sem] theorem tfld86_7 : tfld Try.prog 86 7 = some 7 := Eq.trans (by kernel_rfl) rfl
@[go_sem] theorem tfv86_7 : tfv Try.prog 86 7 = some (3, 7) := Eq.trans (by kernel_rfl) rfl
@[go_sem] theorem tfld86_8 : tfld Try.prog 86 8 = some 8 := Eq.trans (by kernel_rfl) rfl
@[go_sem] theorem tfv86_8 : tfv Try.prog 86 8 = some (3, 8) := Eq.trans (by kernel_rfl) rfl
@[go_sem] theorem tfld86_9 : tfld Try.prog 86 9 = some 9 := Eq.trans (by kernel_rfl) rfl
@[go_sem] theorem tfv86_9 : tfv Try.prog 86 9 = some (3, 9) := Eq.trans (by kernel_rfl) rfl
@[go_sem] theorem tfld86_10 : tfld Try.prog 86 10 = some 10 := Eq.trans (by kernel_rfl) rfl
@[go_sem] theorem tfv86_10 : tfv Try.prog 86 10 = some (3, 10) := Eq.trans (by kernel_rfl) rfl
@[go_sem] theorem tfld86_11 : tfld Try.prog 86 11 = some 11 := Eq.trans (by kernel_rfl) rfl
@[go_sem] theorem tfv86_11 : tfv Try.prog 86 11 = some (3, 11) := Eq.trans (by kernel_rfl) rfl
@[go_sem] theorem tfld86_12 : tfld Try.prog 86 12 = some 12 := Eq.trans (by kernel_rfl) rfl
@[go_sem] theorem tfv86_12 : tfv Try.prog 86 12 = some (3, 12) := Eq.trans (by kernel_rfl) rfl
@[go_sem] theorem tfld86_13 : tfld Try.prog 86 13 = some 13 := Eq.trans (by kernel_rfl) rfl
@[go_sem] theorem tfv86_13 : tfv Try.prog 86 13 = some (3, 13) := Eq.trans (by kernel_rfl) rfl
@[go_sem] theorem stood86 : Try.prog.stoodInHeld 86 = false := Eq.trans (by kernel_rfl) rfl
@[go_sem] theorem tpl86 : tpl Try.prog 86 = some (plL [(0, 1), (1, 1), (2, 1), (3, 1), (4, 1), (5, 1), (6, 1), (7, 1), (8, 1), (9, 1), (10, 1), (11, 1), (12, 1), (13, 1)]) := Eq.trans (by kernel_rfl) rfl
@[go_sem] theorem aeq86 (d : Nat) (a b : List PV) : aeqD Try.prog d 86 (Try.prog.underlying 86) (.agg a) (.agg b) = oand (eqP (aeqT Try.prog d 9) (apart Try.prog 9 a 0) (apart Try.prog 9 b 0)) (oand (eqP (aeqT Try.prog d 3) (apart Try.prog 3 a 1) (apart Try.prog 3 b 1)) (oand (eqP (aeqT Try.prog d 3) (apart Try.prog 3 a 2) (apart Try.prog 3 b 2)) (oand (eqP (aeqT Try.prog d 3) (apart Try.prog 3 a 3) (apart Try.prog 3 b 3)) (oand (eqP (aeqT Try.prog d 48) (apart Try.prog 48 a 4) (apart Try.prog 48 b 4)) (oand (eqP (aeqT Try.prog d 3) (apart Try.prog 3 a 5) (apart Try.prog 3 b 5)) (oand (eqP (aeqT Try.prog d 3) (apart Try.prog 3 a 6) (apart Try.prog 3 b 6)) (oand (eqP (aeqT Try.prog d 3) (apart Try.prog 3 a 7) (apart Try.prog 3 b 7)) (oand (eqP (aeqT Try.prog d 3) (apart Try.prog 3 a 8) (apart Try.prog 3 b 8)) (oand (eqP (aeqT Try.prog d 3) (apart Try.prog 3 a 9) (apart Try.prog 3 b 9)) (oand (eqP (aeqT Try.prog d 3) (apart Try.prog 3 a 10) (apart Try.prog 3 b 10)) (oand (eqP (aeqT Try.prog d 3) (apart Try.prog 3 a 11) (apart Try.prog 3 b 11)) (oand (eqP (aeqT Try.prog d 3) (apart Try.prog 3 a 12) (apart Try.prog 3 b 12)) (oand (eqP (aeqT Try.prog d 3) (apart Try.prog 3 a 13) (apart Try.prog 3 b 13)) (some true)))))))))))))) := by rw [Try.underlying86, aeqD_struct stood86]; simp [aeqF_cons, aeqF_nil]
@[go_sem] theorem eqg86 : Try.prog.eqGuardType Try.prog.depth 86 = false := Eq.trans (by kernel_rfl) rfl
@[go_sem] theorem zcells86 : zcells Try.prog 86 = some [.str [], .int .i64 0, .int .i64 0, .int .i64 0, .list true [], .int .i64 0, .int .i64 0, .int .i64 0, .int .i64 0, .int .i64 0, .int .i64 0, .int .i64 0, .int .i64 0, .int .i64 0] := Eq.trans (by kernel_rfl) rfl
@[go_sem] theorem tsz89 : tsz Try.prog 89 = some 2 := Eq.trans (by kernel_rfl) rfl
@[go_sem] theorem tagg89 : tagg Try.prog 89 = some true := Eq.trans (by kernel_rfl) rfl
@[go_sem] theorem tfld89_0 : tfld Try.prog 89 0 = some 0 := Eq.trans (by kernel_rfl) rfl
@[go_sem] theorem tfv89_0 : tfv Try.prog 89 0 = some (3, 0) := Eq.trans (by kernel_rfl) rfl
@[go_sem] theorem tfld89_1 : tfld Try.prog 89 1 = some 1 := Eq.trans (by kernel_rfl) rfl
@[go_sem] theorem tfv89_1 : tfv Try.prog 89 1 = some (3, 1) := Eq.trans (by kernel_rfl) rfl
@[go_sem] theorem stood89 : Try.prog.stoodInHeld 89 = false := Eq.trans (by kernel_rfl) rfl
@[go_sem] theorem tpl89 : tpl Try.prog 89 = some (plL [(0, 1), (1, 1)]) := Eq.trans (by kernel_rfl) rfl
@[go_sem] theorem aeq89 (d : Nat) (a b : List PV) : aeqD Try.prog d 89 (Try.prog.underlying 89) (.agg a) (.agg b) = oand (eqP (aeqT Try.prog d 3) (apart Try.prog 3 a 0) (apart Try.prog 3 b 0)) (oand (eqP (aeqT Try.prog d 3) (apart Try.prog 3 a 1) (apart Try.prog 3 b 1)) (some true)) := by rw [Try.underlying89, aeqD_struct stood89]; simp [aeqF_cons, aeqF_nil]
@[go_sem] theorem eqg89 : Try.prog.eqGuardType Try.prog.depth 89 = false := Eq.trans (by kernel_rfl) rfl
@[go_sem] theorem zcells89 : zcells Try.prog 89 = some [.int .i64 0, .int .i64 0] := Eq.trans (by kernel_rfl) rfl
theorem isF2 : IsFun Try.prog 2 := fun args w => Try.call2 args w
theorem isF3 : IsFun Try.prog 3 := fun args w => Try.call3 args w
theorem isF4 : IsFun Try.prog 4 := fun args w => Try.call4 args w
theorem isF5 : IsFun Try.prog 5 := fun args w => Try.call5 args w
theorem isF6 : IsFun Try.prog 6 := fun args w => Try.call6 args w
theorem isF7 : IsFun Try.prog 7 := fun args w => Try.call7 args w
theorem isF8 : IsFun Try.prog 8 := fun args w => Try.call8 args w
theorem isF9 : IsFun Try.prog 9 := fun args w => Try.call9 args w
theorem isF10 : IsFun Try.prog 10 := fun args w => Try.call10 args w
theorem isF11 : IsFun Try.prog 11 := fun args w => Try.call11 args w
theorem isF12 : IsFun Try.prog 12 := fun args w => Try.call12 args w
theorem isF13 : IsFun Try.prog 13 := fun args w => Try.call13 args w
theorem isF14 : IsFun Try.prog 14 := fun args w => Try.call14 args w
theorem isF15 : IsFun Try.prog 15 := fun args w => Try.call15 args w
theorem isF16 : IsFun Try.prog 16 := fun args w => Try.call16 args w
theorem isF17 : IsFun Try.prog 17 := fun args w => Try.call17 args w
theorem isF18 : IsFun Try.prog 18 := fun args w => Try.call18 args w
theorem isF19 : IsFun Try.prog 19 := fun args w => Try.call19 args w
theorem isF20 : IsFun Try.prog 20 := fun args w => Try.call20 args w
theorem isF21 : IsFun Try.prog 21 := fun args w => Try.call21 args w
theorem isF22 : IsFun Try.prog 22 := fun args w => Try.call22 args w
theorem isF23 : IsFun Try.prog 23 := fun args w => Try.call23 args w
theorem isF24 : IsFun Try.prog 24 := fun args w => Try.call24 args w
theorem isF25 : IsFun Try.prog 25 := fun args w => Try.call25 args w
theorem isF26 : IsFun Try.prog 26 := fun args w => Try.call26 args w
theorem isF27 : IsFun Try.prog 27 := fun args w => Try.call27 args w
theorem isF28 : IsFun Try.prog 28 := fun args w => Try.call28 args w
theorem isF29 : IsFun Try.prog 29 := fun args w => Try.call29 args w
theorem isF30 : IsFun Try.prog 30 := fun args w => Try.call30 args w
theorem isF31 : IsFun Try.prog 31 := fun args w => Try.call31 args w
theorem isF32 : IsFun Try.prog 32 := fun args w => Try.call32 args w
theorem isF33 : IsFun Try.prog 33 := fun args w => Try.call33 args w
theorem isF34 : IsFun Try.prog 34 := fun args w => Try.call34 args w
theorem isF35 : IsFun Try.prog 35 := fun args w => Try.call35 args w
theorem isF36 : IsFun Try.prog 36 := fun args w => Try.call36 args w
theorem isF37 : IsFun Try.prog 37 := fun args w => Try.call37 args w
theorem mixed : Try.prog.follows .mixedOrders = true := by kernel_rfl
end Go.Proofs.Ytalmcdllbibknaa.K
