/- Declarations that the closing texts need, part 3: joined by tools/slim.py. -/
import Derived.Test.YtlbhefiehkmhjaaZ2
import Derived.KernelRfl
import Derived.Test.YtlbhefiehkmhjaaProg
namespace Go.Proofs.Ytlbhefiehkmhjaa.K
open Go Go.AM Go.Proofs
@[go_sem] theorem und3 : Try.prog.underlying 3 = some (.int .i64) := Eq.trans (by kernel_rfl) rfl
@[go_sem] theorem tsz3 : tsz Try.prog 3 = some 1 := Eq.trans (by kernel_rfl) rfl
@[go_sem] theorem tagg3 : tagg Try.prog 3 = some false := Eq.trans (by kernel_rfl) rfl
@[go_sem] theorem zcells3 : zcells Try.prog 3 = some [.int .i64 0] := Eq.trans (by kernel_rfl) rfl
@[go_sem] theorem und4 : Try.prog.underlying 4 = some .bool := Eq.trans (by kernel_rfl) rfl
@[go_sem] theorem tsz4 : tsz Try.prog 4 = some 1 := Eq.trans (by kernel_rfl) rfl
@[go_sem] theorem tagg4 : tagg Try.prog 4 = some false := Eq.trans (by kernel_rfl) rfl
@[go_sem] theorem zcells4 : zcells Try.prog 4 = some [.bool false] := Eq.trans (by kernel_rfl) rfl
@[go_sem] theorem und5 : Try.prog.underlying 5 = some (.int .u8) := Eq.trans (by kernel_rfl) rfl
@[go_sem] theorem tsz5 : tsz Try.prog 5 = some 1 := Eq.trans (by kernel_rfl) rfl
@[go_sem] theorem tagg5 : tagg Try.prog 5 = some false := Eq.trans (by kernel_rfl) rfl
@[go_sem] theorem zcells5 : zcells Try.prog 5 = some [.int .u8 0] := Eq.trans (by kernel_rfl) rfl
@[go_sem] theorem und9 : Try.prog.underlying 9 = some .string := Eq.trans (by kernel_rfl) rfl
@[go_sem] theorem tsz9 : tsz Try.prog 9 = some 1 := Eq.trans (by kernel_rfl) rfl
@[go_sem] theorem tagg9 : tagg Try.prog 9 = some false := Eq.trans (by kernel_rfl) rfl
@[go_sem] theorem zcells9 : zcells Try.prog 9 = some [.str []] := Eq.trans (by kernel_rfl) rfl
@[go_sem] theorem und22 : Try.prog.underlying 22 = some (.slice 9) := Eq.trans (by kernel_rfl) rfl
@[go_sem] theorem tsz22 : tsz Try.prog 22 = some 1 := Eq.trans (by kernel_rfl) rfl
@[go_sem] theorem tagg22 : tagg Try.prog 22 = some false := Eq.trans (by kernel_rfl) rfl
@[go_sem] theorem telt22 : telt Try.prog 22 = some (none, 1) := Eq.trans (by kernel_rfl) rfl
@[go_sem] theorem litF22 : litF Try.prog 22 = some 1 := Eq.trans (by kernel_rfl) rfl
@[go_sem] theorem appF22 : appF Try.prog 22 = some (1, 16) := Eq.trans (by kernel_rfl) rfl
@[go_sem] theorem aapp1_22 (H : List AM.Obj) (u : TypeId) (o n : Nat) (y : V) : aapp Try.prog H 22 u (.sl o 0 n n) y = app1 H (some (1, 16)) (oat H o) o n (asrcB (Try.prog.underlying u) H y) := aapp_own appF22
@[go_sem] theorem zcells22 : zcells Try.prog 22 = some [.list true []] := Eq.trans (by kernel_rfl) rfl
@[go_sem] theorem und23 : Try.prog.underlying 23 = some (.slice 134) := Eq.trans (by kernel_rfl) rfl
@[go_sem] theorem tsz23 : tsz Try.prog 23 = some 1 := Eq.trans (by kernel_rfl) rfl
@[go_sem] theorem tagg23 : tagg Try.prog 23 = some false := Eq.trans (by kernel_rfl) rfl
@[go_sem] theorem telt23 : telt Try.prog 23 = some (none, 6) := Eq.trans (by kernel_rfl) rfl
@[go_sem] theorem litF23 : litF Try.prog 23 = some 6 := Eq.trans (by kernel_rfl) rfl
@[go_sem] theorem appF23 : appF Try.prog 23 = some (6, 80) := Eq.trans (by kernel_rfl) rfl
@[go_sem] theorem aapp1_23 (H : List AM.Obj) (u : TypeId) (o n : Nat) (y : V) : aapp Try.prog H 23 u (.sl o 0 n n) y = app1 H (some (6, 80)) (oat H o) o n (asrcB (Try.prog.underlying u) H y) := aapp_own appF23
@[go_sem] theorem zcells23 : zcells Try.prog 23 = some [.list true []] := Eq.trans (by kernel_rfl) rfl
@[go_sem] theorem tsz25 : tsz Try.prog 25 = some 2 := Eq.trans (by kernel_rfl) rfl
@[go_sem] theorem tagg25 : tagg Try.prog 25 = some true := Eq.trans (by kernel_rfl) rfl
@[go_sem] theorem tfld25_0 : tfld Try.prog 25 0 = some 0 := Eq.trans (by kernel_rfl) rfl
@[go_sem] theorem tfld25_1 : tfld Try.prog 25 1 = some 1 := Eq.trans (by kernel_rfl) rfl
@[go_sem] theorem stood25 : Try.prog.stoodInHeld 25 = false := Eq.trans (by kernel_rfl) rfl
@[go_sem] theorem tpl25 : tpl Try.prog 25 = some (plL [(0, 1), (1, 1)]) := Eq.trans (by kernel_rfl) rfl
@[go_sem] theorem aeq25 (d : Nat) (a b : List PV) : aeqD Try.prog d 25 (Try.prog.underlying 25) (.agg a) (.agg b) = oand (eqP (aeqT Try.prog d 22) (apart Try.prog 22 a 0) (apart Try.prog 22 b 0)) (oand (eqP (aeqT Try.prog d 23) (apart Try.prog 23 a 1) (apart Try.prog 23 b 1)) (some true)) := by rw [Try.underlying25, aeqD_struct stood25]; simp [aeqF_cons, aeqF_nil]
@[go_sem] theorem eqg25 : Try.prog.eqGuardType Try.prog.depth 25 = false := Eq.trans (by kernel_rfl) rfl
@[go_sem] theorem zcells25 : zcells Try.prog 25 = some [.list true [], .list true []] := Eq.trans (by kernel_rfl) rfl
@[go_sem] theorem und26 : Try.prog.underlying 26 = some (.slice 94) := Eq.trans (by kernel_rfl) rfl
@[go_sem] theorem tsz26 : tsz Try.prog 26 = some 1 := Eq.trans (by kernel_rfl) rfl
@[go_sem] theorem tagg26 : tagg Try.prog 26 = some false := Eq.trans (by kernel_rfl) rfl
@[go_sem] theorem telt26 : telt Try.prog 26 = some (none, 14) := Eq.trans (by kernel_rfl) rfl
@[go_sem] theorem litF26 : litF Try.prog 26 = some 14 := Eq.trans (by kernel_rfl) rfl
@[go_sem] theorem appF26 : appF Try.prog 26 = some (14, 136) := Eq.trans (by kernel_rfl) rfl
@[go_sem] theorem aapp1_26 (H : List AM.Obj) (u : TypeId) (o n : Nat) (y : V) : aapp Try.prog H 26 u (.sl o 0 n n) y = app1 H (some (14, 136)) (oat H o) o n (asrcB (Try.prog.underlying u) H y) := aapp_own appF26
@[go_sem] theorem zcells26 : zcells Try.prog 26 = some [.list true []] := Eq.trans (by kernel_rfl) rfl
@[go_sem] theorem und27 : Try.prog.underlying 27 = some (.slice 76) := Eq.trans (by kernel_rfl) rfl
@[go_sem] theorem tsz27 : tsz Try.prog 27 = some 1 := Eq.trans (by kernel_rfl) rfl
@[go_sem] theorem tagg27 : tagg Try.prog 27 = some false := Eq.trans (by kernel_rfl) rfl
@[go_sem] theorem telt27 : telt Try.prog 27 = some (none, 16) := Eq.trans (by kernel_rfl) rfl
@[go_sem] theorem litF27 : litF Try.prog 27 = some 16 := Eq.trans (by kernel_rfl) rfl
@[go_sem] theorem appF27 : appF Try.prog 27 = some (16, 152) := Eq.trans (by kernel_rfl) rfl
@[go_sem] theorem aapp1_27 (H : List AM.Obj) (u : TypeId) (o n : Nat) (y : V) : aapp Try.prog H 27 u (.sl o 0 n n) y = app1 H (some (16, 152)) (oat H o) o n (asrcB (Try.prog.underlying u) H y) := aapp_own appF27
@[go_sem] theorem zcells27 : zcells Try.prog 27 = some [.list true []] := Eq.trans (by kernel_rfl) rfl
@[go_sem] theorem und28 : Try.prog.underlying 28 = some (.slice 79) := Eq.trans (by kernel_rfl) rfl
@[go_sem] theorem tsz28 : tsz Try.prog 28 = some 1 := Eq.trans (by kernel_rfl) rfl
@[go_sem] theorem tagg28 : tagg Try.prog 28 = some false := Eq.trans (by kernel_rfl) rfl
@[go_sem] theorem telt28 : telt Try.prog 28 = some (none, 2) := Eq.trans (by kernel_rfl) rfl
@[go_sem] theorem litF28 : litF Try.prog 28 = some 2 := Eq.trans (by kernel_rfl) rfl
@[go_sem] theorem appF28 : appF Try.prog 28 = some (2, 16) := Eq.trans (by kernel_rfl) rfl
@[go_sem] theorem aapp1_28 (H : List AM.Obj) (u : TypeId) (o n : Nat) (y : V) : aapp Try.prog H 28 u (.sl o 0 n n) y = app1 H (some (2, 16)) (oat H o) o n (asrcB (Try.prog.underlying u) H y) := aapp_own appF28
@[go_sem] theorem zcells28 : zcells Try.prog 28 = some [.list true []] := Eq.trans (by kernel_rfl) rfl
@[go_sem] theorem tsz30 : tsz Try.prog 30 = some 6 := Eq.trans (by kernel_rfl) rfl
@[go_sem] theorem tagg30 : tagg Try.prog 30 = some true := Eq.trans (by kernel_rfl) rfl
@[go_sem] theorem tfld30_0 : tfld Try.prog 30 0 = some 0 := Eq.trans (by kernel_rfl) rfl
@[go_sem] theorem tfld30_1 : tfld Try.prog 30 1 = some 2 := Eq.trans (by kernel_rfl) rfl
@[go_sem] theorem tfld30_2 : tfld Try.prog 30 2 = some 3 := Eq.trans (by kernel_rfl) rfl
@[go_sem] theorem tfld30_3 : tfld Try.prog 30 3 = some 4 := Eq.trans (by kernel_rfl) rfl
@[go_sem] theorem tfld30_4 : tfld Try.prog 30 4 = some 5 := Eq.trans (by kernel_rfl) rfl
@[go_sem] theorem stood30 : Try.prog.stoodInHeld 30 = false := Eq.trans (by kernel_rfl) rfl
@[go_sem] theorem tpl30 : tpl Try.prog 30 = some (plL [(0, 2), (2, 1), (3, 1), (4, 1), (5, 1)]) := Eq.trans (by kernel_rfl) rfl
@[go_sem] theorem aeq30 (d : Nat) (a b : List PV) : aeqD Try.prog d 30 (Try.prog.underlying 30) (.agg a) (.agg b) = oand (eqP (aeqT Try.prog d 25) (apart Try.prog 25 a 0) (apart Try.prog 25 b 0)) (oand (eqP (aeqT Try.prog d 26) (apart Try.prog 26 a 2) (apart Try.prog 26 b 2)) (oand (eqP (aeqT Try.prog d 27) (apart Try.prog 27 a 3) (apart Try.prog 27 b 3)) (oand (eqP (aeqT Try.prog d 28) (apart Try.prog 28 a 4) (apart Try.prog 28 b 4)) (oand (eqP (aeqT Try.prog d 28) (apart Try.prog 28 a 5) (apart Try.prog 28 b 5)) (some true))))) := by rw [Try.underlying30, aeqD_struct stood30]; simp [aeqF_cons, aeqF_nil]
@[go_sem] theorem eqg30 : Try.prog.eqGuardType Try.prog.depth 30 = false := Eq.trans (by kernel_rfl) rfl
@[go_sem] theorem zcells30 : zcells Try.prog 30 = some [.list true [], .list true [], .list true [], .list true [], .list true [], .list true []] := Eq.trans (by kernel_rfl) rfl
@[go_sem] theorem und31 : Try.prog.underlying 31 = some (.slice 4) := Eq.trans (by kernel_rfl) rfl
@[go_sem] theorem tsz31 : tsz Try.prog 31 = some 1 := Eq.trans (by kernel_rfl) rfl
@[go_sem] theorem tagg31 : tagg Try.prog 31 = some false := Eq.trans (by kernel_rfl) rfl
@[go_sem] theorem telt31 : telt Try.prog 31 = some (none, 1) := Eq.trans (by kernel_rfl) rfl
@[go_sem] theorem litF31 : litF Try.prog 31 = some 1 := Eq.trans (by kernel_rfl) rfl
@[go_sem] theorem appF31 : appF Try.prog 31 = some (1, 1) := Eq.trans (by kernel_rfl) rfl
@[go_sem] theorem aapp1_31 (H : List AM.Obj) (u : TypeId) (o n : Nat) (y : V) : aapp Try.prog H 31 u (.sl o 0 n n) y = app1 H (some (1, 1)) (oat H o) o n (asrcB (Try.prog.underlying u) H y) := aapp_own appF31
@[go_sem] theorem zcells31 : zcells Try.prog 31 = some [.list true []] := Eq.trans (by kernel_rfl) rfl
@[go_sem] theorem und32 : Try.prog.underlying 32 = some (.slice 52) := Eq.trans (by kernel_rfl) rfl
@[go_sem] theorem tsz32 : tsz Try.prog 32 = some 1 := Eq.trans (by kernel_rfl) rfl
@[go_sem] theorem tagg32 : tagg Try.prog 32 = some false := Eq.trans (by kernel_rfl) rfl
@[go_sem] theorem telt32 : telt Try.prog 32 = some (none, 2) := Eq.trans (by kernel_rfl) rfl
@[go_sem] theorem litF32 : litF Try.prog 32 = some 2 := Eq.trans (by kernel_rfl) rfl
@[go_sem] theorem appF32 : appF Try.prog 32 = some (2, 16) := Eq.trans (by kernel_rfl) rfl
@[go_sem] theorem aapp1_32 (H : List AM.Obj) (u : TypeId) (o n : Nat) (y : V) : aapp Try.prog H 32 u (.sl o 0 n n) y = app1 H (some (2, 16)) (oat H o) o n (asrcB (Try.prog.underlying u) H y) := aapp_own appF32
@[go_sem] theorem zcells32 : zcells Try.prog 32 = some [.list true []] := Eq.trans (by kernel_rfl) rfl
@[go_sem] theorem tsz34 : tsz Try.prog 34 = some 4 := Eq.trans (by kernel_rfl) rfl
@[go_sem] theorem tagg34 : tagg Try.prog 34 = some true := Eq.trans (by kernel_rfl) rfl
@[go_sem] theorem tfld34_0 : tfld Try.prog 34 0 = some 0 := Eq.trans (by kernel_rfl) rfl
@[go_sem] theorem tfld34_1 : tfld Try.prog 34 1 = some 1 := Eq.trans (by kernel_rfl) rfl
@[go_sem] theorem tfld34_2 : tfld Try.prog 34 2 = some 2 := Eq.trans (by kernel_rfl) rfl
@[go_sem] theorem tfld34_3 : tfld Try.prog 34 3 = some 3 := Eq.trans (by kernel_rfl) rfl
@[go_sem] theorem stood34 : Try.prog.stoodInHeld 34 = false := Eq.trans (by kernel_rfl) rfl
@[go_sem] theorem tpl34 : tpl Try.prog 34 = some (plL [(0, 1), (1, 1), (2, 1), (3, 1)]) := Eq.trans (by kernel_rfl) rfl
@[go_sem] theorem aeq34 (d : Nat) (a b : List PV) : aeqD Try.prog d 34 (Try.prog.underlying 34) (.agg a) (.agg b) = oand (eqP (aeqT Try.prog d 3) (apart Try.prog 3 a 0) (apart Try.prog 3 b 0)) (oand (eqP (aeqT Try.prog d 3) (apart Try.prog 3 a 1) (apart Try.prog 3 b 1)) (oand (eqP (aeqT Try.prog d 31) (apart Try.prog 31 a 2) (apart Try.prog 31 b 2)) (oand (eqP (aeqT Try.prog d 32) (apart Try.prog 32 a 3) (apart Try.prog 32 b 3)) (some true)))) := by rw [Try.underlying34, aeqD_struct stood34]; simp [aeqF_cons, aeqF_nil]
@[go_sem] theorem eqg34 : Try.prog.eqGuardType Try.prog.depth 34 = false := Eq.trans (by kernel_rfl) rfl
@[go_sem] theorem zcells34 : zcells Try.prog 34 = some [.int .i64 0, .int .i64 0, .list true [], .list true []] := Eq.trans (by kernel_rfl) rfl
@[go_sem] theorem und37 : Try.prog.underlying 37 = some (.int .i64) := Eq.trans (by kernel_rfl) rfl
@[go_sem] theorem tsz37 : tsz Try.prog 37 = some 1 := Eq.trans (by kernel_rfl) rfl
@[go_sem] theorem tagg37 : tagg Try.prog 37 = some false := Eq.trans (by kernel_rfl) rfl
@[go_sem] theorem zcells37 : zcells Try.prog 37 = some [.int .i64 0] := Eq.trans (by kernel_rfl) rfl
@[go_sem] theorem und40 : Try.prog.underlying 40 = some (.slice 32) := Eq.trans (by kernel_rfl) rfl
@[go_sem] theorem tsz40 : tsz Try.prog 40 = some 1 := Eq.trans (by kernel_rfl) rfl
@[go_sem] theorem tagg40 : tagg Try.prog 40 = some false := Eq.trans (by kernel_rfl) rfl
@[go_sem] theorem telt40 : telt Try.prog 40 = some (none, 1) := Eq.trans (by kernel_rfl) rfl
@[go_sem] theorem litF40 : litF Try.prog 40 = some 1 := Eq.trans (by kernel_rfl) rfl
@[go_sem] theorem appF40 : appF Try.prog 40 = some (1, 24) := Eq.trans (by kernel_rfl) rfl
@[go_sem] theorem aapp1_40 (H : List AM.Obj) (u : TypeId) (o n : Nat) (y : V) : aapp Try.prog H 40 u (.sl o 0 n n) y = app1 H (some (1, 24)) (oat H o) o n (asrcB (Try.prog.underlying u) H y) := aapp_own appF40
@[go_sem] theorem zcells40 : zcells Try.prog 40 = some [.list true []] := Eq.trans (by kernel_rfl) rfl
@[go_sem] theorem tsz52 : tsz Try.prog 52 = some 2 := Eq.trans (by kernel_rfl) rfl
@[go_sem] theorem tagg52 : tagg Try.prog 52 = some true := Eq.trans (by kernel_rfl) rfl
@[go_sem] theorem tfld52_0 : tfld Try.prog 52 0 = some 0 := Eq.trans (by kernel_rfl) rfl
@[go_sem] theorem tfld52_1 : tfld Try.prog 52 1 = some 1 := Eq.trans (by kernel_rfl) rfl
@[go_sem] theorem stood52 : Try.prog.stoodInHeld 52 = false := Eq.trans (by kernel_rfl) rfl
@[go_sem] theorem tpl52 : tpl Try.prog 52 = some (plL [(0, 1), (1, 1)]) := Eq.trans (by kernel_rfl) rfl
@[go_sem] theorem aeq52 (d : Nat) (a b : List PV) : aeqD Try.prog d 52 (Try.prog.underlying 52) (.agg a) (.agg b) = oand (eqP (aeqT Try.prog d 3) (apart Try.prog 3 a 0) (apart Try.prog 3 b 0)) (oand (eqP (aeqT Try.prog d 4) (apart Try.prog 4 a 1) (apart Try.prog 4 b 1)) (some true)) := by rw [Try.underlying52, aeqD_struct stood52]; simp [aeqF_cons, aeqF_nil]
@[go_sem] theorem eqg52 : Try.prog.eqGuardType Try.prog.depth 52 = false := Eq.trans (by kernel_rfl) rfl
@[go_sem] theorem zcells52 : zcells Try.prog 52 = some [.int .i64 0, .bool false] := Eq.trans (by kernel_rfl) rfl
@[go_sem] theorem tsz55 : tsz Try.prog 55 = some 2 := Eq.trans (by kernel_rfl) rfl
@[go_sem] theorem tagg55 : tagg Try.prog 55 = some true := Eq.trans (by kernel_rfl) rfl
@[go_sem] theorem tfld55_0 : tfld Try.prog 55 0 = some 0 := Eq.trans (by kernel_rfl) rfl
@[go_sem] theorem tfld55_1 : tfld Try.prog 55 1 = some 1 := Eq.trans (by kernel_rfl) rfl
@[go_sem] theorem stood55 : Try.prog.stoodInHeld 55 = false := Eq.trans (by kernel_rfl) rfl
@[go_sem] theorem tpl55 : tpl Try.prog 55 = some (plL [(0, 1), (1, 1)]) := Eq.trans (by kernel_rfl) rfl
@[go_sem] theorem aeq55 (d : Nat) (a b : List PV) : aeqD Try.prog d 55 (Try.prog.underlying 55) (.agg a) (.agg b) = oand (eqP (aeqT Try.prog d 3) (apart Try.prog 3 a 0) (apart Try.prog 3 b 0)) (oand (eqP (aeqT Try.prog d 3) (apart Try.prog 3 a 1) (apart Try.prog 3 b 1)) (some true)) := by rw [Try.underlying55, aeqD_struct stood55]; simp [aeqF_cons, aeqF_nil]
@[go_sem] theorem eqg55 : Try.prog.eqGuardType Try.prog.depth 55 = false := Eq.trans (by kernel_rfl) rfl
@[go_sem] theorem zcells55 : zcells Try.prog 55 = some [.int .i64 0, .int .i64 0] := Eq.trans (by kernel_rfl) rfl
@[go_sem] theorem und57 : Try.prog.underlying 57 = some (.slice 55) := Eq.trans (by kernel_rfl) rfl
@[go_sem] theorem tsz57 : tsz Try.prog 57 = some 1 := Eq.trans (by kernel_rfl) rfl
@[go_sem] theorem tagg57 : tagg Try.prog 57 = some false := Eq.trans (by kernel_rfl) rfl
@[go_sem] theorem telt57 : telt Try.prog 57 = some (none, 2) := Eq.trans (by kernel_rfl) rfl
@[go_sem] theorem litF57 : litF Try.prog 57 = some 2 := Eq.trans (by kernel_rfl) rfl
@[go_sem] theorem appF57 : appF Try.prog 57 = some (2, 16) := Eq.trans (by kernel_rfl) rfl
@[go_sem] theorem aapp1_57 (H : List AM.Obj) (u : TypeId) (o n : Nat) (y : V) : aapp Try.prog H 57 u (.sl o 0 n n) y = app1 H (some (2, 16)) (oat H o) o n (asrcB (Try.prog.underlying u) H y) := aapp_own appF57
@[go_sem] theorem zcells57 : zcells Try.prog 57 = some [.list true []] := Eq.trans (by kernel_rfl) rfl
@[go_sem] theorem und65 : Try.prog.underlying 65 = some (.slice 138) := Eq.trans (by kernel_rfl) rfl
@[go_sem] theorem tsz65 : tsz Try.prog 65 = some 1 := Eq.trans (by kernel_rfl) rfl
@[go_sem] theorem tagg65 : tagg Try.prog 65 = some false := Eq.trans (by kernel_rfl) rfl
@[go_sem] theorem telt65 : telt Try.prog 65 = some (none, 2) := Eq.trans (by kernel_rfl) rfl
@[go_sem] theorem litF65 : litF Try.prog 65 = some 2 := Eq.trans (by kernel_rfl) rfl
@[go_sem] theorem appF65 : appF Try.prog 65 = some (2, 24) := Eq.trans (by kernel_rfl) rfl
@[go_sem] theorem aapp1_65 (H : List AM.Obj) (u : TypeId) (o n : Nat) (y : V) : aapp Try.prog H 65 u (.sl o 0 n n) y = app1 H (some (2, 24)) (oat H o) o n (asrcB (Try.prog.underlying u) H y) := aapp_own appF65
@[go_sem] theorem zcells65 : zcells Try.prog 65 = some [.list true []] := Eq.trans (by kernel_rfl) rfl
@[go_sem] theorem und72 : Try.prog.underlying 72 = some (.slice 3) := Eq.trans (by kernel_rfl) rfl
@[go_sem] theorem tsz72 : tsz Try.prog 72 = some 1 := Eq.trans (by kernel_rfl) rfl
@[go_sem] theorem tagg72 : tagg Try.prog 72 = some false := Eq.trans (by kernel_rfl) rfl
@[go_sem] theorem telt72 : telt Try.prog 72 = some (none, 1) := Eq.trans (by kernel_rfl) rfl
@[go_sem] theorem litF72 : litF Try.prog 72 = some 1 := Eq.trans (by kernel_rfl) rfl
@[go_sem] theorem appF72 : appF Try.prog 72 = some (1, 8) := Eq.trans (by kernel_rfl) rfl
@[go_sem] theorem aapp1_72 (H : List AM.Obj) (u : TypeId) (o n : Nat) (y : V) : aapp Try.prog H 72 u (.sl o 0 n n) y = app1 H (some (1, 8)) (oat H o) o n (asrcB (Try.prog.underlying u) H y) := aapp_own appF72
@[go_sem] theorem zcells72 : zcells Try.prog 72 = some [.list true []] := Eq.trans (by kernel_rfl) rfl
@[go_sem] theorem tsz74 : tsz Try.prog 74 = some 4 := Eq.trans (by kernel_rfl) rfl
@[go_sem] theorem tagg74 : tagg Try.prog 74 = some true := Eq.trans (by kernel_rfl) rfl
@[go_sem] theorem tfld74_0 : tfld Try.prog 74 0 = some 0 := Eq.trans (by kernel_rfl) rfl
@[go_sem] theorem tfld74_1 : tfld Try.prog 74 1 = some 1 := Eq.trans (by kernel_rfl) rfl
@[go_sem] theorem tfld74_2 : tfld Try.prog 74 2 = some 2 := Eq.trans (by kernel_rfl) rfl
@[go_sem] theorem tfld74_3 : tfld Try.prog 74 3 = some 3 := Eq.trans (by kernel_rfl) rfl
@[go_sem] theorem stood74 : Try.prog.stoodInHeld 74 = false := Eq.trans (by kernel_rfl) rfl
@[go_sem] theorem tpl74 : tpl Try.prog 74 = some (plL [(0, 1), (1, 1), (2, 1), (3, 1)]) := Eq.trans (by kernel_rfl) rfl
@[go_sem] theorem aeq74 (d : Nat) (a b : List PV) : aeqD Try.prog d 74 (Try.prog.underlying 74) (.agg a) (.agg b) = oand (eqP (aeqT Try.prog d 3) (apart Try.prog 3 a 0) (apart Try.prog 3 b 0)) (oand (eqP (aeqT Try.prog d 3) (apart Try.prog 3 a 1) (apart Try.prog 3 b 1)) (oand (eqP (aeqT Try.prog d 3) (apart Try.prog 3 a 2) (apart Try.prog 3 b 2)) (oand (eqP (aeqT Try.prog d 3) (apart Try.prog 3 a 3) (apart Try.prog 3 b 3)) (some true)))) := by rw [Try.underlying74, aeqD_struct stood74]; simp [aeqF_cons, aeqF_nil]
@[go_sem] theorem eqg74 : Try.prog.eqGuardType Try.prog.depth 74 = false := Eq.trans (by kernel_rfl) rfl
@[go_sem] theorem zcells74 : zcells Try.prog 74 = some [.int .i64 0, .int .i64 0, .int .i64 0, .int .i64 0] := Eq.trans (by kernel_rfl) rfl
@[go_sem] theorem tsz76 : tsz Try.prog 76 = some 16 := Eq.trans (by kernel_rfl) rfl
@[go_sem] theorem tagg76 : tagg Try.prog 76 = some true := Eq.trans (by kernel_rfl) rfl
@[go_sem] theorem tfld76_0 : tfld Try.prog 76 0 = some 0 := Eq.trans (by kernel_rfl) rfl
@[go_sem] theorem tfld76_1 : tfld Try.prog 76 1 = some 1 := Eq.trans (by kernel_rfl) rfl
@[go_sem] theorem tfld76_2 : tfld Try.prog 76 2 = some 2 := Eq.trans (by kernel_rfl) rfl
@[go_sem] theorem tfld76_3 : tfld Try.prog 76 3 = some 6 := Eq.trans (by kernel_rfl) rfl
@[go_sem] theorem tfld76_4 : tfld Try.prog 76 4 = some 10 := Eq.trans (by kernel_rfl) rfl
@[go_sem] theorem tfld76_5 : tfld Try.prog 76 5 = some 11 := Eq.trans (by kernel_rfl) rfl
@[go_sem] theorem tfld76_6 : tfld Try.prog 76 6 = some 12 := Eq.trans (by kernel_rfl) rfl
@[go_sem] theorem tfld76_7 : tfld Try.prog 76 7 = some 13 := Eq.trans (by kernel_rfl) rfl
@[go_sem] theorem tfld76_8 : tfld Try.prog 76 8 = some 14 := Eq.trans (by kernel_rfl) rfl
@[go_sem] theorem tfld76_9 : tfld Try.prog 76 9 = some 15 := Eq.trans (by kernel_rfl) rfl
@[go_sem] theorem stood76 : Try.prog.stoodInHeld 76 = false := Eq.trans (by kernel_rfl) rfl
@[go_sem] theorem tpl76 : tpl Try.prog 76 = some (plL [(0, 1), (1, 1), (2, 4), (6, 4), (10, 1), (11, 1), (12, 1), (13, 1), (14, 1), (15, 1)]) := Eq.trans (by kernel_rfl) rfl
@[go_sem] theorem aeq76 (d : Nat) (a b : List PV) : aeqD Try.prog d 76 (Try.prog.underlying 76) (.agg a) (.agg b) = oand (eqP (aeqT Try.prog d 9) (apart Try.prog 9 a 0) (apart Try.prog 9 b 0)) (oand (eqP (aeqT Try.prog d 72) (apart Try.prog 72 a 1) (apart Try.prog 72 b 1)) (oand (eqP (aeqT Try.prog d 74) (apart Try.prog 74 a 2) (apart Try.prog 74 b 2)) (oand (eqP (aeqT Try.prog d 74) (apart Try.prog 74 a 6) (apart Try.prog 74 b 6)) (oand (eqP (aeqT Try.prog d 3) (apart Try.prog 3 a 10) (apart Try.prog 3 b 10)) (oand (eqP (aeqT Try.prog d 3) (apart Try.prog 3 a 11) (apart Try.prog 3 b 11)) (oand (eqP (aeqT Try.prog d 3) (apart Try.prog 3 a 12) (apart Try.prog 3 b 12)) (oand (eqP (aeqT Try.prog d 3) (apart Try.prog 3 a 13) (apart Try.prog 3 b 13)) (oand (eqP (aeqT Try.prog d 3) (apart Try.prog 3 a 14) (apart Try.prog 3 b 14)) (oand (eqP (aeqT Try.prog d 4) (apart Try.prog 4 a 15) (apart Try.prog 4 b 15)) (some true)))))))))) := by rw [Try.underlying76, aeqD_struct stood76]; simp [aeqF_cons, aeqF_nil]
@[go_sem] theorem eqg76 : Try.prog.eqGuardType Try.prog.depth 76 = false := Eq.trans (by kernel_rfl) rfl
@[go_sem] theorem zcells76 : zcells Try.prog 76 = some [.str [], .list true [], .int .i64 0, .int .i64 0, .int .i64 0, .int .i64 0, .int .i64 0, .int .i64 0, .int .i64 0, .int .i64 0, .int .i64 0, .int .i64 0, .int .i64 0, .int .i64 0, .int .i64 0, .bool false] := Eq.trans (by kernel_rfl) rfl
@[go_sem] theorem tsz77 : tsz Try.prog 77 = some 1 := Eq.trans (by kernel_rfl) rfl
@[go_sem] theorem tagg77 : tagg Try.prog 77 = some false := Eq.trans (by kernel_rfl) rfl
@[go_sem] theorem zcells77 : zcells Try.prog 77 = some [.nilf] := Eq.trans (by kernel_rfl) rfl
@[go_sem] theorem und79 : Try.prog.underlying 79 = some (.array 2 3) := Eq.trans (by kernel_rfl) rfl
@[go_sem] theorem tsz79 : tsz Try.prog 79 = some 2 := Eq.trans (by kernel_rfl) rfl
@[go_sem] theorem tagg79 : tagg Try.prog 79 = some true := Eq.trans (by kernel_rfl) rfl
@[go_sem] theorem telt79 : telt Try.prog 79 = some ((some 2), 1) := Eq.trans (by kernel_rfl) rfl
@[go_sem] theorem tpl79 : tpl Try.prog 79 = some (plA 1) := Eq.trans (by kernel_rfl) rfl
@[go_sem] theorem aeq79 (d : Nat) (a b : List PV) : aeqD Try.prog d 79 (some (.array 2 3)) (.agg a) (.agg b) = aeqA (aeqT Try.prog d 3) Try.prog 3 1 2 0 a b := aeqD_array tsz3
@[go_sem] theorem eqg79 : Try.prog.eqGuardType Try.prog.depth 79 = false := Eq.trans (by kernel_rfl) rfl
@[go_sem] theorem zcells79 : zcells Try.prog 79 = some [.int .i64 0, .int .i64 0] := Eq.trans (by kernel_rfl) rfl
@[go_sem] theorem und90 : Try.prog.underlying 90 = some (.int .u64) := Eq.trans (by kernel_rfl) rfl
@[go_sem] theorem tsz90 : tsz Try.prog 90 = some 1 := Eq.trans (by kernel_rfl) rfl
@[go_sem] theorem tagg90 : tagg Try.prog 90 = some false := Eq.trans (by kernel_rfl) rfl
@[go_sem] theorem zcells90 : zcells Try.prog 90 = some [.int .u64 0] := Eq.trans (by kernel_rfl) rfl
@[go_sem] theorem tsz94 : tsz Try.prog 94 = some 14 := Eq.trans (by kernel_rfl) rfl
@[go_sem] theorem tagg94 : tagg Try.prog 94 = some true := Eq.trans (by kernel_rfl) rfl
@[go_sem] theorem tfld94_0 : tfld Try.prog 94 0 = some 0 := Eq.trans (by kernel_rfl) rfl
@[go_sem] theorem tfld94_1 : tfld Try.prog 94 1 = some 1 := Eq.trans (by kernel_rfl) rfl
@[go_sem] theorem tfld94_2 : tfld Try.prog 94 2 = some 2 := Eq.trans (by kernel_rfl) rfl
@[go_sem] theorem tfld94_3 : tfld Try.prog 94 3 = some 3 := Eq.trans (by kernel_rfl) rfl
@[go_sem] theorem tfld94_4 : tfld Try.prog 94 4 = some 4 := Eq.trans (by kernel_rfl) rfl
@[go_sem] theorem tfld94_5 : tfld Try.prog 94 5 = some 5 := Eq.trans (by kernel_rfl) rfl
@[go_sem] theorem tfld94_6 : tfld Try.prog 94 6 = some 6 := Eq.trans (by kernel_rfl) rfl
@[go_sem] theorem tfld94_7 : tfld Try.prog 94 7 = some 7 := Eq.trans (by kernel_rfl) rfl
@[go_sem] theorem tfld94_8 : tfld Try.prog 94 8 = some 8 := Eq.trans (by kernel_rfl) rfl
@[go_sem] theorem tfld94_9 : tfld Try.prog 94 9 = some 9 := Eq.trans (by kernel_rfl) rfl
@[go_sem] theorem tfld94_10 : tfld Try.prog 94 10 = some 10 := Eq.trans (by kernel_rfl) rfl
@[go_sem] theorem tfld94_11 : tfld Try.prog 94 11 = some 11 := Eq.trans (by kernel_rfl) rfl
@[go_sem] theorem tfld94_12 : tfld Try.prog 94 12 = some 12 := Eq.trans (by kernel_rfl) rfl
@[go_sem] theorem tfld94_13 : tfld Try.prog 94 13 = some 13 := Eq.trans (by kernel_rfl) rfl
@[go_sem] theorem stood94 : Try.prog.stoodInHeld 94 = false := Eq.trans (by kernel_rfl) rfl
@[go_sem] theorem tpl94 : tpl Try.prog 94 = some (plL [(0, 1), (1, 1), (2, 1), (3, 1), (4, 1), (5, 1), (6, 1), (7, 1), (8, 1), (9, 1), (10, 1), (11, 1), (12, 1), (13, 1)]) := Eq.trans (by kernel_rfl) rfl
@[go_sem] theorem aeq94 (d : Nat) (a b : List PV) : aeqD Try.prog d 94 (Try.prog.underlying 94) (.agg a) (.agg b) = oand (eqP (aeqT Try.prog d 9) (apart Try.prog 9 a 0) (apart Try.prog 9 b 0)) (oand (eqP (aeqT Try.prog d 3) (apart Try.prog 3 a 1) (apart Try.prog 3 b 1)) (oand (eqP (aeqT Try.prog d 3) (apart Try.prog 3 a 2) (apart Try.prog 3 b 2)) (oand (eqP (aeqT Try.prog d 3) (apart Try.prog 3 a 3) (apart Try.prog 3 b 3)) (oand (eqP (aeqT Try.prog d 72) (apart Try.prog 72 a 4) (apart Try.prog 72 b 4)) (oand (eqP (aeqT Try.prog d 3) (apart Try.prog 3 a 5) (apart Try.prog 3 b 5)) (oand (eqP (aeqT Try.prog d 3) (apart Try.prog 3 a 6) (apart Try.prog 3 b 6)) (oand (eqP (aeqT Try.prog d 3) (apart Try.prog 3 a 7) (apart Try.prog 3 b 7)) (oand (eqP (aeqT Try.prog d 3) (apart Try.prog 3 a 8) (apart Try.prog 3 b 8)) (oand (eqP (aeqT Try.prog d 3) (apart Try.prog 3 a 9) (apart Try.prog 3 b 9)) (oand (eqP (aeqT Try.prog d 3) (apart Try.prog 3 a 10) (apart Try.prog 3 b 10)) (oand (eqP (aeqT Try.prog d 3) (apart Try.prog 3 a 11) (apart Try.prog 3 b 11)) (oand (eqP (aeqT Try.prog d 3) (apart Try.prog 3 a 12) (apart Try.prog 3 b 12)) (oand (eqP (aeqT Try.prog d 3) (apart Try.prog 3 a 13) (apart Try.prog 3 b 13)) (some true)))))))))))))) := by rw [Try.underlying94, aeqD_struct stood94]; simp [aeqF_cons, aeqF_nil]
@[go_sem] theorem eqg94 : Try.prog.eqGuardType Try.prog.depth 94 = false := Eq.trans (by kernel_rfl) rfl
@[go_sem] theorem zcells94 : zcells Try.prog 94 = some [.str [], .int .i64 0, .int .i64 0, .int .i64 0, .list true [], .int .i64 0, .int .i64 0, .int .i64 0, .int .i64 0, .int .i64 0, .int .i64 0, .int .i64 0, .int .i64 0, .int .i64 0] := Eq.trans (by kernel_rfl) rfl
@[go_sem] theorem und132 : Try.prog.underlying 132 = some (.slice 162) := Eq.trans (by kernel_rfl) rfl
@[go_sem] theorem tsz132 : tsz Try.prog 132 = some 1 := Eq.trans (by kernel_rfl) rfl
@[go_sem] theorem tagg132 : tagg Try.prog 132 = some false := Eq.trans (by kernel_rfl) rfl
@[go_sem] theorem telt132 : telt Try.prog 132 = some (none, 2) := Eq.trans (by kernel_rfl) rfl
@[go_sem] theorem litF132 : litF Try.prog 132 = some 2 := Eq.trans (by kernel_rfl) rfl
@[go_sem] theorem appF132 : appF Try.prog 132 = some (2, 16) := Eq.trans (by kernel_rfl) rfl
@[go_sem] theorem aapp1_132 (H : List AM.Obj) (u : TypeId) (o n : Nat) (y : V) : aapp Try.prog H 132 u (.sl o 0 n n) y = app1 H (some (2, 16)) (oat H o) o n (asrcB (Try.prog.underlying u) H y) := aapp_own appF132
@[go_sem] theorem zcells132 : zcells Try.prog 132 = some [.list true []] := Eq.trans (by kernel_rfl) rfl
@[go_sem] theorem tsz134 : tsz Try.prog 134 = some 6 := Eq.trans (by kernel_rfl) rfl
@[go_sem] theorem tagg134 : tagg Try.prog 134 = some true := Eq.trans (by kernel_rfl) rfl
@[go_sem] theorem tfld134_0 : tfld Try.prog 134 0 = some 0 := Eq.trans (by kernel_rfl) rfl
@[go_sem] theorem tfld134_1 : tfld Try.prog 134 1 = some 1 := Eq.trans (by kernel_rfl) rfl
@[go_sem] theorem tfld134_2 : tfld Try.prog 134 2 = some 2 := Eq.trans (by kernel_rfl) rfl
@[go_sem] theorem tfld134_3 : tfld Try.prog 134 3 = some 3 := Eq.trans (by kernel_rfl) rfl
@[go_sem] theorem tfld134_4 : tfld Try.prog 134 4 = some 4 := Eq.trans (by kernel_rfl) rfl
@[go_sem] theorem tfld134_5 : tfld Try.prog 134 5 = some 5 := Eq.trans (by kernel_rfl) rfl
@[go_sem] theorem stood134 : Try.prog.stoodInHeld 134 = false := Eq.trans (by kernel_rfl) rfl
@[go_sem] theorem tpl134 : tpl Try.prog 134 = some (plL [(0, 1), (1, 1), (2, 1), (3, 1), (4, 1), (5, 1)]) := Eq.trans (by kernel_rfl) rfl
@[go_sem] theorem aeq134 (d : Nat) (a b : List PV) : aeqD Try.prog d 134 (Try.prog.underlying 134) (.agg a) (.agg b) = oand (eqP (aeqT Try.prog d 3) (apart Try.prog 3 a 0) (apart Try.prog 3 b 0)) (oand (eqP (aeqT Try.prog d 3) (apart Try.prog 3 a 1) (apart Try.prog 3 b 1)) (oand (eqP (aeqT Try.prog d 3) (apart Try.prog 3 a 2) (apart Try.prog 3 b 2)) (oand (eqP (aeqT Try.prog d 3) (apart Try.prog 3 a 3) (apart Try.prog 3 b 3)) (oand (eqP (aeqT Try.prog d 132) (apart Try.prog 132 a 4) (apart Try.prog 132 b 4)) (oand (eqP (aeqT Try.prog d 132) (apart Try.prog 132 a 5) (apart Try.prog 132 b 5)) (some true)))))) := by rw [Try.underlying134, aeqD_struct stood134]; simp [aeqF_cons, aeqF_nil]
@[go_sem] theorem eqg134 : Try.prog.eqGuardType Try.prog.depth 134 = false := Eq.trans (by kernel_rfl) rfl
@[go_sem] theorem zcells134 : zcells Try.prog 134 = some [.int .i64 0, .int .i64 0, .int .i64 0, .int .i64 0, .list true [], .list true []] := Eq.trans (by kernel_rfl) rfl
@[go_sem] theorem tsz138 : tsz Try.prog 138 = some 2 := Eq.trans (by kernel_rfl) rfl
@[go_sem] theorem tagg138 : tagg Try.prog 138 = some true := Eq.trans (by kernel_rfl) rfl
@[go_sem] theorem tfld138_0 : tfld Try.prog 138 0 = some 0 := Eq.trans (by kernel_rfl) rfl
@[go_sem] theorem tfld138_1 : tfld Try.prog 138 1 = some 1 := Eq.trans (by kernel_rfl) rfl
@[go_sem] theorem stood138 : Try.prog.stoodInHeld 138 = false := Eq.trans (by kernel_rfl) rfl
@[go_sem] theorem tpl138 : tpl Try.prog 138 = some (plL [(0, 1), (1, 1)]) := Eq.trans (by kernel_rfl) rfl
@[go_sem] theorem aeq138 (d : Nat) (a b : List PV) : aeqD Try.prog d 138 (Try.prog.underlying 138) (.agg a) (.agg b) = oand (eqP (aeqT Try.prog d 37) (apart Try.prog 37 a 0) (apart Try.prog 37 b 0)) (oand (eqP (aeqT Try.prog d 9) (apart Try.prog 9 a 1) (apart Try.prog 9 b 1)) (some true)) := by rw [Try.underlying138, aeqD_struct stood138]; simp [aeqF_cons, aeqF_nil]
@[go_sem] theorem eqg138 : Try.prog.eqGuardType Try.prog.depth 138 = false := Eq.trans (by kernel_rfl) rfl
@[go_sem] theorem zcells138 : zcells Try.prog 138 = some [.int .i64 0, .str []] := Eq.trans (by kernel_rfl) rfl
@[go_sem] theorem und141 : Try.prog.underlying 141 = some (.slice 37) := Eq.trans (by kernel_rfl) rfl
@[go_sem] theorem tsz141 : tsz Try.prog 141 = some 1 := Eq.trans (by kernel_rfl) rfl
@[go_sem] theorem tagg141 : tagg Try.prog 141 = some false := Eq.trans (by kernel_rfl) rfl
@[go_sem] theorem telt141 : telt Try.prog 141 = some (none, 1) := Eq.trans (by kernel_rfl) rfl
@[go_sem] theorem litF141 : litF Try.prog 141 = some 1 := Eq.trans (by kernel_rfl) rfl
@[go_sem] theorem appF141 : appF Try.prog 141 = some (1, 8) := Eq.trans (by kernel_rfl) rfl
@[go_sem] theorem aapp1_141 (H : List AM.Obj) (u : TypeId) (o n : Nat) (y : V) : aapp Try.prog H 141 u (.sl o 0 n n) y = app1 H (some (1, 8)) (oat H o) o n (asrcB (Try.prog.underlying u) H y) := aapp_own appF141
@[go_sem] theorem zcells141 : zcells Try.prog 141 = some [.list true []] := Eq.trans (by kernel_rfl) rfl
@[go_sem] theorem und150 : Try.prog.underlying 150 = some (.int .i64) := Eq.trans (by kernel_rfl) rfl
@[go_sem] theorem tsz150 : tsz Try.prog 150 = some 1 := Eq.trans (by kernel_rfl) rfl
@[go_sem] theorem tagg150 : tagg Try.prog 150 = some false := Eq.trans (by kernel_rfl) rfl
@[go_sem] theorem zcells150 : zcells Try.prog 150 = some [.int .i64 0] := Eq.trans (by kernel_rfl) rfl
@[go_sem] theorem und158 : Try.prog.underlying 158 = some (.int .u32) := Eq.trans (by kernel_rfl) rfl
@[go_sem] theorem tsz158 : tsz Try.prog 158 = some 1 := Eq.trans (by kernel_rfl) rfl
@[go_sem] theorem tagg158 : tagg Try.prog 158 = some false := Eq.trans (by kernel_rfl) rfl
@[go_sem] theorem zcells158 : zcells Try.prog 158 = some [.int .u32 0] := Eq.trans (by kernel_rfl) rfl
@[go_sem] theorem und160 : Try.prog.underlying 160 = some (.int .u64) := Eq.trans (by kernel_rfl) rfl
@[go_sem] theorem tsz160 : tsz Try.prog 160 = some 1 := Eq.trans (by kernel_rfl) rfl
@[go_sem] theorem tagg160 : tagg Try.prog 160 = some false := Eq.trans (by kernel_rfl) rfl
@[go_sem] theorem zcells160 : zcells Try.prog 160 = some [.int .u64 0] := Eq.trans (by kernel_rfl) rfl
@[go_sem] theorem tsz162 : tsz Try.prog 162 = some 2 := Eq.trans (by kernel_rfl) rfl
@[go_sem] theorem tagg162 : tagg Try.prog 162 = some true := Eq.trans (by kernel_rfl) rfl
@[go_sem] theorem tfld162_0 : tfld Try.prog 162 0 = some 0 := Eq.trans (by kernel_rfl) rfl
@[go_sem] theorem tfld162_1 : tfld Try.prog 162 1 = some 1 := Eq.trans (by kernel_rfl) rfl
@[go_sem] theorem stood162 : Try.prog.stoodInHeld 162 = false := Eq.trans (by kernel_rfl) rfl
@[go_sem] theorem tpl162 : tpl Try.prog 162 = some (plL [(0, 1), (1, 1)]) := Eq.trans (by kernel_rfl) rfl
@[go_sem] theorem aeq162 (d : Nat) (a b : List PV) : aeqD Try.prog d 162 (Try.prog.underlying 162) (.agg a) (.agg b) = oand (eqP (aeqT Try.prog d 3) (apart Try.prog 3 a 0) (apart Try.prog 3 b 0)) (oand (eqP (aeqT Try.prog d 3) (apart Try.prog 3 a 1) (apart Try.prog 3 b 1)) (some true)) := by rw [Try.underlying162, aeqD_struct stood162]; simp [aeqF_cons, aeqF_nil]
@[go_sem] theorem eqg162 : Try.prog.eqGuardType Try.prog.depth 162 = false := Eq.trans (by kernel_rfl) rfl
@[go_sem] theorem zcells162 : zcells Try.prog 162 = some [.int .i64 0, .int .i64 0] := Eq.trans (by kernel_rfl) rfl
@[go_sem] theorem und167 : Try.prog.underlying 167 = some (.slice 5) := Eq.trans (by kernel_rfl) rfl
@[go_sem] theorem tsz167 : tsz Try.prog 167 = some 1 := Eq.trans (by kernel_rfl) rfl
@[go_sem] theorem tagg167 : tagg Try.prog 167 = some false := Eq.trans (by kernel_rfl) rfl
@[go_sem] theorem telt167 : telt Try.prog 167 = some (none, 1) := Eq.trans (by kernel_rfl) rfl
@[go_sem] theorem litF167 : litF Try.prog 167 = some 1 := Eq.trans (by kernel_rfl) rfl
@[go_sem] theorem appF167 : appF Try.prog 167 = some (1, 1) := Eq.trans (by kernel_rfl) rfl
@[go_sem] theorem aapp1_167 (H : List AM.Obj) (u : TypeId) (o n : Nat) (y : V) : aapp Try.prog H 167 u (.sl o 0 n n) y = app1 H (some (1, 1)) (oat H o) o n (asrcB (Try.prog.underlying u) H y) := aapp_own appF167
@[go_sem] theorem zcells167 : zcells Try.prog 167 = some [.list true []] := Eq.trans (by kernel_rfl) rfl
@[go_sem] theorem und169 : Try.prog.underlying 169 = some (.int .u64) := Eq.trans (by kernel_rfl) rfl
@[go_sem] theorem tsz169 : tsz Try.prog 169 = some 1 := Eq.trans (by kernel_rfl) rfl
@[go_sem] theorem tagg169 : tagg Try.prog 169 = some false := Eq.trans (by kernel_rfl) rfl
@[go_sem] theorem zcells169 : zcells Try.prog 169 = some [.int .u64 0] := Eq.trans (by kernel_rfl) rfl
theorem isF9 : IsFun Try.prog 9 := fun args w => Try.call9 args w
theorem isF10 : IsFun Try.prog 10 := fun args w => Try.call10 args w
theorem isF11 : IsFun Try.prog 11 := fun args w => Try.call11 args w
theorem isF12 : IsFun Try.prog 12 := fun args w => Try.call12 args w
theorem isF13 : IsFun Try.prog 13 := fun args w => Try.call13 args w
theorem isF24 : IsFun Try.prog 24 := fun args w => Try.call24 args w
theorem isF30 : IsFun Try.prog 30 := fun args w => Try.call30 args w
theorem isF31 : IsFun Try.prog 31 := fun args w => Try.call31 args w
theorem isF32 : IsFun Try.prog 32 := fun args w => Try.call32 args w
theorem isF33 : IsFun Try.prog 33 := fun args w => Try.call33 args w
theorem isF34 : IsFun Try.prog 34 := fun args w => Try.call34 args w
theorem isF35 : IsFun Try.prog 35 := fun args w => Try.call35 args w
theorem isF36 : IsFun Try.prog 36 := fun args w => Try.call36 args w
theorem isF37 : IsFun Try.prog 37 := fun args w => Try.call37 args w
theorem isF38 : IsFun Try.prog 38 := fun args w => Try.call38 args w
theorem isF39 : IsFun Try.prog 39 := fun args w => Try.call39 args w
theorem isF40 : IsFun Try.prog 40 := fun args w => Try.call40 args w
theorem isF41 : IsFun Try.prog 41 := fun args w => Try.call41 args w
theorem isF54 : IsFun Try.prog 54 := fun args w => Try.call54 args w
theorem isF67 : IsFun Try.prog 67 := fun args w => Try.call67 args w
theorem isF68 : IsFun Try.prog 68 := fun args w => Try.call68 args w
theorem isF69 : IsFun Try.prog 69 := fun args w => Try.call69 args w
theorem isF70 : IsFun Try.prog 70 := fun args w => Try.call70 args w
theorem isF71 : IsFun Try.prog 71 := fun args w => Try.call71 args w
theorem isF72 : IsFun Try.prog 72 := fun args w => Try.call72 args w
theorem isF73 : IsFun Try.prog 73 := fun args w => Try.call73 args w
theorem isF74 : IsFun Try.prog 74 := fun args w => Try.call74 args w
theorem isF75 : IsFun Try.prog 75 := fun args w => Try.call75 args w
theorem isF76 : IsFun Try.prog 76 := fun args w => Try.call76 args w
theorem isF77 : IsFun Try.prog 77 := fun args w => Try.call77 args w
theorem isF78 : IsFun Try.prog 78 := fun args w => Try.call78 args w
theorem isF79 : IsFun Try.prog 79 := fun args w => Try.call79 args w
theorem isF80 : IsFun Try.prog 80 := fun args w => Try.call80 args w
theorem isF81 : IsFun Try.prog 81 := fun args w => Try.call81 args w
theorem isF82 : IsFun Try.prog 82 := fun args w => Try.call82 args w
theorem isF83 : IsFun Try.prog 83 := fun args w => Try.call83 args w
theorem isF84 : IsFun Try.prog 84 := fun args w => Try.call84 args w
theorem isF85 : IsFun Try.prog 85 := fun args w => Try.call85 args w
theorem isF86 : IsFun Try.prog 86 := fun args w => Try.call86 args w
theorem isF87 : IsFun Try.prog 87 := fun args w => Try.call87 args w
theorem isF88 : IsFun Try.prog 88 := fun args w => Try.call88 args w
theorem isF89 : IsFun Try.prog 89 := fun args w => Try.call89 args w
theorem isF90 : IsFun Try.prog 90 := fun args w => Try.call90 args w
theorem isF91 : IsFun Try.prog 91 := fun args w => Try.call91 args w
theorem isF92 : IsFun Try.prog 92 := fun args w => Try.call92 args w
theorem isF100 : IsFun Try.prog 100 := fun args w => Try.call100 args w
theorem isF102 : IsFun Try.prog 102 := fun args w => Try.call102 args w
theorem isF103 : IsFun Try.prog 103 := fun args w => Try.call103 args w
theorem isF104 : IsFun Try.prog 104 := fun args w => Try.call104 args w
theorem isF107 : IsFun Try.prog 107 := fun args w => Try.call107 args w
theorem isF108 : IsFun Try.prog 108 := fun args w => Try.call108 args w
theorem isF109 : IsFun Try.prog 109 := fun args w => Try.call109 args w
theorem isF110 : IsFun Try.prog 110 := fun args w => Try.call110 args w
theorem isF111 : IsFun Try.prog 111 := fun args w => Try.call111 args w
theorem isF112 : IsFun Try.prog 112 := fun args w => Try.call112 args w
theorem isF113 : IsFun Try.prog 113 := fun args w => Try.call113 args w
theorem isF114 : IsFun Try.prog 114 := fun args w => Try.call114 args w
theorem isF115 : IsFun Try.prog 115 := fun args w => Try.call115 args w
theorem isF116 : IsFun Try.prog 116 := fun args w => Try.call116 args w
theorem isF117 : IsFun Try.prog 117 := fun args w => Try.call117 args w
theorem isF118 : IsFun Try.prog 118 := fun args w => Try.call118 args w
theorem isF119 : IsFun Try.prog 119 := fun args w => Try.call119 args w
theorem isF120 : IsFun Try.prog 120 := fun args w => Try.call120 args w
theorem isF121 : IsFun Try.prog 121 := fun args w => Try.call121 args w
theorem isF125 : IsFun Try.prog 125 := fun args w => Try.call125 args w
theorem isF136 : IsFun Try.prog 136 := fun args w => Try.call136 args w
theorem isF137 : IsFun Try.prog 137 := fun args w => Try.call137 args w
theorem isF138 : IsFun Try.prog 138 := fun args w => Try.call138 args w
theorem isF139 : IsFun Try.prog 139 := fun args w => Try.call139 args w
theorem isF140 : IsFun Try.prog 140 := fun args w => Try.call140 args w
theorem isF141 : IsFun Try.prog 141 := fun args w => Try.call141 args w
theorem isF142 : IsFun Try.prog 142 := fun args w => Try.call142 args w
theorem isF143 : IsFun Try.prog 143 := fun args w => Try.call143 args w
theorem isF144 : IsFun Try.prog 144 := fun args w => Try.call144 args w
theorem isF150 : IsFun Try.prog 150 := fun args w => Try.call150 args w
theorem isF151 : IsFun Try.prog 151 := fun args w => Try.call151 args w
theorem mixed : Try.prog.follows .mixedOrders = true := by kernel_rfl
end Go.Proofs.Ytlbhefiehkmhjaa.K
