/- Declarations that the closing texts need, part 13: joined by tools/slim.py. -/
import Derived.Test.YtcdoglogglbemaaGreatDoorZ12
import Derived.Test.YtcdoglogglbemaaGreatDoorRows
namespace Go.Proofs.YtcdoglogglbemaaGreatDoor.K
open Go Go.AM Go.Proofs
theorem cel3 : Tryz.prog.cellsOf 3 = 1 := by kernel_rfl
theorem cel4 : Tryz.prog.cellsOf 4 = 1 := by kernel_rfl
theorem cel9 : Tryz.prog.cellsOf 9 = 1 := by kernel_rfl
theorem cel22 : Tryz.prog.cellsOf 22 = 1 := by kernel_rfl
theorem cel23 : Tryz.prog.cellsOf 23 = 1 := by kernel_rfl
theorem cel25 : Tryz.prog.cellsOf 25 = 2 := by kernel_rfl
theorem pcs25 : pcs Tryz.prog 25 = some [(0, 22), (1, 23)] := by kernel_rfl
theorem cel26 : Tryz.prog.cellsOf 26 = 1 := by kernel_rfl
theorem cel27 : Tryz.prog.cellsOf 27 = 1 := by kernel_rfl
theorem cel28 : Tryz.prog.cellsOf 28 = 1 := by kernel_rfl
theorem cel30 : Tryz.prog.cellsOf 30 = 6 := by kernel_rfl
theorem pcs30 : pcs Tryz.prog 30 = some [(0, 25), (2, 26), (3, 27), (4, 28), (5, 28)] := by kernel_rfl
theorem cel31 : Tryz.prog.cellsOf 31 = 1 := by kernel_rfl
theorem cel32 : Tryz.prog.cellsOf 32 = 1 := by kernel_rfl
theorem cel34 : Tryz.prog.cellsOf 34 = 2 := by kernel_rfl
theorem pcs34 : pcs Tryz.prog 34 = some [(0, 31), (1, 32)] := by kernel_rfl
theorem cel41 : Tryz.prog.cellsOf 41 = 1 := by kernel_rfl
theorem cel42 : Tryz.prog.cellsOf 42 = 1 := by kernel_rfl
theorem cel44 : Tryz.prog.cellsOf 44 = 4 := by kernel_rfl
theorem pcs44 : pcs Tryz.prog 44 = some [(0, 3), (1, 3), (2, 41), (3, 42)] := by kernel_rfl
theorem cel73 : Tryz.prog.cellsOf 73 = 2 := by kernel_rfl
theorem pcs73 : pcs Tryz.prog 73 = some [(0, 3), (1, 4)] := by kernel_rfl
theorem cel96 : Tryz.prog.cellsOf 96 = 14 := by kernel_rfl
theorem pcs96 : pcs Tryz.prog 96 = some [(0, 9), (1, 3), (2, 3), (3, 3), (4, 32), (5, 3), (6, 3), (7, 3), (8, 3), (9, 3), (10, 3), (11, 3), (12, 3), (13, 3)] := by kernel_rfl
theorem cel98 : Tryz.prog.cellsOf 98 = 4 := by kernel_rfl
theorem pcs98 : pcs Tryz.prog 98 = some [(0, 3), (1, 3), (2, 3), (3, 3)] := by kernel_rfl
theorem cel100 : Tryz.prog.cellsOf 100 = 16 := by kernel_rfl
theorem pcs100 : pcs Tryz.prog 100 = some [(0, 9), (1, 32), (2, 98), (6, 98), (10, 3), (11, 3), (12, 3), (13, 3), (14, 3), (15, 4)] := by kernel_rfl
theorem cel133 : Tryz.prog.cellsOf 133 = 2 := by kernel_rfl
theorem pcs133 : pcs Tryz.prog 133 = some [(0, 3), (1, 3)] := by kernel_rfl
theorem cel134 : Tryz.prog.cellsOf 134 = 1 := by kernel_rfl
theorem cel136 : Tryz.prog.cellsOf 136 = 6 := by kernel_rfl
theorem pcs136 : pcs Tryz.prog 136 = some [(0, 3), (1, 3), (2, 3), (3, 3), (4, 134), (5, 134)] := by kernel_rfl
theorem cel149 : Tryz.prog.cellsOf 149 = 2 := by kernel_rfl
theorem pcs149 : pcs Tryz.prog 149 = some [(0, 3), (1, 3)] := by kernel_rfl
end Go.Proofs.YtcdoglogglbemaaGreatDoor.K
set_option linter.unusedVariables false
set_option linter.unusedSimpArgs false
namespace Go.Proofs.YtcdoglogglbemaaGreatDoor.K
open Go Go.AM Go.Proofs
mutual
theorem dsz_le {H : Type} : (d : DataW H) → dsz d ≤ Rows.uptoBulk d
 | .lit l => by cases l <;> simp [dsz, Rows.uptoBulk]
 | .nil => by simp [dsz, Rows.uptoBulk]
 | .ptr d => by have := dsz_le d; simp only [dsz, Rows.uptoBulk]; omega
 | .slice es sp => by have := dszs_le es; have := dszs_le sp; simp only [dsz, Rows.uptoBulk]; omega
 | .agg ps => by have := dszs_le ps; simp only [dsz, Rows.uptoBulk]; omega
 | .iface _ d => by have := dsz_le d; simp only [dsz, Rows.uptoBulk]; omega
 | .map es => by simp only [dsz, Rows.uptoBulk]; omega
 | .held h => by simp [dsz, Rows.uptoBulk]
theorem dszs_le {H : Type} : (l : List (DataW H)) → dszs l ≤ Rows.uptoBulkAll l
 | [] => by simp [dszs, Rows.uptoBulkAll]
 | d :: r => by have := dsz_le d; have := dszs_le r; simp only [dszs, Rows.uptoBulkAll]; omega
end
theorem small_dszs {H : Type} {l : List (DataW H)} (h : Rows.uptoSmall H l = true) : dszs l ≤ 1048576 := by
 have h1 := dszs_le l
 have h2 : Rows.uptoBulkAll l ≤ 1048576 := of_decide_eq_true h
 omega
end Go.Proofs.YtcdoglogglbemaaGreatDoor.K
set_option linter.unusedVariables false
set_option linter.unusedSimpArgs false
namespace Go.Proofs.YtcdoglogglbemaaGreatDoor.K
open Go Go.AM Go.Proofs
abbrev I64 (n : Int) : Prop := -9223372036854775808 ≤ n ∧ n ≤ 9223372036854775807
def eI (n : Int) : PV := .int .i64 n
def eB (b : Bool) : PV := .bool b
def eS (s : List UInt8) : PV := .str s
def eP (p : Int × Int) : PV := .agg [.int .i64 p.1, .int .i64 p.2]
@[go_sem] theorem eI_eq (n : Int) : eI n = .int .i64 n := Eq.trans rfl rfl
@[go_sem] theorem eB_eq (b : Bool) : eB b = .bool b := Eq.trans rfl rfl
@[go_sem] theorem eS_eq (s : List UInt8) : eS s = .str s := Eq.trans rfl rfl
@[go_sem] theorem eP_eq (p : Int × Int) : eP p = .agg [.int .i64 p.1, .int .i64 p.2] := Eq.trans rfl rfl
@[go_sem] theorem okE_eI (l : List Int) : okE 1 (l.map eI) = true := okE_map fun _ => rfl
@[go_sem] theorem allS_eB (l : List Bool) : allS 1 (l.map eB) = true := allS_map (f := eB) (S := 1) (fun _ => rfl) l
theorem fit_ints {B xs} (h : ∀ y ∈ xs, FitV Tryz.prog B 3 y) : ∃ l : List Int, xs = l.map eI ∧ ∀ n ∈ l, I64 n :=
 row_map (f := eI) fun y hy => by
  obtain ⟨n, rfl, w⟩ := fit_int Tryz.underlying3 (h y hy)
  exact ⟨n, rfl, i64_wf w⟩
theorem fit_bools {B xs} (h : ∀ y ∈ xs, FitV Tryz.prog B 4 y) : ∃ l : List Bool, xs = l.map eB ∧ ∀ b ∈ l, True :=
 row_map (f := eB) fun y hy => by
  obtain ⟨b, rfl⟩ := fit_bool Tryz.underlying4 (h y hy)
  exact ⟨b, rfl, trivial⟩
theorem fit_strs {B xs} (h : ∀ y ∈ xs, FitV Tryz.prog B 9 y) : ∃ l : List (List UInt8), xs = l.map eS ∧ ∀ s ∈ l, s.length ≤ B :=
 row_map (f := eS) fun y hy => by
  obtain ⟨s, rfl, w, _⟩ := fit_str Tryz.underlying9 (h y hy)
  exact ⟨s, rfl, w⟩
theorem len2 {α : Type} {l : List α} (h : l.length = 2) : ∃ a0 a1, l = [a0, a1] := by
 match l, h with | [a0, a1], _ => exact ⟨a0, a1, rfl⟩
theorem len6 {α : Type} {l : List α} (h : l.length = 6) : ∃ a0 a1 a2 a3 a4 a5, l = [a0, a1, a2, a3, a4, a5] := by
 match l, h with | [a0, a1, a2, a3, a4, a5], _ => exact ⟨a0, a1, a2, a3, a4, a5, rfl⟩
theorem len14 {α : Type} {l : List α} (h : l.length = 14) : ∃ a0 a1 a2 a3 a4 a5 a6 a7 a8 a9 a10 a11 a12 a13, l = [a0, a1, a2, a3, a4, a5, a6, a7, a8, a9, a10, a11, a12, a13] := by
 match l, h with | [a0, a1, a2, a3, a4, a5, a6, a7, a8, a9, a10, a11, a12, a13], _ => exact ⟨a0, a1, a2, a3, a4, a5, a6, a7, a8, a9, a10, a11, a12, a13, rfl⟩
theorem len4 {α : Type} {l : List α} (h : l.length = 4) : ∃ a0 a1 a2 a3, l = [a0, a1, a2, a3] := by
 match l, h with | [a0, a1, a2, a3], _ => exact ⟨a0, a1, a2, a3, rfl⟩
theorem len16 {α : Type} {l : List α} (h : l.length = 16) : ∃ a0 a1 a2 a3 a4 a5 a6 a7 a8 a9 a10 a11 a12 a13 a14 a15, l = [a0, a1, a2, a3, a4, a5, a6, a7, a8, a9, a10, a11, a12, a13, a14, a15] := by
 match l, h with | [a0, a1, a2, a3, a4, a5, a6, a7, a8, a9, a10, a11, a12, a13, a14, a15], _ => exact ⟨a0, a1, a2, a3, a4, a5, a6, a7, a8, a9, a10, a11, a12, a13, a14, a15, rfl⟩
structure Pt where
 t : Int
 a : Int
 deriving Inhabited
def cPt (x : Pt) : List PV := [.int .i64 x.t, .int .i64 x.a]
def ePt (x : Pt) : PV := .agg [.int .i64 x.t, .int .i64 x.a]
@[go_sem] theorem ePt_eq (x : Pt) : ePt x = .agg [.int .i64 x.t, .int .i64 x.a] := Eq.trans rfl rfl
def Pt.wf (B : Nat) (x : Pt) : Prop := I64 x.t ∧ I64 x.a
theorem fits_Pt {B m cs} (h : fits Tryz.prog B m 133 cs) : ∃ x : Pt, cs = cPt x ∧ x.wf B := by
 obtain ⟨h1, m', h2⟩ := fits_agg pcs133 cel133 h
 obtain ⟨a0, a1, rfl⟩ := len2 h1
 obtain ⟨n0, e0, w0⟩ := fits_int Tryz.underlying3 (h2 (0, 3) (by simp))
 obtain ⟨n1, e1, w1⟩ := fits_int Tryz.underlying3 (h2 (1, 3) (by simp))
 simp [cel3] at e0 e1
 subst e0; subst e1
 exact ⟨⟨n0, n1⟩, rfl, i64_wf w0, i64_wf w1⟩
theorem fit_Pt {B v} (h : FitV Tryz.prog B 133 v) : ∃ x : Pt, v = ePt x ∧ x.wf B := by
 obtain ⟨k, cs, h, e⟩ := h.out
 obtain ⟨x, rfl, hw⟩ := fits_Pt h
 exact ⟨x, e.trans (by rw [mkEl, if_pos (pcs_tagg pcs133)]; rfl), hw⟩
structure Arc where
 src : Int
 dst : Int
 prof : Int
 miles : Int
 travel_c : Bool
 travel : List (Pt)
 slow_c : Bool
 slow : List (Pt)
 deriving Inhabited
def cArc (x : Arc) : List PV := [.int .i64 x.src, .int .i64 x.dst, .int .i64 x.prof, .int .i64 x.miles, .list x.travel_c (x.travel.map ePt), .list x.slow_c (x.slow.map ePt)]
def eArc (x : Arc) : PV := .agg [.int .i64 x.src, .int .i64 x.dst, .int .i64 x.prof, .int .i64 x.miles, .list x.travel_c (x.travel.map ePt), .list x.slow_c (x.slow.map ePt)]
@[go_sem] theorem eArc_eq (x : Arc) : eArc x = .agg [.int .i64 x.src, .int .i64 x.dst, .int .i64 x.prof, .int .i64 x.miles, .list x.travel_c (x.travel.map ePt), .list x.slow_c (x.slow.map ePt)] := Eq.trans rfl rfl
def Arc.wf (B : Nat) (x : Arc) : Prop := I64 x.src ∧ I64 x.dst ∧ I64 x.prof ∧ I64 x.miles ∧ x.travel.length ≤ B ∧ (∀ y ∈ x.travel, Pt.wf B y) ∧ x.slow.length ≤ B ∧ (∀ y ∈ x.slow, Pt.wf B y)
theorem fits_Arc {B m cs} (h : fits Tryz.prog B m 136 cs) : ∃ x : Arc, cs = cArc x ∧ x.wf B := by
 obtain ⟨h1, m', h2⟩ := fits_agg pcs136 cel136 h
 obtain ⟨a0, a1, a2, a3, a4, a5, rfl⟩ := len6 h1
 obtain ⟨n0, e0, w0⟩ := fits_int Tryz.underlying3 (h2 (0, 3) (by simp))
 obtain ⟨n1, e1, w1⟩ := fits_int Tryz.underlying3 (h2 (1, 3) (by simp))
 obtain ⟨n2, e2, w2⟩ := fits_int Tryz.underlying3 (h2 (2, 3) (by simp))
 obtain ⟨n3, e3, w3⟩ := fits_int Tryz.underlying3 (h2 (3, 3) (by simp))
 obtain ⟨y4, e4, w4, _, z4⟩ := fits_slice Tryz.underlying134 (h2 (4, 134) (by simp))
 obtain ⟨n4, rfl, u4⟩ := row_map (f := ePt) fun y hy => fit_Pt (z4 y hy)
 obtain ⟨y5, e5, w5, _, z5⟩ := fits_slice Tryz.underlying134 (h2 (5, 134) (by simp))
 obtain ⟨n5, rfl, u5⟩ := row_map (f := ePt) fun y hy => fit_Pt (z5 y hy)
 simp [cel134, cel3] at e0 e1 e2 e3 e4 e5
 subst e0; subst e1; subst e2; subst e3; subst e4; subst e5
 exact ⟨⟨n0, n1, n2, n3, false, n4, false, n5⟩, rfl, i64_wf w0, i64_wf w1, i64_wf w2, i64_wf w3, by simpa using w4, u4, by simpa using w5, u5⟩
theorem fit_Arc {B v} (h : FitV Tryz.prog B 136 v) : ∃ x : Arc, v = eArc x ∧ x.wf B := by
 obtain ⟨k, cs, h, e⟩ := h.out
 obtain ⟨x, rfl, hw⟩ := fits_Arc h
 exact ⟨x, e.trans (by rw [mkEl, if_pos (pcs_tagg pcs136)]; rfl), hw⟩
structure Net where
 places_c : Bool
 places : List (List UInt8)
 arcs_c : Bool
 arcs : List (Arc)
 deriving Inhabited
def cNet (x : Net) : List PV := [.list x.places_c (x.places.map eS), .list x.arcs_c (x.arcs.map eArc)]
def eNet (x : Net) : PV := .agg [.list x.places_c (x.places.map eS), .list x.arcs_c (x.arcs.map eArc)]
@[go_sem] theorem eNet_eq (x : Net) : eNet x = .agg [.list x.places_c (x.places.map eS), .list x.arcs_c (x.arcs.map eArc)] := Eq.trans rfl rfl
def Net.wf (B : Nat) (x : Net) : Prop := x.places.length ≤ B ∧ (∀ s ∈ x.places, s.length ≤ B) ∧ x.arcs.length ≤ B ∧ (∀ y ∈ x.arcs, Arc.wf B y)
theorem fits_Net {B m cs} (h : fits Tryz.prog B m 25 cs) : ∃ x : Net, cs = cNet x ∧ x.wf B := by
 obtain ⟨h1, m', h2⟩ := fits_agg pcs25 cel25 h
 obtain ⟨a0, a1, rfl⟩ := len2 h1
 obtain ⟨y0, e0, w0, _, z0⟩ := fits_slice Tryz.underlying22 (h2 (0, 22) (by simp))
 obtain ⟨n0, rfl, u0⟩ := fit_strs z0
 obtain ⟨y1, e1, w1, _, z1⟩ := fits_slice Tryz.underlying23 (h2 (1, 23) (by simp))
 obtain ⟨n1, rfl, u1⟩ := row_map (f := eArc) fun y hy => fit_Arc (z1 y hy)
 simp [cel23, cel22] at e0 e1
 subst e0; subst e1
 exact ⟨⟨false, n0, false, n1⟩, rfl, by simpa using w0, u0, by simpa using w1, u1⟩
structure Typ where
 name : List UInt8
 count : Int
 src : Int
 dst : Int
 cap_c : Bool
 cap : List (Int)
 skills : Int
 prof : Int
 opn : Int
 cls : Int
 drive : Int
 rest : Int
 fixed : Int
 perMile : Int
 perTick : Int
 deriving Inhabited
def cTyp (x : Typ) : List PV := [.str x.name, .int .i64 x.count, .int .i64 x.src, .int .i64 x.dst, .list x.cap_c (x.cap.map eI), .int .i64 x.skills, .int .i64 x.prof, .int .i64 x.opn, .int .i64 x.cls, .int .i64 x.drive, .int .i64 x.rest, .int .i64 x.fixed, .int .i64 x.perMile, .int .i64 x.perTick]
def eTyp (x : Typ) : PV := .agg [.str x.name, .int .i64 x.count, .int .i64 x.src, .int .i64 x.dst, .list x.cap_c (x.cap.map eI), .int .i64 x.skills, .int .i64 x.prof, .int .i64 x.opn, .int .i64 x.cls, .int .i64 x.drive, .int .i64 x.rest, .int .i64 x.fixed, .int .i64 x.perMile, .int .i64 x.perTick]
@[go_sem] theorem eTyp_eq (x : Typ) : eTyp x = .agg [.str x.name, .int .i64 x.count, .int .i64 x.src, .int .i64 x.dst, .list x.cap_c (x.cap.map eI), .int .i64 x.skills, .int .i64 x.prof, .int .i64 x.opn, .int .i64 x.cls, .int .i64 x.drive, .int .i64 x.rest, .int .i64 x.fixed, .int .i64 x.perMile, .int .i64 x.perTick] := Eq.trans rfl rfl
def Typ.wf (B : Nat) (x : Typ) : Prop := x.name.length ≤ B ∧ I64 x.count ∧ I64 x.src ∧ I64 x.dst ∧ x.cap.length ≤ B ∧ (∀ n ∈ x.cap, I64 n) ∧ I64 x.skills ∧ I64 x.prof ∧ I64 x.opn ∧ I64 x.cls ∧ I64 x.drive ∧ I64 x.rest ∧ I64 x.fixed ∧ I64 x.perMile ∧ I64 x.perTick
theorem fits_Typ {B m cs} (h : fits Tryz.prog B m 96 cs) : ∃ x : Typ, cs = cTyp x ∧ x.wf B := by
 obtain ⟨h1, m', h2⟩ := fits_agg pcs96 cel96 h
 obtain ⟨a0, a1, a2, a3, a4, a5, a6, a7, a8, a9, a10, a11, a12, a13, rfl⟩ := len14 h1
 obtain ⟨n0, e0, w0, _⟩ := fits_str Tryz.underlying9 (h2 (0, 9) (by simp))
 obtain ⟨n1, e1, w1⟩ := fits_int Tryz.underlying3 (h2 (1, 3) (by simp))
 obtain ⟨n2, e2, w2⟩ := fits_int Tryz.underlying3 (h2 (2, 3) (by simp))
 obtain ⟨n3, e3, w3⟩ := fits_int Tryz.underlying3 (h2 (3, 3) (by simp))
 obtain ⟨y4, e4, w4, _, z4⟩ := fits_slice Tryz.underlying32 (h2 (4, 32) (by simp))
 obtain ⟨n4, rfl, u4⟩ := fit_ints z4
 obtain ⟨n5, e5, w5⟩ := fits_int Tryz.underlying3 (h2 (5, 3) (by simp))
 obtain ⟨n6, e6, w6⟩ := fits_int Tryz.underlying3 (h2 (6, 3) (by simp))
 obtain ⟨n7, e7, w7⟩ := fits_int Tryz.underlying3 (h2 (7, 3) (by simp))
 obtain ⟨n8, e8, w8⟩ := fits_int Tryz.underlying3 (h2 (8, 3) (by simp))
 obtain ⟨n9, e9, w9⟩ := fits_int Tryz.underlying3 (h2 (9, 3) (by simp))
 obtain ⟨n10, e10, w10⟩ := fits_int Tryz.underlying3 (h2 (10, 3) (by simp))
 obtain ⟨n11, e11, w11⟩ := fits_int Tryz.underlying3 (h2 (11, 3) (by simp))
 obtain ⟨n12, e12, w12⟩ := fits_int Tryz.underlying3 (h2 (12, 3) (by simp))
 obtain ⟨n13, e13, w13⟩ := fits_int Tryz.underlying3 (h2 (13, 3) (by simp))
 simp [cel32, cel3, cel9] at e0 e1 e2 e3 e4 e5 e6 e7 e8 e9 e10 e11 e12 e13
 subst e0; subst e1; subst e2; subst e3; subst e4; subst e5; subst e6; subst e7; subst e8; subst e9; subst e10; subst e11; subst e12; subst e13
 exact ⟨⟨n0, n1, n2, n3, false, n4, n5, n6, n7, n8, n9, n10, n11, n12, n13⟩, rfl, w0, i64_wf w1, i64_wf w2, i64_wf w3, by simpa using w4, u4, i64_wf w5, i64_wf w6, i64_wf w7, i64_wf w8, i64_wf w9, i64_wf w10, i64_wf w11, i64_wf w12, i64_wf w13⟩
theorem fit_Typ {B v} (h : FitV Tryz.prog B 96 v) : ∃ x : Typ, v = eTyp x ∧ x.wf B := by
 obtain ⟨k, cs, h, e⟩ := h.out
 obtain ⟨x, rfl, hw⟩ := fits_Typ h
 exact ⟨x, e.trans (by rw [mkEl, if_pos (pcs_tagg pcs96)]; rfl), hw⟩
structure Stp where
 place : Int
 opn : Int
 cls : Int
 serv : Int
 deriving Inhabited
def cStp (x : Stp) : List PV := [.int .i64 x.place, .int .i64 x.opn, .int .i64 x.cls, .int .i64 x.serv]
def eStp (x : Stp) : PV := .agg [.int .i64 x.place, .int .i64 x.opn, .int .i64 x.cls, .int .i64 x.serv]
@[go_sem] theorem eStp_eq (x : Stp) : eStp x = .agg [.int .i64 x.place, .int .i64 x.opn, .int .i64 x.cls, .int .i64 x.serv] := Eq.trans rfl rfl
def Stp.wf (B : Nat) (x : Stp) : Prop := I64 x.place ∧ I64 x.opn ∧ I64 x.cls ∧ I64 x.serv
theorem fits_Stp {B m cs} (h : fits Tryz.prog B m 98 cs) : ∃ x : Stp, cs = cStp x ∧ x.wf B := by
 obtain ⟨h1, m', h2⟩ := fits_agg pcs98 cel98 h
 obtain ⟨a0, a1, a2, a3, rfl⟩ := len4 h1
 obtain ⟨n0, e0, w0⟩ := fits_int Tryz.underlying3 (h2 (0, 3) (by simp))
 obtain ⟨n1, e1, w1⟩ := fits_int Tryz.underlying3 (h2 (1, 3) (by simp))
 obtain ⟨n2, e2, w2⟩ := fits_int Tryz.underlying3 (h2 (2, 3) (by simp))
 obtain ⟨n3, e3, w3⟩ := fits_int Tryz.underlying3 (h2 (3, 3) (by simp))
 simp [cel3] at e0 e1 e2 e3
 subst e0; subst e1; subst e2; subst e3
 exact ⟨⟨n0, n1, n2, n3⟩, rfl, i64_wf w0, i64_wf w1, i64_wf w2, i64_wf w3⟩
theorem fit_P {B v} (h : FitV Tryz.prog B 149 v) : ∃ x : Int × Int, v = eP x ∧ I64 x.1 ∧ I64 x.2 := by
 obtain ⟨k, cs, h, e⟩ := h.out
 obtain ⟨h1, m', h2⟩ := fits_agg pcs149 cel149 h
 obtain ⟨a, b, rfl⟩ := len2 h1
 obtain ⟨n0, e0, w0⟩ := fits_int Tryz.underlying3 (h2 (0, 3) (by simp))
 obtain ⟨n1, e1, w1⟩ := fits_int Tryz.underlying3 (h2 (1, 3) (by simp))
 simp [cel3] at e0 e1
 subst e0; subst e1
 exact ⟨(n0, n1), e.trans (by rw [mkEl, if_pos (pcs_tagg pcs149)]; rfl), i64_wf w0, i64_wf w1⟩
structure Ord where
 name : List UInt8
 load_c : Bool
 load : List (Int)
 pick : Stp
 drp : Stp
 skills : Int
 penalty : Int
 split : Int
 last : Int
 now : Int
 off : Bool
 deriving Inhabited
def cOrd (x : Ord) : List PV := [.str x.name, .list x.load_c (x.load.map eI), .int .i64 x.pick.place, .int .i64 x.pick.opn, .int .i64 x.pick.cls, .int .i64 x.pick.serv, .int .i64 x.drp.place, .int .i64 x.drp.opn, .int .i64 x.drp.cls, .int .i64 x.drp.serv, .int .i64 x.skills, .int .i64 x.penalty, .int .i64 x.split, .int .i64 x.last, .int .i64 x.now, .bool x.off]
def eOrd (x : Ord) : PV := .agg [.str x.name, .list x.load_c (x.load.map eI), .int .i64 x.pick.place, .int .i64 x.pick.opn, .int .i64 x.pick.cls, .int .i64 x.pick.serv, .int .i64 x.drp.place, .int .i64 x.drp.opn, .int .i64 x.drp.cls, .int .i64 x.drp.serv, .int .i64 x.skills, .int .i64 x.penalty, .int .i64 x.split, .int .i64 x.last, .int .i64 x.now, .bool x.off]
@[go_sem] theorem eOrd_eq (x : Ord) : eOrd x = .agg [.str x.name, .list x.load_c (x.load.map eI), .int .i64 x.pick.place, .int .i64 x.pick.opn, .int .i64 x.pick.cls, .int .i64 x.pick.serv, .int .i64 x.drp.place, .int .i64 x.drp.opn, .int .i64 x.drp.cls, .int .i64 x.drp.serv, .int .i64 x.skills, .int .i64 x.penalty, .int .i64 x.split, .int .i64 x.last, .int .i64 x.now, .bool x.off] := Eq.trans rfl rfl
def Ord.wf (B : Nat) (x : Ord) : Prop := x.name.length ≤ B ∧ x.load.length ≤ B ∧ (∀ n ∈ x.load, I64 n) ∧ Stp.wf B x.pick ∧ Stp.wf B x.drp ∧ I64 x.skills ∧ I64 x.penalty ∧ I64 x.split ∧ I64 x.last ∧ I64 x.now
theorem fits_Ord {B m cs} (h : fits Tryz.prog B m 100 cs) : ∃ x : Ord, cs = cOrd x ∧ x.wf B := by
 obtain ⟨h1, m', h2⟩ := fits_agg pcs100 cel100 h
 obtain ⟨a0, a1, a2, a3, a4, a5, a6, a7, a8, a9, a10, a11, a12, a13, a14, a15, rfl⟩ := len16 h1
 obtain ⟨n0, e0, w0, _⟩ := fits_str Tryz.underlying9 (h2 (0, 9) (by simp))
 obtain ⟨y1, e1, w1, _, z1⟩ := fits_slice Tryz.underlying32 (h2 (1, 32) (by simp))
 obtain ⟨n1, rfl, u1⟩ := fit_ints z1
 obtain ⟨n2, e2, w2⟩ := fits_Stp (h2 (2, 98) (by simp))
 obtain ⟨n3, e3, w3⟩ := fits_Stp (h2 (6, 98) (by simp))
 obtain ⟨n4, e4, w4⟩ := fits_int Tryz.underlying3 (h2 (10, 3) (by simp))
 obtain ⟨n5, e5, w5⟩ := fits_int Tryz.underlying3 (h2 (11, 3) (by simp))
 obtain ⟨n6, e6, w6⟩ := fits_int Tryz.underlying3 (h2 (12, 3) (by simp))
 obtain ⟨n7, e7, w7⟩ := fits_int Tryz.underlying3 (h2 (13, 3) (by simp))
 obtain ⟨n8, e8, w8⟩ := fits_int Tryz.underlying3 (h2 (14, 3) (by simp))
 obtain ⟨n9, e9⟩ := fits_bool Tryz.underlying4 (h2 (15, 4) (by simp))
 simp [cel32, cel98, cel4, cel3, cel9, cStp, cStp] at e0 e1 e2 e3 e4 e5 e6 e7 e8 e9
 subst e0; subst e1; obtain ⟨rfl, rfl, rfl, rfl⟩ := e2; obtain ⟨rfl, rfl, rfl, rfl⟩ := e3; subst e4; subst e5; subst e6; subst e7; subst e8; subst e9
 exact ⟨⟨n0, false, n1, n2, n3, n4, n5, n6, n7, n8, n9⟩, rfl, w0, by simpa using w1, u1, w2, w3, i64_wf w4, i64_wf w5, i64_wf w6, i64_wf w7, i64_wf w8⟩
theorem fit_Ord {B v} (h : FitV Tryz.prog B 100 v) : ∃ x : Ord, v = eOrd x ∧ x.wf B := by
 obtain ⟨k, cs, h, e⟩ := h.out
 obtain ⟨x, rfl, hw⟩ := fits_Ord h
 exact ⟨x, e.trans (by rw [mkEl, if_pos (pcs_tagg pcs100)]; rfl), hw⟩
structure Inst where
 net : Net
 types_c : Bool
 types : List (Typ)
 orders_c : Bool
 orders : List (Ord)
 apart_c : Bool
 apart : List (Int × Int)
 before_c : Bool
 before : List (Int × Int)
 deriving Inhabited
def cInst (x : Inst) : List PV := [.list x.net.places_c (x.net.places.map eS), .list x.net.arcs_c (x.net.arcs.map eArc), .list x.types_c (x.types.map eTyp), .list x.orders_c (x.orders.map eOrd), .list x.apart_c (x.apart.map eP), .list x.before_c (x.before.map eP)]
def eInst (x : Inst) : PV := .agg [.list x.net.places_c (x.net.places.map eS), .list x.net.arcs_c (x.net.arcs.map eArc), .list x.types_c (x.types.map eTyp), .list x.orders_c (x.orders.map eOrd), .list x.apart_c (x.apart.map eP), .list x.before_c (x.before.map eP)]
@[go_sem] theorem eInst_eq (x : Inst) : eInst x = .agg [.list x.net.places_c (x.net.places.map eS), .list x.net.arcs_c (x.net.arcs.map eArc), .list x.types_c (x.types.map eTyp), .list x.orders_c (x.orders.map eOrd), .list x.apart_c (x.apart.map eP), .list x.before_c (x.before.map eP)] := Eq.trans rfl rfl
def Inst.wf (B : Nat) (x : Inst) : Prop := Net.wf B x.net ∧ x.types.length ≤ B ∧ (∀ y ∈ x.types, Typ.wf B y) ∧ x.orders.length ≤ B ∧ (∀ y ∈ x.orders, Ord.wf B y) ∧ x.apart.length ≤ B ∧ (∀ p ∈ x.apart, I64 p.1 ∧ I64 p.2) ∧ x.before.length ≤ B ∧ (∀ p ∈ x.before, I64 p.1 ∧ I64 p.2)
theorem fits_Inst {B m cs} (h : fits Tryz.prog B m 30 cs) : ∃ x : Inst, cs = cInst x ∧ x.wf B := by
 obtain ⟨h1, m', h2⟩ := fits_agg pcs30 cel30 h
 obtain ⟨a0, a1, a2, a3, a4, a5, rfl⟩ := len6 h1
 obtain ⟨n0, e0, w0⟩ := fits_Net (h2 (0, 25) (by simp))
 obtain ⟨y1, e1, w1, _, z1⟩ := fits_slice Tryz.underlying26 (h2 (2, 26) (by simp))
 obtain ⟨n1, rfl, u1⟩ := row_map (f := eTyp) fun y hy => fit_Typ (z1 y hy)
 obtain ⟨y2, e2, w2, _, z2⟩ := fits_slice Tryz.underlying27 (h2 (3, 27) (by simp))
 obtain ⟨n2, rfl, u2⟩ := row_map (f := eOrd) fun y hy => fit_Ord (z2 y hy)
 obtain ⟨y3, e3, w3, _, z3⟩ := fits_slice Tryz.underlying28 (h2 (4, 28) (by simp))
 obtain ⟨n3, rfl, u3⟩ := row_map (f := eP) fun y hy => fit_P (z3 y hy)
 obtain ⟨y4, e4, w4, _, z4⟩ := fits_slice Tryz.underlying28 (h2 (5, 28) (by simp))
 obtain ⟨n4, rfl, u4⟩ := row_map (f := eP) fun y hy => fit_P (z4 y hy)
 simp [cel28, cel27, cel26, cel25, cNet] at e0 e1 e2 e3 e4
 obtain ⟨rfl, rfl⟩ := e0; subst e1; subst e2; subst e3; subst e4
 exact ⟨⟨n0, false, n1, false, n2, false, n3, false, n4⟩, rfl, w0, by simpa using w1, u1, by simpa using w2, u2, by simpa using w3, u3, by simpa using w4, u4⟩
theorem fit_Inst {B v} (h : FitV Tryz.prog B 30 v) : ∃ x : Inst, v = eInst x ∧ x.wf B := by
 obtain ⟨k, cs, h, e⟩ := h.out
 obtain ⟨x, rfl, hw⟩ := fits_Inst h
 exact ⟨x, e.trans (by rw [mkEl, if_pos (pcs_tagg pcs30)]; rfl), hw⟩
structure Vis where
 order : Int
 drp : Bool
 deriving Inhabited
def cVis (x : Vis) : List PV := [.int .i64 x.order, .bool x.drp]
def eVis (x : Vis) : PV := .agg [.int .i64 x.order, .bool x.drp]
@[go_sem] theorem eVis_eq (x : Vis) : eVis x = .agg [.int .i64 x.order, .bool x.drp] := Eq.trans rfl rfl
@[go_sem] theorem allS_eVis (l : List Vis) : allS 2 (l.map eVis) = true := allS_map (f := eVis) (S := 2) (fun _ => rfl) l
@[go_sem] theorem okE_eVis (l : List Vis) : okE 2 (l.map eVis) = true := okE_map fun _ => rfl
def Vis.wf (B : Nat) (x : Vis) : Prop := I64 x.order
theorem fits_Vis {B m cs} (h : fits Tryz.prog B m 73 cs) : ∃ x : Vis, cs = cVis x ∧ x.wf B := by
 obtain ⟨h1, m', h2⟩ := fits_agg pcs73 cel73 h
 obtain ⟨a0, a1, rfl⟩ := len2 h1
 obtain ⟨n0, e0, w0⟩ := fits_int Tryz.underlying3 (h2 (0, 3) (by simp))
 obtain ⟨n1, e1⟩ := fits_bool Tryz.underlying4 (h2 (1, 4) (by simp))
 simp [cel4, cel3] at e0 e1
 subst e0; subst e1
 exact ⟨⟨n0, n1⟩, rfl, i64_wf w0⟩
theorem fit_Vis {B v} (h : FitV Tryz.prog B 73 v) : ∃ x : Vis, v = eVis x ∧ x.wf B := by
 obtain ⟨k, cs, h, e⟩ := h.out
 obtain ⟨x, rfl, hw⟩ := fits_Vis h
 exact ⟨x, e.trans (by rw [mkEl, if_pos (pcs_tagg pcs73)]; rfl), hw⟩
structure Rte where
 typ : Int
 start : Int
 rests_c : Bool
 rests : List (Bool)
 visits_c : Bool
 visits : List (Vis)
 deriving Inhabited
def cRte (x : Rte) : List PV := [.int .i64 x.typ, .int .i64 x.start, .list x.rests_c (x.rests.map eB), .list x.visits_c (x.visits.map eVis)]
def eRte (x : Rte) : PV := .agg [.int .i64 x.typ, .int .i64 x.start, .list x.rests_c (x.rests.map eB), .list x.visits_c (x.visits.map eVis)]
@[go_sem] theorem eRte_eq (x : Rte) : eRte x = .agg [.int .i64 x.typ, .int .i64 x.start, .list x.rests_c (x.rests.map eB), .list x.visits_c (x.visits.map eVis)] := Eq.trans rfl rfl
def Rte.wf (B : Nat) (x : Rte) : Prop := I64 x.typ ∧ I64 x.start ∧ x.rests.length ≤ B ∧ (∀ b ∈ x.rests, True) ∧ x.visits.length ≤ B ∧ (∀ y ∈ x.visits, Vis.wf B y)
theorem fits_Rte {B m cs} (h : fits Tryz.prog B m 44 cs) : ∃ x : Rte, cs = cRte x ∧ x.wf B := by
 obtain ⟨h1, m', h2⟩ := fits_agg pcs44 cel44 h
 obtain ⟨a0, a1, a2, a3, rfl⟩ := len4 h1
 obtain ⟨n0, e0, w0⟩ := fits_int Tryz.underlying3 (h2 (0, 3) (by simp))
 obtain ⟨n1, e1, w1⟩ := fits_int Tryz.underlying3 (h2 (1, 3) (by simp))
 obtain ⟨y2, e2, w2, _, z2⟩ := fits_slice Tryz.underlying41 (h2 (2, 41) (by simp))
 obtain ⟨n2, rfl, u2⟩ := fit_bools z2
 obtain ⟨y3, e3, w3, _, z3⟩ := fits_slice Tryz.underlying42 (h2 (3, 42) (by simp))
 obtain ⟨n3, rfl, u3⟩ := row_map (f := eVis) fun y hy => fit_Vis (z3 y hy)
 simp [cel42, cel41, cel3] at e0 e1 e2 e3
 subst e0; subst e1; subst e2; subst e3
 exact ⟨⟨n0, n1, false, n2, false, n3⟩, rfl, i64_wf w0, i64_wf w1, by simpa using w2, u2, by simpa using w3, u3⟩
theorem fit_Rte {B v} (h : FitV Tryz.prog B 44 v) : ∃ x : Rte, v = eRte x ∧ x.wf B := by
 obtain ⟨k, cs, h, e⟩ := h.out
 obtain ⟨x, rfl, hw⟩ := fits_Rte h
 exact ⟨x, e.trans (by rw [mkEl, if_pos (pcs_tagg pcs44)]; rfl), hw⟩
structure Tim where
 arr : Int
 beg : Int
 dep : Int
 rest : Bool
 deriving Inhabited
def eTim (x : Tim) : PV := .agg [.int .i64 x.arr, .int .i64 x.beg, .int .i64 x.dep, .bool x.rest]
@[go_sem] theorem eTim_eq (x : Tim) : eTim x = .agg [.int .i64 x.arr, .int .i64 x.beg, .int .i64 x.dep, .bool x.rest] := Eq.trans rfl rfl
@[go_sem] theorem okE_eTim (l : List Tim) : okE 4 (l.map eTim) = true := okE_map fun _ => rfl
structure She where
 rest : Bool
 dep : Int
 times_c : Bool
 times : List (Tim)
 fin : Int
 miles : Int
 deriving Inhabited
def eShe (x : She) : PV := .agg [.bool x.rest, .int .i64 x.dep, .list x.times_c (x.times.map eTim), .int .i64 x.fin, .int .i64 x.miles]
@[go_sem] theorem eShe_eq (x : She) : eShe x = .agg [.bool x.rest, .int .i64 x.dep, .list x.times_c (x.times.map eTim), .int .i64 x.fin, .int .i64 x.miles] := Eq.trans rfl rfl
structure Sco where
 cost : Int
 moved : Int
 other : Int
 work : Int
 deriving Inhabited
def eSco (x : Sco) : PV := .agg [.int .i64 x.cost, .int .i64 x.moved, .int .i64 x.other, .int .i64 x.work]
@[go_sem] theorem eSco_eq (x : Sco) : eSco x = .agg [.int .i64 x.cost, .int .i64 x.moved, .int .i64 x.other, .int .i64 x.work] := Eq.trans rfl rfl
structure Pln where
 routes_c : Bool
 routes : List (Rte)
 unserved_c : Bool
 unserved : List (Int)
 deriving Inhabited
def cPln (x : Pln) : List PV := [.list x.routes_c (x.routes.map eRte), .list x.unserved_c (x.unserved.map eI)]
def ePln (x : Pln) : PV := .agg [.list x.routes_c (x.routes.map eRte), .list x.unserved_c (x.unserved.map eI)]
@[go_sem] theorem ePln_eq (x : Pln) : ePln x = .agg [.list x.routes_c (x.routes.map eRte), .list x.unserved_c (x.unserved.map eI)] := Eq.trans rfl rfl
def Pln.wf (B : Nat) (x : Pln) : Prop := x.routes.length ≤ B ∧ (∀ y ∈ x.routes, Rte.wf B y) ∧ x.unserved.length ≤ B ∧ (∀ n ∈ x.unserved, I64 n)
theorem fits_Pln {B m cs} (h : fits Tryz.prog B m 34 cs) : ∃ x : Pln, cs = cPln x ∧ x.wf B := by
 obtain ⟨h1, m', h2⟩ := fits_agg pcs34 cel34 h
 obtain ⟨a0, a1, rfl⟩ := len2 h1
 obtain ⟨y0, e0, w0, _, z0⟩ := fits_slice Tryz.underlying31 (h2 (0, 31) (by simp))
 obtain ⟨n0, rfl, u0⟩ := row_map (f := eRte) fun y hy => fit_Rte (z0 y hy)
 obtain ⟨y1, e1, w1, _, z1⟩ := fits_slice Tryz.underlying32 (h2 (1, 32) (by simp))
 obtain ⟨n1, rfl, u1⟩ := fit_ints z1
 simp [cel31, cel32] at e0 e1
 subst e0; subst e1
 exact ⟨⟨false, n0, false, n1⟩, rfl, by simpa using w0, u0, by simpa using w1, u1⟩
theorem fit_Pln {B v} (h : FitV Tryz.prog B 34 v) : ∃ x : Pln, v = ePln x ∧ x.wf B := by
 obtain ⟨k, cs, h, e⟩ := h.out
 obtain ⟨x, rfl, hw⟩ := fits_Pln h
 exact ⟨x, e.trans (by rw [mkEl, if_pos (pcs_tagg pcs34)]; rfl), hw⟩
end Go.Proofs.YtcdoglogglbemaaGreatDoor.K
set_option linter.unusedVariables false
set_option linter.unusedSimpArgs false
namespace Go.Proofs.YtcdoglogglbemaaGreatDoor.K
open Go Go.AM Go.Proofs
theorem own : ownKnob Tryz.prog.godebug = none := by kernel_rfl
theorem laidOut : laidOutB Tryz.prog = true := by kernel_rfl
end Go.Proofs.YtcdoglogglbemaaGreatDoor.K
set_option linter.unusedVariables false
set_option linter.unusedSimpArgs false
namespace Go.Proofs.YtcdoglogglbemaaGreatDoor.K
open Go Go.AM Go.Proofs
abbrev Flt := Int × List UInt8
def eF (f : Flt) : PV := .agg [.int .i64 f.1, .str f.2]
@[go_sem] theorem eF_eq (f : Flt) : eF f = .agg [.int .i64 f.1, .str f.2] := Eq.trans rfl rfl
@[go_sem] theorem okE_eF (l : List Flt) : okE 2 (l.map eF) = true := okE_map fun _ => rfl
def dec (n : Nat) : List UInt8 := if h : n < 10 then [UInt8.ofNat (48 + n)] else dec (n / 10) ++ [UInt8.ofNat (48 + n % 10)]
termination_by n
decreasing_by omega
theorem dec_len : ∀ (k n : Nat), n < k → (dec n).length ≤ n + 1 := by
 intro k
 induction k with
 | zero => intro n h; omega
 | succ k ih =>
  intro n h
  rw [dec]
  split
  ·simp
  ·have := ih (n / 10) (by omega)
   simp
   omega
theorem dec_digits : ∀ (d n : Nat), n < 10 ^ (d + 1) → (dec n).length ≤ d + 1 := by
 intro d
 induction d with
 | zero => intro n h; rw [dec, dif_pos (by omega)]; simp
 | succ d ih =>
  intro n h
  rw [dec]
  split
  ·simp
  ·have := ih (n / 10) (by rw [Nat.div_lt_iff_lt_mul (by omega)]; rw [Nat.pow_succ] at h; exact h)
   simp
   omega
def decI (n : Int) : List UInt8 := if n < 0 then 45 :: dec n.natAbs else dec n.natAbs
theorem decI_len (n : Int) (h : I64 n) : (decI n).length ≤ 20 := by
 have h1 : n.natAbs < 10 ^ (18 + 1) := by omega
 have := dec_digits 18 n.natAbs h1
 unfold decI
 split <;> simp <;> omega
structure FR {α : Type} (p : α → Prop) (C : Prop) (b : Nat) (l : List α) : Prop where
 len : l.length ≤ b
 emp : l = [] ↔ C
 all : ∀ x ∈ l, p x
theorem FR.nil {α : Type} {p : α → Prop} {C : Prop} {b : Nat} (h : C) : FR p C b [] := ⟨by simp, by simp [h], by simp⟩
theorem FR.no {α : Type} {p : α → Prop} {C c : Prop} {b : Nat} {l : List α} (h : FR p C b l) (hc : c) : FR p (C ∧ c) (b + 1) l := ⟨by have := h.len; omega, by rw [h.emp]; simp [hc], h.all⟩
theorem FR.yes {α : Type} {p : α → Prop} {C c : Prop} {b : Nat} {l : List α} {x : α} (h : FR p C b l) (hc : ¬ c) (hx : p x) : FR p (C ∧ c) (b + 1) (l ++ [x]) :=
 ⟨by have := h.len; simp; omega, by simp [hc], fun y hy => by
  rcases List.mem_append.1 hy with hy | hy
  ·exact h.all y hy
  ·simp at hy; subst hy; exact hx⟩
theorem FR.app {α : Type} {p : α → Prop} {C D : Prop} {b d : Nat} {l m : List α} (h : FR p C b l) (k : FR p D d m) : FR p (C ∧ D) (b + d) (l ++ m) :=
 ⟨by have := h.len; have := k.len; simp; omega, by rw [List.append_eq_nil_iff, h.emp, k.emp], fun y hy => by
  rcases List.mem_append.1 hy with hy | hy
  ·exact h.all y hy
  ·exact k.all y hy⟩
theorem FR.to {α : Type} {p : α → Prop} {C D : Prop} {b d : Nat} {l : List α} (h : FR p C b l) (hb : b ≤ d) (hc : C ↔ D) : FR p D d l := ⟨Nat.le_trans h.len hb, h.emp.trans hc, h.all⟩
theorem upto_iff {p : Nat → Prop} {k : Nat} : (∀ j, j < k + 1 → p j) ↔ ((∀ j, j < k → p j) ∧ p k) :=
 ⟨fun h => ⟨fun j hj => h j (by omega), h k (by omega)⟩, fun h j hj => by
  rcases Nat.lt_or_ge j k with h1 | h1
  ·exact h.1 j h1
  ·have : j = k := by omega
   rw [this]; exact h.2⟩
def isDigit (c : UInt8) : Bool := decide (48 ≤ c.toNat ∧ c.toNat ≤ 57)
def isLetter (c : UInt8) : Bool := decide (97 ≤ c.toNat ∧ c.toNat ≤ 122) || decide (65 ≤ c.toNat ∧ c.toNat ≤ 90) || decide (c.toNat = 95)
def nameOk (s : List UInt8) : Bool := decide (1 ≤ s.length) && decide (s.length ≤ 16) && !isDigit (nth s 0) && s.all fun c => isLetter c || isDigit c
def rng (n lo hi : Int) : Bool := decide (lo ≤ n ∧ n ≤ hi)
def tick (n : Int) : Bool := rng n 0 4096
def ptOk (l : List Pt) (i : Nat) : Prop := (0 ≤ (nth l i).t ∧ (nth l i).t ≤ 4096 ∧ (nth l i).t ≤ (nth l i).a ∧ (nth l i).a ≤ (nth l i).t + 4096) ∧ (0 < i → (nth l (i - 1)).t < (nth l i).t ∧ (nth l (i - 1)).a ≤ (nth l i).a)
def ptsOk (l : List Pt) : Prop := (1 ≤ l.length ∧ l.length ≤ 16) ∧ ∀ i, i < l.length → ptOk l i
def slowOk (l : List Pt) (i : Nat) : Prop := tick (nth l i).t = true ∧ tick (nth l i).a = true ∧ (0 < i → (nth l (i - 1)).t < (nth l i).t)
def arcOk (n : Net) (i : Nat) : Prop :=
 ((((((0 ≤ (nth n.arcs i).src ∧ (nth n.arcs i).src < n.places.length ∧ 0 ≤ (nth n.arcs i).dst ∧ (nth n.arcs i).dst < n.places.length) ∧
 (0 ≤ (nth n.arcs i).prof ∧ (nth n.arcs i).prof ≤ 7 ∧ 0 ≤ (nth n.arcs i).miles ∧ (nth n.arcs i).miles ≤ 10000 ∧ (nth n.arcs i).src ≠ (nth n.arcs i).dst)) ∧
 (∀ k, k < i → ¬ ((nth n.arcs i).src = (nth n.arcs k).src ∧ (nth n.arcs i).dst = (nth n.arcs k).dst ∧ (nth n.arcs i).prof = (nth n.arcs k).prof))) ∧
 ptsOk (nth n.arcs i).travel) ∧ (nth n.arcs i).slow.length ≤ 16) ∧ ∀ k, k < (nth n.arcs i).slow.length → slowOk (nth n.arcs i).slow k)
def plOk (n : Net) (i : Nat) : Prop := nameOk (nth n.places i) = true ∧ ∀ k, k < i → nth n.places k ≠ nth n.places i
def placesOk (n : Net) : Prop := n.places.length ≤ 24 ∧ ∀ i, i < n.places.length → plOk n i
def netOk (n : Net) : Prop := (placesOk n ∧ n.arcs.length ≤ 1024) ∧ ∀ i, i < n.arcs.length → arcOk n i
end Go.Proofs.YtcdoglogglbemaaGreatDoor.K
set_option linter.unusedVariables false
set_option linter.unusedSimpArgs false
namespace Go.Proofs.YtcdoglogglbemaaGreatDoor.K
open Go Go.AM Go.Proofs
set_option maxRecDepth 8000
set_option maxHeartbeats 4000000
theorem digit_c (c : UInt8) : ACalls Tryz.prog 278 [.p (.int .u8 (c.toNat : Nat))] [] fun x H' => x = .p (.bool (isDigit c)) ∧ H' = [] := by
 refine acalls_pure (fn := Tryz.f278) Tryz.func278 rfl isF278 ?_
 simp (disch := omega) only [Tryz.f278, go_sem, seval]
 refine aguard_t (fun h => ?_) (fun h => ?_) <;> (try simp only [decide_eq_true_eq, decide_eq_false_iff_not] at h) <;> simp (disch := omega) only [Sh.out h, go_sem, seval]
 all_goals (simp [isDigit]; first | done | omega | (rw [Bool.eq_iff_iff]; simp; omega))
theorem letter_c (c : UInt8) : ACalls Tryz.prog 279 [.p (.int .u8 (c.toNat : Nat))] [] fun x H' => x = .p (.bool (isLetter c)) ∧ H' = [] := by
 refine acalls_pure (fn := Tryz.f279) Tryz.func279 rfl isF279 ?_
 simp (disch := omega) only [Tryz.f279, go_sem, seval]
 repeat' (first | (refine aguard_t (fun hq => ?_) (fun hq => ?_) <;> (try simp only [decide_eq_true_eq, decide_eq_false_iff_not, Classical.not_not] at hq) <;> simp (disch := omega) only [Sh.out hq, go_sem, seval]) | (refine aguard_f (fun hq => ?_) (fun hq => ?_) <;> (try simp only [decide_eq_true_eq, decide_eq_false_iff_not, Classical.not_not] at hq) <;> simp (disch := omega) only [Sh.out hq, go_sem, seval]) | (refine acond_b (fun hq => ?_) (fun hq => ?_) <;> (try simp only [decide_eq_true_eq, decide_eq_false_iff_not, Classical.not_not] at hq) <;> simp (disch := omega) only [Sh.out hq, go_sem, seval]))
 all_goals (simp [isLetter]; first | done | omega | (rw [Bool.eq_iff_iff]; simp; omega))
theorem name_c (s : List UInt8) (hs : s.length ≤ 1048576) : ACalls Tryz.prog 202 [.p (.str s)] [] fun x H' => x = .p (.bool (nameOk s)) ∧ H' = [] := by
 refine acalls_pure (fn := Tryz.f202) Tryz.func202 rfl isF202 ?_
 simp (disch := omega) only [Tryz.f202, go_sem, seval]
 refine aguard_f (fun h => ?_) (fun h => ?_) <;> (try simp only [decide_eq_true_eq, decide_eq_false_iff_not] at h) <;> simp (disch := omega) only [Sh.out h, go_sem, seval]
 ·have : ¬ 1 ≤ s.length := by omega
  simp [nameOk, this]
 ·refine aguard_f (fun h2 => ?_) (fun h2 => ?_) <;> (try simp only [decide_eq_true_eq, decide_eq_false_iff_not] at h2) <;> simp (disch := omega) only [Sh.out h2, go_sem, seval]
  ·have : ¬ s.length ≤ 16 := by omega
   simp [nameOk, this]
  ·have g1 : 1 ≤ s.length := by omega
   have g2 : s.length ≤ 16 := by omega
   refine (digit_c (nth s 0)).use ?_
   simp (disch := omega) only [go_sem, seval]
   refine acond_b (fun h3 => ?_) (fun h3 => ?_) <;> (try simp only [decide_eq_true_eq, decide_eq_false_iff_not] at h3) <;> simp (disch := omega) only [Sh.out h3, go_sem, seval]
   ·simp [nameOk, h3]
   ·refine awp_for [0] (fun k : Nat => [(3, .p (.int .i64 k))]) (fun _ => []) (fun k => k ≤ s.length ∧ ∀ j, j < k → (isLetter (nth s j) || isDigit (nth s j)) = true) (fun k => s.length - k) 0 (by simp) (Weak.mk ?_) ?_
    ·simp (disch := omega) only [go_sem, seval]
    ·rintro k ⟨hk, hno⟩
     simp (disch := omega) only [go_sem, seval]
     have hall : ∀ j, j < s.length → (isLetter (nth s j) || isDigit (nth s j)) = false → nameOk s = false := fun j hj e => by
      have : s.all (fun c => isLetter c || isDigit c) = false := by
       rw [List.all_eq_false]
       exact ⟨nth s j, by rw [nth_get hj]; exact List.getElem_mem _, by rw [e]; simp⟩
      simp [nameOk, this]
     refine acond_b (fun h4 => ?_) (fun h4 => ?_) <;> (try simp only [decide_eq_true_eq, decide_eq_false_iff_not] at h4) <;> simp (disch := omega) only [Sh.out h4, go_sem, seval]
     ·have hk2 : k < s.length := by omega
      refine (letter_c (nth s k)).use ?_
      simp (disch := omega) only [go_sem, seval]
      refine aguard_t (fun h5 => ?_) (fun h5 => ?_) <;> (try simp only [decide_eq_true_eq, decide_eq_false_iff_not] at h5) <;> simp (disch := omega) only [Sh.out h5, go_sem, seval]
      ·refine (digit_c (nth s k)).use ?_
       simp (disch := omega) only [go_sem, seval]
       refine acond_b (fun h6 => ?_) (fun h6 => ?_) <;> (try simp only [decide_eq_true_eq, decide_eq_false_iff_not] at h6) <;> simp (disch := omega) only [Sh.out h6, go_sem, seval]
       ·simp only [Bool.not_eq_true'] at h5 h6
        rw [hall k hk2 (by rw [h5, h6]; rfl)]
       ·simp only [Bool.not_eq_false'] at h6
        exact ⟨k + 1, ⟨by omega, upto_iff.2 ⟨hno, by simp [h6]⟩⟩, by omega, Weak.mk (by simp (disch := omega) only [go_sem, seval])⟩
      ·simp only [Bool.not_eq_false'] at h5
       exact ⟨k + 1, ⟨by omega, upto_iff.2 ⟨hno, by simp [h5]⟩⟩, by omega, Weak.mk (by simp (disch := omega) only [go_sem, seval])⟩
     ·have : s.all (fun c => isLetter c || isDigit c) = true := by
       rw [List.all_eq_true]
       intro c hc
       obtain ⟨j, hj, rfl⟩ := List.mem_iff_getElem.1 hc
       rw [← nth_get hj]; exact hno j (by omega)
      simp [nameOk, g1, g2, h3, this]
theorem dec01_c (n : Int) (hn : I64 n) : ACalls Tryz.prog 147 [.p (.int .i64 n)] [] fun x H' => x = .p (.str (decI n)) ∧ H' = [] := by
 refine acalls_pure (fn := Tryz.f147) Tryz.func147 rfl isF147 ?_
 simp (disch := omega) only [Tryz.f147, go_sem, seval]
 have h19 : n.natAbs < 10 ^ (18 + 1) := by omega
 have hdl := dec_digits 18 n.natAbs h19
 refine awp_forC [7] [0] (fun q : Int × List UInt8 × Bool => [(3, .p (.str q.2.1)), (4, .p (.int .i64 q.1)), (5, .p (.bool q.2.2))]) (fun _ => [])
  (fun q => I64 q.1 ∧ (q.2.2 = true → dec q.1.natAbs ++ q.2.1 = dec n.natAbs) ∧ (q.2.2 = false → q.2.1 = dec n.natAbs)) (fun q => if q.2.2 then q.1.natAbs + 1 else 0) (n, [], true) (by simp; omega) (Weak.mk ?_) ?_
 ·simp (disch := omega) only [go_sem, seval]
 ·rintro ⟨m, s, again⟩ ⟨hm, h1, h2⟩
  simp only at hm h1 h2
  simp (disch := omega) only [go_sem, seval]
  cases again with
  | false =>
   simp (disch := omega) only [go_sem, seval]
   have h2 := h2 rfl
   have hl2 : ([45] : List UInt8).length + (dec n.natAbs).length ≤ 9223372036854775807 := by simp; omega
   refine acond_b (fun h3 => ?_) (fun h3 => ?_) <;> (try simp only [decide_eq_true_eq, decide_eq_false_iff_not] at h3) <;> simp (disch := omega) only [Sh.out h3, go_sem, seval]
   ·simp (disch := omega) only [decI, h2, h3, sbin_add hl2, go_sem, seval]
   ·simp (disch := omega) only [decI, h2, h3, go_sem, seval]
  | true =>
   have h1 := h1 rfl
   have hls : (dec m.natAbs).length + s.length = (dec n.natAbs).length := by rw [← h1]; simp
   simp (disch := omega) only [go_sem, seval]
   have e1 : (m.tmod 10).natAbs = m.natAbs % 10 := by rw [Int.natAbs_tmod]; rfl
   have e2 : (m.tdiv 10).natAbs = m.natAbs / 10 := by rw [Int.natAbs_tdiv]; rfl
   have e3 : m.tmod 10 < 10 ∧ -10 < m.tmod 10 := ⟨Int.tmod_lt_of_pos _ (by decide), by omega⟩
   refine awp_join [0, 3, 4] (fun _ : Unit => [(6, .p (.int .i64 ((m.natAbs % 10 : Nat) : Int)))]) (fun _ => []) (fun _ => True) ?_ ?_
   ·simp (disch := omega) only [go_sem, seval]
    refine acond_b (fun h3 => ?_) (fun h3 => ?_) <;> (try simp only [decide_eq_true_eq, decide_eq_false_iff_not] at h3) <;> simp (disch := omega) only [Sh.out h3, go_sem, seval]
    ·exact ⟨(), Weak.mk (by simp (disch := omega) only [go_sem, seval]; simp; omega)⟩
    ·exact ⟨(), Weak.mk (by simp (disch := omega) only [go_sem, seval]; simp; omega)⟩
   ·intro _ _
    refine awp_sound [] _ _ _ _ ?_
    simp (disch := first | omega | (simp only [List.length_cons, List.length_nil, List.length_append, List.length_map, List.length_take, List.length_drop] <;> omega)) only [go_sem, seval]
    have e4 : (48 + ((m.natAbs % 10 : Nat) : Int)).toNat = 48 + m.natAbs % 10 := by omega
    refine ⟨(m.tdiv 10, UInt8.ofNat (48 + m.natAbs % 10) :: s, decide (m.tdiv 10 ≠ 0)), ⟨?_, ?_, ?_⟩, ?_, Weak.mk ?_⟩
    ·simp only; omega
    ·simp only [decide_eq_true_eq]
     intro hne
     have h10 : ¬ m.natAbs < 10 := by omega
     rw [e2, ← h1, dec.eq_def m.natAbs, dif_neg h10]
     simp
    ·simp only [decide_eq_false_iff_not, Classical.not_not]
     intro hz
     have h10 : m.natAbs < 10 := by omega
     rw [← h1, dec.eq_def m.natAbs, dif_pos h10, Nat.mod_eq_of_lt h10]
     simp
    ·simp only [if_true]
     split
     ·rename_i hne
      simp only [decide_eq_true_eq] at hne
      omega
     ·omega
    ·simp (disch := omega) only [e4, go_sem, seval]
end Go.Proofs.YtcdoglogglbemaaGreatDoor.K
set_option linter.unusedVariables false
set_option linter.unusedSimpArgs false
namespace Go.Proofs.YtcdoglogglbemaaGreatDoor.K
open Go Go.AM Go.Proofs
set_option maxRecDepth 8000
set_option maxHeartbeats 4000000
def pF (k : Nat) (f : Flt) : Prop := f.2.length ≤ k
theorem ck07_c (l : List Pt) (c : Bool) (hl : l.length ≤ 1048576) : ACalls Tryz.prog 203 [.p (.list c (l.map ePt))] [] fun x H' => ∃ m : List Flt, FR (pF 20) (ptsOk l) (2 * l.length + 1) m ∧ x = .sl 0 0 m.length m.length ∧ H' = [.elems 2 (m.map eF)] := by
 refine acalls_freshE [2] (fn := Tryz.f203) Tryz.func203 rfl isF203 ?_
 simp (disch := omega) only [Tryz.f203, go_sem, seval]
 refine awp_weak (Weak.ofNil 3 2 (by simp (disch := omega) only [go_sem, seval]) (by simp) (Weak.refl _ _ _)) ?_
 refine awp_join [0] (fun m : List Flt => [(3, .sl 0 0 m.length m.length)]) (fun m => [.elems 2 (m.map eF)]) (fun m => FR (pF 20) (1 ≤ l.length ∧ l.length ≤ 16) 1 m) ?_ ?_
 ·simp (disch := omega) only [go_sem, seval]
  repeat' (first | (refine aguard_t (fun hq => ?_) (fun hq => ?_) <;> (try simp only [decide_eq_true_eq, decide_eq_false_iff_not, Classical.not_not] at hq) <;> simp (disch := omega) only [Sh.out hq, go_sem, seval]) | (refine aguard_f (fun hq => ?_) (fun hq => ?_) <;> (try simp only [decide_eq_true_eq, decide_eq_false_iff_not, Classical.not_not] at hq) <;> simp (disch := omega) only [Sh.out hq, go_sem, seval]) | (refine acond_b (fun hq => ?_) (fun hq => ?_) <;> (try simp only [decide_eq_true_eq, decide_eq_false_iff_not, Classical.not_not] at hq) <;> simp (disch := omega) only [Sh.out hq, go_sem, seval]))
  ·exact ⟨[(4, [])], ⟨by simp, by simp; omega, by simp [pF]⟩, Weak.mk (by simp (disch := omega) only [go_sem, seval])⟩
  ·exact ⟨[(4, [])], ⟨by simp, by simp; omega, by simp [pF]⟩, Weak.mk (by simp (disch := omega) only [go_sem, seval])⟩
  ·exact ⟨[], FR.nil (by omega), Weak.mk (by simp (disch := omega) only [go_sem, seval])⟩
 ·intro m hm
  refine awp_sound [] _ _ _ _ ?_
  simp (disch := omega) only [go_sem, seval]
  refine awp_forC [8] [0] (fun q : Nat × List Flt => [(3, .sl 0 0 q.2.length q.2.length), (4, .p (.int .i64 q.1))]) (fun q => [.elems 2 (q.2.map eF)]) (fun q => q.1 ≤ l.length ∧ FR (pF 20) ((1 ≤ l.length ∧ l.length ≤ 16) ∧ ∀ j, j < q.1 → ptOk l j) (2 * q.1 + 1) q.2) (fun q => l.length - q.1) (0, m) ⟨by simp, hm.to (by simp) (by simp)⟩ (Weak.mk ?_) ?_
  ·simp (disch := omega) only [go_sem, seval]
  ·rintro ⟨k, m⟩ ⟨hk, hm⟩
   simp only at hk hm
   have hml := hm.len
   simp (disch := omega) only [go_sem, seval]
   refine acond_b (fun h => ?_) (fun h => ?_) <;> (try simp only [decide_eq_true_eq, decide_eq_false_iff_not] at h) <;> simp (disch := omega) only [Sh.out h, go_sem, seval]
   ·have hk2 : k < l.length := by omega
    refine awp_join [0, 4, 5] (fun m : List Flt => [(3, .sl 0 0 m.length m.length)]) (fun m => [.elems 2 (m.map eF), .cells [.p (.int .i64 (nth l k).t), .p (.int .i64 (nth l k).a)]])
     (fun m => FR (pF 20) (((1 ≤ l.length ∧ l.length ≤ 16) ∧ ∀ j, j < k → ptOk l j) ∧ (0 ≤ (nth l k).t ∧ (nth l k).t ≤ 4096 ∧ (nth l k).t ≤ (nth l k).a ∧ (nth l k).a ≤ (nth l k).t + 4096)) (2 * k + 1 + 1) m) ?_ ?_
    ·simp (disch := omega) only [go_sem, seval]
     have hI : I64 (k : Int) := by omega
     have hdl := decI_len k hI
     repeat' (first | (refine aguard_t (fun hq => ?_) (fun hq => ?_) <;> (try simp only [decide_eq_true_eq, decide_eq_false_iff_not, Classical.not_not] at hq) <;> simp (disch := omega) only [Sh.out hq, go_sem, seval]) | (refine aguard_f (fun hq => ?_) (fun hq => ?_) <;> (try simp only [decide_eq_true_eq, decide_eq_false_iff_not, Classical.not_not] at hq) <;> simp (disch := omega) only [Sh.out hq, go_sem, seval]) | (refine acond_b (fun hq => ?_) (fun hq => ?_) <;> (try simp only [decide_eq_true_eq, decide_eq_false_iff_not, Classical.not_not] at hq) <;> simp (disch := omega) only [Sh.out hq, go_sem, seval]))
     all_goals try exact ⟨m, hm.no (by omega), Weak.mk (by simp (disch := omega) only [go_sem, seval])⟩
     all_goals
      refine (dec01_c k hI).use ?_
      simp (disch := omega) only [go_sem, seval]
      exact ⟨m ++ [(2, decI k)], hm.yes (by omega) (by simp only [pF]; omega), Weak.mk (by simp (disch := omega) only [go_sem, seval])⟩
    ·intro m hm
     have hml := hm.len
     refine awp_sound [] _ _ _ _ ?_
     simp (disch := omega) only [go_sem, seval]
     have hI : I64 (k : Int) := by omega
     have hdl := decI_len k hI
     refine awp_drawnA mixed (by kernel_rfl) (by kernel_rfl) ?_
     simp (disch := omega) only [go_sem, seval]
     repeat' (first | (refine aguard_t (fun hq => ?_) (fun hq => ?_) <;> (try simp only [decide_eq_true_eq, decide_eq_false_iff_not, Classical.not_not] at hq) <;> simp (disch := omega) only [Sh.out hq, go_sem, seval]) | (refine aguard_f (fun hq => ?_) (fun hq => ?_) <;> (try simp only [decide_eq_true_eq, decide_eq_false_iff_not, Classical.not_not] at hq) <;> simp (disch := omega) only [Sh.out hq, go_sem, seval]) | (refine acond_b (fun hq => ?_) (fun hq => ?_) <;> (try simp only [decide_eq_true_eq, decide_eq_false_iff_not, Classical.not_not] at hq) <;> simp (disch := omega) only [Sh.out hq, go_sem, seval]))
     all_goals try exact ⟨(k + 1, m), ⟨by simp only; omega, (hm.no (c := 0 < k → (nth l (k - 1)).t < (nth l k).t ∧ (nth l (k - 1)).a ≤ (nth l k).a) (by omega)).to (by simp only; omega) (by simp only [upto_iff, ptOk, and_assoc])⟩, by simp only; omega, Weak.mk (by simp (disch := omega) only [go_sem, seval])⟩
     all_goals
      refine (dec01_c k hI).use ?_
      simp (disch := omega) only [go_sem, seval]
      exact ⟨(k + 1, m ++ [(13, decI k)]), ⟨by simp only; omega, (hm.yes (c := 0 < k → (nth l (k - 1)).t < (nth l k).t ∧ (nth l (k - 1)).a ≤ (nth l k).a) (by omega) (by simp only [pF]; omega)).to (by simp only; omega) (by simp only [upto_iff, ptOk, and_assoc])⟩, by simp only; omega, Weak.mk (by simp (disch := omega) only [go_sem, seval])⟩
   ·have hkn : k = l.length := by omega
    subst hkn
    exact ⟨m, hm.to (by omega) (by rw [ptsOk]), 0, by simp (disch := omega) only [go_sem, seval]⟩
end Go.Proofs.YtcdoglogglbemaaGreatDoor.K
set_option linter.unusedVariables false
set_option linter.unusedSimpArgs false
namespace Go.Proofs.YtcdoglogglbemaaGreatDoor.K
open Go Go.AM Go.Proofs
set_option maxRecDepth 8000
set_option maxHeartbeats 8000000
theorem pF.mono {j k : Nat} (h : j ≤ k) {f : Flt} (hf : pF j f) : pF k f := Nat.le_trans hf h
theorem FR.pmono {α : Type} {p q : α → Prop} {C : Prop} {b : Nat} {l : List α} (h : FR p C b l) (hp : ∀ x, p x → q x) : FR q C b l := ⟨h.len, h.emp, fun x hx => hp x (h.all x hx)⟩
theorem tick09_c (n : Int) : ACalls Tryz.prog 204 [.p (.int .i64 n)] [] fun x H' => x = .p (.bool (tick n)) ∧ H' = [] := by
 refine acalls_pure (fn := Tryz.f204) Tryz.func204 rfl isF204 ?_
 simp (disch := omega) only [Tryz.f204, go_sem, seval]
 repeat' (first | (refine aguard_t (fun hq => ?_) (fun hq => ?_) <;> (try simp only [decide_eq_true_eq, decide_eq_false_iff_not, Classical.not_not] at hq) <;> simp (disch := omega) only [Sh.out hq, go_sem, seval]) | (refine aguard_f (fun hq => ?_) (fun hq => ?_) <;> (try simp only [decide_eq_true_eq, decide_eq_false_iff_not, Classical.not_not] at hq) <;> simp (disch := omega) only [Sh.out hq, go_sem, seval]) | (refine acond_b (fun hq => ?_) (fun hq => ?_) <;> (try simp only [decide_eq_true_eq, decide_eq_false_iff_not, Classical.not_not] at hq) <;> simp (disch := omega) only [Sh.out hq, go_sem, seval]))
 all_goals (simp [tick, rng]; first | done | omega | (rw [Bool.eq_iff_iff]; simp; omega))
def netH (n : Net) : List AM.Obj := [.cells [.p (.list n.places_c (n.places.map eS)), .p (.list n.arcs_c (n.arcs.map eArc))]]
theorem ckPlaces_c (n : Net) (hp : n.places.length ≤ 1048576) (hs : ∀ s ∈ n.places, s.length ≤ 1048576) : ACalls Tryz.prog 143 [.p (eNet n)] [] fun x H' => ∃ m : List Flt, FR (pF 26) (placesOk n) (n.places.length + 1) m ∧ x = .sl 0 0 m.length m.length ∧ H' = [.elems 2 (m.map eF)] := by
 refine acalls_freshE [2] (fn := Tryz.f143) Tryz.func143 rfl isF143 ?_
 simp (disch := omega) only [Tryz.f143, go_sem, seval]
 refine awp_weak (Weak.ofNil 3 2 (by simp (disch := omega) only [go_sem, seval]) (by simp) (Weak.refl _ _ _)) ?_
 refine awp_join [1] (fun m : List Flt => [(3, .sl 1 0 m.length m.length)]) (fun m => netH n ++ [.elems 2 (m.map eF)]) (fun m => FR (pF 26) (n.places.length ≤ 24) 1 m) ?_ ?_
 ·simp (disch := omega) only [go_sem, seval]
  refine acond_b (fun h => ?_) (fun h => ?_) <;> (try simp only [decide_eq_true_eq, decide_eq_false_iff_not] at h) <;> simp (disch := omega) only [Sh.out h, go_sem, seval]
  ·exact ⟨[(4, [112, 108, 97, 99, 101, 115])], ⟨by simp, by simp; omega, by simp [pF]⟩, Weak.mk (by simp (disch := omega) only [netH, go_sem, seval])⟩
  ·exact ⟨[], FR.nil (by omega), Weak.mk (by simp (disch := omega) only [netH, go_sem, seval])⟩
 ·intro m hm
  refine awp_sound [] _ _ _ _ ?_
  simp (disch := omega) only [netH, go_sem, seval]
  refine awp_for [1] (fun q : Nat × List Flt => [(3, .sl 1 0 q.2.length q.2.length), (4, .p (.int .i64 q.1))]) (fun q => netH n ++ [.elems 2 (q.2.map eF)]) (fun q => q.1 ≤ n.places.length ∧ FR (pF 26) (n.places.length ≤ 24 ∧ ∀ j, j < q.1 → plOk n j) (q.1 + 1) q.2) (fun q => n.places.length - q.1) (0, m) ⟨by simp, hm.to (by simp) (by simp)⟩ (Weak.mk ?_) ?_
  ·simp (disch := omega) only [netH, go_sem, seval]
  ·rintro ⟨k, m⟩ ⟨hk, hm⟩
   simp only at hk hm
   have hml := hm.len
   simp (disch := omega) only [netH, go_sem, seval]
   refine acond_b (fun h => ?_) (fun h => ?_) <;> (try simp only [decide_eq_true_eq, decide_eq_false_iff_not] at h) <;> simp (disch := omega) only [Sh.out h, go_sem, seval]
   ·have hk2 : k < n.places.length := by omega
    have hI : I64 (k : Int) := by omega
    have hdl := decI_len k hI
    refine (dec01_c k hI).use ?_
    simp (disch := omega) only [go_sem, seval]
    simp (disch := first | omega | (simp only [List.length_cons, List.length_nil, List.length_append, List.length_map, List.length_take, List.length_drop] <;> omega)) only [go_sem, seval]
    refine (name_c (nth n.places k) (hs _ (by rw [nth_get hk2]; exact List.getElem_mem _))).use ?_
    simp (disch := omega) only [go_sem, seval]
    refine acond_b (fun h2 => ?_) (fun h2 => ?_) <;> (try simp only [decide_eq_true_eq, decide_eq_false_iff_not] at h2) <;> simp (disch := omega) only [Sh.out h2, go_sem, seval]
    ·simp only [Bool.not_eq_true'] at h2
     exact ⟨(k + 1, m ++ [(5, [112, 108, 97, 99, 101, 32] ++ decI k)]), ⟨by simp only; omega, (hm.yes (c := plOk n k) (by rw [plOk, h2]; simp) (by simp [pF]; omega)).to (by simp) (by simp only [upto_iff, and_assoc])⟩, by simp only; omega, Weak.mk (by simp (disch := omega) only [netH, go_sem, seval])⟩
    ·simp only [Bool.not_eq_false'] at h2
     refine awp_for [1, 3, 4, 5] (fun q : Nat × Bool => [(6, .p (.bool q.2)), (7, .p (.int .i64 q.1))]) (fun _ => netH n ++ [.elems 2 (m.map eF)]) (fun q => q.1 ≤ k ∧ (q.2 = false ↔ ∀ j, j < q.1 → nth n.places j ≠ nth n.places k)) (fun q => k - q.1) (0, false) (by simp) (Weak.mk ?_) ?_
     ·simp (disch := omega) only [netH, go_sem, seval]
     ·rintro ⟨j, b⟩ ⟨hj, hb⟩
      simp only at hj hb
      simp (disch := omega) only [netH, go_sem, seval]
      refine acond_b (fun h3 => ?_) (fun h3 => ?_) <;> (try simp only [decide_eq_true_eq, decide_eq_false_iff_not] at h3) <;> simp (disch := omega) only [Sh.out h3, go_sem, seval]
      ·refine awp_drawnS 14 mixed (by kernel_rfl) (by kernel_rfl) ?_
       simp (disch := omega) only [go_sem, seval]
       have hjn : j < n.places.length := by omega
       cases b with
       | true =>
        simp (disch := omega) only [go_sem, seval]
        exact ⟨(j + 1, true), ⟨by simp only; omega, by rw [upto_iff, ← hb]; simp⟩, by simp only; omega, Weak.mk (by simp (disch := omega) only [netH, go_sem, seval])⟩
       | false =>
        simp (disch := omega) only [go_sem, seval]
        refine ⟨(j + 1, decide (nth n.places j = nth n.places k)), ⟨by simp only; omega, by rw [upto_iff, ← hb]; simp⟩, by simp only; omega, Weak.mk (by simp (disch := omega) only [netH, go_sem, seval])⟩
      ·have hjk : j = k := by omega
       subst hjk
       cases b with
       | true =>
        simp (disch := omega) only [go_sem, seval]
        have hno : ¬ plOk n j := fun h5 => by have := hb.2 h5.2; cases this
        exact ⟨(j + 1, m ++ [(6, [112, 108, 97, 99, 101, 32] ++ decI j)]), ⟨by simp only; omega, (hm.yes (c := plOk n j) hno (by simp [pF]; omega)).to (by simp) (by simp only [upto_iff, and_assoc])⟩, by simp only; omega, Weak.mk (by simp (disch := omega) only [netH, go_sem, seval])⟩
       | false =>
        simp (disch := omega) only [go_sem, seval]
        exact ⟨(j + 1, m), ⟨by simp only; omega, (hm.no (c := plOk n j) ⟨h2, hb.1 rfl⟩).to (by simp) (by simp only [upto_iff, and_assoc])⟩, by simp only; omega, Weak.mk (by simp (disch := omega) only [netH, go_sem, seval])⟩
   ·have hkn : k = n.places.length := by omega
    subst hkn
    exact ⟨m, hm.to (by omega) (by rw [placesOk]), 1, by simp (disch := omega) only [go_sem, seval]⟩
end Go.Proofs.YtcdoglogglbemaaGreatDoor.K
set_option linter.unusedVariables false
set_option linter.unusedSimpArgs false
namespace Go.Proofs.YtcdoglogglbemaaGreatDoor.K
open Go Go.AM Go.Proofs
set_option maxRecDepth 8000
set_option maxHeartbeats 16000000
def arcO (a : Arc) : AM.Obj := .cells [.p (.int .i64 a.src), .p (.int .i64 a.dst), .p (.int .i64 a.prof), .p (.int .i64 a.miles), .p (.list a.travel_c (a.travel.map ePt)), .p (.list a.slow_c (a.slow.map ePt))]
abbrev sameEnds (a b : Arc) : Prop := a.src = b.src ∧ a.dst = b.dst ∧ a.prof = b.prof
theorem ckArc_c (n : Net) (i : Nat) (hi : i < n.arcs.length) (hp : n.places.length ≤ 1048576) (ha : n.arcs.length ≤ 1048576) (ht : (nth n.arcs i).travel.length ≤ 1048576) (hsl : (nth n.arcs i).slow.length ≤ 1048576) :
  ACalls Tryz.prog 144 [.p (eNet n), .p (.int .i64 (i : Nat))] [] fun x H' => ∃ m : List Flt, FR (pF 26) (arcOk n i) 4000000 m ∧ x = .sl 0 0 m.length m.length ∧ H' = [.elems 2 (m.map eF)] := by
 refine acalls_freshE [4] (fn := Tryz.f144) Tryz.func144 rfl isF144 ?_
 simp (disch := omega) only [Tryz.f144, go_sem, seval]
 have hI : I64 (i : Int) := by omega
 have hdl := decI_len i hI
 refine (dec01_c i hI).use ?_
 simp (disch := omega) only [go_sem, seval]
 simp (disch := first | omega | (simp only [List.length_cons, List.length_nil, List.length_append, List.length_map, List.length_take, List.length_drop] <;> omega)) only [go_sem, seval]
 have hat : (97 :: 114 :: 99 :: 32 :: decI i).length ≤ 26 := by simp; omega
 generalize hga : nth n.arcs i = a at ht hsl ⊢
 generalize 97 :: 114 :: 99 :: 32 :: decI i = at' at hat ⊢
 refine awp_weak (Weak.ofNil 5 2 (by simp (disch := omega) only [go_sem, seval]) (by simp) (Weak.refl _ _ _)) ?_
 refine awp_join [1, 2, 6, 7] (fun m : List Flt => [(5, .sl 2 0 m.length m.length)]) (fun m => netH n ++ [arcO a, .elems 2 (m.map eF)]) (fun m => FR (pF 26) (0 ≤ a.src ∧ a.src < n.places.length ∧ 0 ≤ a.dst ∧ a.dst < n.places.length) 1 m) ?_ ?_
 ·simp (disch := omega) only [go_sem, seval]
  repeat' (first | (refine aguard_t (fun hq => ?_) (fun hq => ?_) <;> (try simp only [decide_eq_true_eq, decide_eq_false_iff_not, Classical.not_not] at hq) <;> simp (disch := omega) only [Sh.out hq, go_sem, seval]) | (refine aguard_f (fun hq => ?_) (fun hq => ?_) <;> (try simp only [decide_eq_true_eq, decide_eq_false_iff_not, Classical.not_not] at hq) <;> simp (disch := omega) only [Sh.out hq, go_sem, seval]) | (refine acond_b (fun hq => ?_) (fun hq => ?_) <;> (try simp only [decide_eq_true_eq, decide_eq_false_iff_not, Classical.not_not] at hq) <;> simp (disch := omega) only [Sh.out hq, go_sem, seval]))
  all_goals try exact ⟨[], FR.nil (by omega), Weak.mk (by simp (disch := omega) only [netH, arcO, go_sem, seval])⟩
  all_goals exact ⟨[(11, at')], ⟨by simp, by simp; omega, by simpa [pF] using hat⟩, Weak.mk (by simp (disch := omega) only [netH, arcO, go_sem, seval])⟩
 ·intro m hm
  refine awp_sound [6] _ _ _ _ ?_
  simp (disch := omega) only [netH, arcO, go_sem, seval]
  have hml := hm.len
  refine awp_join [1, 2, 6, 7] (fun m : List Flt => [(5, .sl 2 0 m.length m.length)]) (fun m => netH n ++ [arcO a, .elems 2 (m.map eF)])
   (fun m => FR (pF 26) ((0 ≤ a.src ∧ a.src < n.places.length ∧ 0 ≤ a.dst ∧ a.dst < n.places.length) ∧ (0 ≤ a.prof ∧ a.prof ≤ 7 ∧ 0 ≤ a.miles ∧ a.miles ≤ 10000 ∧ a.src ≠ a.dst)) 2 m) ?_ ?_
  ·simp (disch := omega) only [go_sem, seval]
   repeat' (first | (refine aguard_t (fun hq => ?_) (fun hq => ?_) <;> (try simp only [decide_eq_true_eq, decide_eq_false_iff_not, Classical.not_not] at hq) <;> simp (disch := omega) only [Sh.out hq, go_sem, seval]) | (refine aguard_f (fun hq => ?_) (fun hq => ?_) <;> (try simp only [decide_eq_true_eq, decide_eq_false_iff_not, Classical.not_not] at hq) <;> simp (disch := omega) only [Sh.out hq, go_sem, seval]) | (refine acond_b (fun hq => ?_) (fun hq => ?_) <;> (try simp only [decide_eq_true_eq, decide_eq_false_iff_not, Classical.not_not] at hq) <;> simp (disch := omega) only [Sh.out hq, go_sem, seval]))
   all_goals try exact ⟨m, hm.no (by omega), Weak.mk (by simp (disch := omega) only [netH, arcO, go_sem, seval])⟩
   all_goals exact ⟨m ++ [(2, at')], hm.yes (by omega) (by simpa [pF] using hat), Weak.mk (by simp (disch := omega) only [netH, arcO, go_sem, seval])⟩
  ·clear hm hml
   intro m hm
   refine awp_sound [14] _ _ _ _ ?_
   simp (disch := omega) only [netH, arcO, go_sem, seval]
   have hml := hm.len
   refine awp_forC [14] [1, 2, 5, 6, 7] (fun q : Nat × Bool => [(8, .p (.bool q.2)), (9, .p (.int .i64 q.1))]) (fun _ => netH n ++ [arcO a, .elems 2 (m.map eF)]) (fun q => q.1 ≤ i ∧ (q.2 = false ↔ ∀ j, j < q.1 → ¬ sameEnds a (nth n.arcs j))) (fun q => i - q.1) (0, false) (by simp) (Weak.mk ?_) ?_
   ·simp (disch := omega) only [netH, arcO, go_sem, seval]
   ·rintro ⟨k, b⟩ ⟨hk, hb⟩
    simp only at hk hb
    simp (disch := omega) only [netH, arcO, go_sem, seval]
    refine acond_b (fun h => ?_) (fun h => ?_) <;> (try simp only [decide_eq_true_eq, decide_eq_false_iff_not] at h) <;> simp (disch := omega) only [Sh.out h, go_sem, seval]
    ·have hkn : k < n.arcs.length := by omega
     cases b with
     | true =>
      simp (disch := omega) only [go_sem, seval]
      exact ⟨(k + 1, true), ⟨by simp only; omega, by rw [upto_iff, ← hb]; simp⟩, by simp only; omega, Weak.mk (by simp (disch := omega) only [netH, arcO, go_sem, seval])⟩
     | false =>
      simp (disch := omega) only [go_sem, seval]
      repeat' (first | (refine aguard_t (fun hq => ?_) (fun hq => ?_) <;> (try simp only [decide_eq_true_eq, decide_eq_false_iff_not, Classical.not_not] at hq) <;> simp (disch := omega) only [Sh.out hq, go_sem, seval]) | (refine aguard_f (fun hq => ?_) (fun hq => ?_) <;> (try simp only [decide_eq_true_eq, decide_eq_false_iff_not, Classical.not_not] at hq) <;> simp (disch := omega) only [Sh.out hq, go_sem, seval]) | (refine acond_b (fun hq => ?_) (fun hq => ?_) <;> (try simp only [decide_eq_true_eq, decide_eq_false_iff_not, Classical.not_not] at hq) <;> simp (disch := omega) only [Sh.out hq, go_sem, seval]))
      all_goals refine ⟨(k + 1, decide (sameEnds a (nth n.arcs k))), ⟨by simp only; omega, by rw [upto_iff, ← hb]; simp⟩, by simp only; omega, Weak.mk ?_⟩
      all_goals simp (disch := omega) only [netH, arcO, go_sem, seval]
      all_goals simp [sameEnds, *]
    ·have hki : k = i := by omega
     subst hki
     have htw : (b = false ↔ ∀ j, j < k → ¬ sameEnds a (nth n.arcs j)) := hb
     clear hb hk h
     refine awp_join [6, 7] (fun m : List Flt => [(5, .sl 2 0 m.length m.length)]) (fun m => netH n ++ [arcO a, .elems 2 (m.map eF)])
      (fun m => FR (pF 26) (((0 ≤ a.src ∧ a.src < n.places.length ∧ 0 ≤ a.dst ∧ a.dst < n.places.length) ∧ (0 ≤ a.prof ∧ a.prof ≤ 7 ∧ 0 ≤ a.miles ∧ a.miles ≤ 10000 ∧ a.src ≠ a.dst)) ∧ ∀ j, j < k → ¬ sameEnds a (nth n.arcs j)) 3 m) ?_ ?_
     ·simp (disch := omega) only [go_sem, seval]
      cases b with
      | true =>
       simp (disch := omega) only [go_sem, seval]
       exact ⟨m ++ [(6, at')], hm.yes (by rw [← htw]; simp) (by simpa [pF] using hat), Weak.mk (by simp (disch := omega) only [netH, arcO, go_sem, seval])⟩
      | false =>
       simp (disch := omega) only [go_sem, seval]
       exact ⟨m, hm.no (htw.1 rfl), Weak.mk (by simp (disch := omega) only [netH, arcO, go_sem, seval])⟩
     ·clear hm hml
      intro m hm
      refine awp_sound [21] _ _ _ _ ?_
      simp (disch := omega) only [netH, arcO, go_sem, seval]
      have hml := hm.len
      refine ((ck07_c a.travel a.travel_c ht).frozenE).useV fun lt hlt => ?_
      simp (disch := omega) only [go_sem, seval]
      have hltl := hlt.len
      refine awp_forC [21] [6, 7, 11] (fun q : Nat × List Flt => [(5, .sl 2 0 q.2.length q.2.length), (12, .p (.int .i64 q.1))]) (fun q => netH n ++ [arcO a, .elems 2 (q.2.map eF)])
       (fun q => q.1 ≤ lt.length ∧ FR (pF 26) ((((0 ≤ a.src ∧ a.src < n.places.length ∧ 0 ≤ a.dst ∧ a.dst < n.places.length) ∧ (0 ≤ a.prof ∧ a.prof ≤ 7 ∧ 0 ≤ a.miles ∧ a.miles ≤ 10000 ∧ a.src ≠ a.dst)) ∧ ∀ j, j < k → ¬ sameEnds a (nth n.arcs j)) ∧ q.1 = 0) (3 + q.1) q.2) (fun q => lt.length - q.1) (0, m) ⟨by simp, hm.to (by simp) (by simp)⟩ (Weak.mk ?_) ?_
      ·simp (disch := omega) only [netH, arcO, go_sem, seval]
      ·clear hm hml
       rintro ⟨j, m⟩ ⟨hj, hm⟩
       simp only at hj hm
       have hml := hm.len
       simp (disch := omega) only [netH, arcO, go_sem, seval]
       refine acond_b (fun h => ?_) (fun h => ?_) <;> (try simp only [decide_eq_true_eq, decide_eq_false_iff_not] at h) <;> simp (disch := omega) only [Sh.out h, go_sem, seval]
       ·have hj2 : j < lt.length := by omega
        exact ⟨(j + 1, m ++ [((nth lt j).1, at')]), ⟨by simp only; omega, (hm.yes (c := False) (by simp) (by simpa [pF] using hat)).to (by simp only; omega) (by simp)⟩, by simp only; omega, Weak.mk (by simp (disch := omega) only [netH, arcO, go_sem, seval])⟩
       ·have hjl : j = lt.length := by omega
        subst hjl
        have hm2 := hm.to (d := 3 + lt.length) (D := (((0 ≤ a.src ∧ a.src < n.places.length ∧ 0 ≤ a.dst ∧ a.dst < n.places.length) ∧ (0 ≤ a.prof ∧ a.prof ≤ 7 ∧ 0 ≤ a.miles ∧ a.miles ≤ 10000 ∧ a.src ≠ a.dst)) ∧ ∀ j, j < k → ¬ sameEnds a (nth n.arcs j)) ∧ ptsOk a.travel) (Nat.le_refl _) (by rw [← hlt.emp, List.eq_nil_iff_length_eq_zero])
        clear hm
        refine awp_join [6, 7] (fun m : List Flt => [(5, .sl 2 0 m.length m.length)]) (fun m => netH n ++ [arcO a, .elems 2 (m.map eF)])
         (fun m => FR (pF 26) (((((0 ≤ a.src ∧ a.src < n.places.length ∧ 0 ≤ a.dst ∧ a.dst < n.places.length) ∧ (0 ≤ a.prof ∧ a.prof ≤ 7 ∧ 0 ≤ a.miles ∧ a.miles ≤ 10000 ∧ a.src ≠ a.dst)) ∧ ∀ j, j < k → ¬ sameEnds a (nth n.arcs j)) ∧ ptsOk a.travel) ∧ a.slow.length ≤ 16) (4 + lt.length) m) ?_ ?_
        ·simp (disch := omega) only [go_sem, seval]
         refine acond_b (fun h2 => ?_) (fun h2 => ?_) <;> (try simp only [decide_eq_true_eq, decide_eq_false_iff_not] at h2) <;> simp (disch := omega) only [Sh.out h2, go_sem, seval]
         ·exact ⟨m ++ [(4, at')], (hm2.yes (by omega) (by simpa [pF] using hat)).to (by omega) Iff.rfl, Weak.mk (by simp (disch := omega) only [netH, arcO, go_sem, seval])⟩
         ·exact ⟨m, (hm2.no (by omega)).to (by omega) Iff.rfl, Weak.mk (by simp (disch := omega) only [netH, arcO, go_sem, seval])⟩
        ·clear hm2 hml h hj
         intro m hm
         refine awp_sound [] _ _ _ _ ?_
         simp (disch := omega) only [netH, arcO, go_sem, seval]
         refine awp_for [6, 7] (fun q : Nat × List Flt => [(5, .sl 2 0 q.2.length q.2.length), (13, .p (.int .i64 q.1))]) (fun q => netH n ++ [arcO a, .elems 2 (q.2.map eF)])
          (fun q => q.1 ≤ a.slow.length ∧ FR (pF 26) ((((((0 ≤ a.src ∧ a.src < n.places.length ∧ 0 ≤ a.dst ∧ a.dst < n.places.length) ∧ (0 ≤ a.prof ∧ a.prof ≤ 7 ∧ 0 ≤ a.miles ∧ a.miles ≤ 10000 ∧ a.src ≠ a.dst)) ∧ ∀ j, j < k → ¬ sameEnds a (nth n.arcs j)) ∧ ptsOk a.travel) ∧ a.slow.length ≤ 16) ∧ ∀ j, j < q.1 → slowOk a.slow j) (4 + lt.length + q.1) q.2) (fun q => a.slow.length - q.1) (0, m) ⟨by simp, hm.to (by simp) (by simp)⟩ (Weak.mk ?_) ?_
         ·simp (disch := omega) only [netH, arcO, go_sem, seval]
         ·clear hm
          rintro ⟨j, m⟩ ⟨hj, hm⟩
          simp only at hj hm
          have hml := hm.len
          simp (disch := omega) only [netH, arcO, go_sem, seval]
          refine acond_b (fun h => ?_) (fun h => ?_) <;> (try simp only [decide_eq_true_eq, decide_eq_false_iff_not] at h) <;> simp (disch := omega) only [Sh.out h, go_sem, seval]
          ·have hj2 : j < a.slow.length := by omega
           refine awp_drawnA mixed (by kernel_rfl) (by kernel_rfl) ?_
           simp (disch := omega) only [go_sem, seval]
           refine exq_call (tick09_c (nth a.slow j).t) ?_
           simp (disch := omega) only [go_sem, seval]
           have hslo : slowOk a.slow j ↔ (tick (nth a.slow j).t = true ∧ tick (nth a.slow j).a = true ∧ (0 < j → (nth a.slow (j - 1)).t < (nth a.slow j).t)) := Iff.rfl
           have hyes : ¬ slowOk a.slow j → _ := fun hs => (hm.yes (x := (2, at')) hs (by simpa [pF] using hat)).to (D := (((((0 ≤ a.src ∧ a.src < n.places.length ∧ 0 ≤ a.dst ∧ a.dst < n.places.length) ∧ (0 ≤ a.prof ∧ a.prof ≤ 7 ∧ 0 ≤ a.miles ∧ a.miles ≤ 10000 ∧ a.src ≠ a.dst)) ∧ ∀ j, j < k → ¬ sameEnds a (nth n.arcs j)) ∧ ptsOk a.travel) ∧ a.slow.length ≤ 16) ∧ ∀ i, i < j + 1 → slowOk a.slow i) (d := 4 + lt.length + (j + 1)) (by omega) (by simp only [upto_iff, and_assoc])
           have hno : slowOk a.slow j → _ := fun hs => (hm.no hs).to (D := (((((0 ≤ a.src ∧ a.src < n.places.length ∧ 0 ≤ a.dst ∧ a.dst < n.places.length) ∧ (0 ≤ a.prof ∧ a.prof ≤ 7 ∧ 0 ≤ a.miles ∧ a.miles ≤ 10000 ∧ a.src ≠ a.dst)) ∧ ∀ j, j < k → ¬ sameEnds a (nth n.arcs j)) ∧ ptsOk a.travel) ∧ a.slow.length ≤ 16) ∧ ∀ i, i < j + 1 → slowOk a.slow i) (d := 4 + lt.length + (j + 1)) (by omega) (by simp only [upto_iff, and_assoc])
           cases ht1 : tick (nth a.slow j).t with
           | false =>
            simp (disch := omega) only [go_sem, seval]
            exact ⟨(j + 1, m ++ [(2, at')]), ⟨by simp only; omega, hyes (by rw [hslo, ht1]; simp)⟩, by simp only; omega, Weak.mk (by simp (disch := omega) only [netH, arcO, go_sem, seval])⟩
           | true =>
            simp (disch := omega) only [go_sem, seval]
            refine exq_call (tick09_c (nth a.slow j).a) ?_
            simp (disch := omega) only [go_sem, seval]
            cases ht2 : tick (nth a.slow j).a with
            | false =>
             simp (disch := omega) only [go_sem, seval]
             exact ⟨(j + 1, m ++ [(2, at')]), ⟨by simp only; omega, hyes (by rw [hslo, ht2]; simp)⟩, by simp only; omega, Weak.mk (by simp (disch := omega) only [netH, arcO, go_sem, seval])⟩
            | true =>
             simp (disch := omega) only [go_sem, seval]
             repeat' (first | (refine aguard_t (fun hq => ?_) (fun hq => ?_) <;> (try simp only [decide_eq_true_eq, decide_eq_false_iff_not, Classical.not_not] at hq) <;> simp (disch := omega) only [Sh.out hq, go_sem, seval]) | (refine aguard_f (fun hq => ?_) (fun hq => ?_) <;> (try simp only [decide_eq_true_eq, decide_eq_false_iff_not, Classical.not_not] at hq) <;> simp (disch := omega) only [Sh.out hq, go_sem, seval]) | (refine acond_b (fun hq => ?_) (fun hq => ?_) <;> (try simp only [decide_eq_true_eq, decide_eq_false_iff_not, Classical.not_not] at hq) <;> simp (disch := omega) only [Sh.out hq, go_sem, seval]))
             ·exact ⟨(j + 1, m ++ [(2, at')]), ⟨by simp only; omega, hyes (by rw [hslo]; omega)⟩, by simp only; omega, Weak.mk (by simp (disch := omega) only [netH, arcO, go_sem, seval])⟩
             ·exact ⟨(j + 1, m), ⟨by simp only; omega, hno (by rw [hslo]; exact ⟨ht1, ht2, by omega⟩)⟩, by simp only; omega, Weak.mk (by simp (disch := omega) only [netH, arcO, go_sem, seval])⟩
             ·exact ⟨(j + 1, m), ⟨by simp only; omega, hno (by rw [hslo]; exact ⟨ht1, ht2, by omega⟩)⟩, by simp only; omega, Weak.mk (by simp (disch := omega) only [netH, arcO, go_sem, seval])⟩
          ·have hjn : j = a.slow.length := by omega
           subst hjn
           exact ⟨m, hm.to (by omega) (by rw [arcOk, hga]), 2, by simp (disch := omega) only [netH, arcO, go_sem, seval]⟩
end Go.Proofs.YtcdoglogglbemaaGreatDoor.K
set_option linter.unusedVariables false
set_option linter.unusedSimpArgs false
namespace Go.Proofs.YtcdoglogglbemaaGreatDoor.K
open Go Go.AM Go.Proofs
set_option maxRecDepth 8000
set_option maxHeartbeats 8000000
theorem nth_mem {α : Type} [Inhabited α] {l : List α} {i : Nat} (h : i < l.length) : nth l i ∈ l := by rw [nth_get h]; exact List.getElem_mem _
theorem ck09_c (n : Net) (hw : n.wf 1048576) : ACalls Tryz.prog 96 [.p (eNet n)] [] fun x H' => ∃ m : List Flt, FR (pF 26) (netOk n) 4194306000000 m ∧ x = .sl 0 0 m.length m.length ∧ H' = [.elems 2 (m.map eF)] := by
 obtain ⟨w1, w2, w3, w4⟩ := hw
 refine acalls_freshE [2] (fn := Tryz.f96) Tryz.func96 rfl isF96 ?_
 simp (disch := omega) only [Tryz.f96, go_sem, seval]
 refine (ckPlaces_c n w1 w2).useE fun m hm => ?_
 simp (disch := omega) only [go_sem, seval]
 have hml := hm.len
 refine awp_join [1] (fun m : List Flt => [(3, .sl 1 0 m.length m.length)]) (fun m => netH n ++ [.elems 2 (m.map eF)]) (fun m => FR (pF 26) (placesOk n ∧ n.arcs.length ≤ 1024) (n.places.length + 2) m) ?_ ?_
 ·simp (disch := omega) only [go_sem, seval]
  refine acond_b (fun h => ?_) (fun h => ?_) <;> (try simp only [decide_eq_true_eq, decide_eq_false_iff_not] at h) <;> simp (disch := omega) only [Sh.out h, go_sem, seval]
  ·exact ⟨m ++ [(4, [97, 114, 99, 115])], hm.yes (by omega) (by simp [pF]), Weak.mk (by simp (disch := omega) only [netH, go_sem, seval])⟩
  ·exact ⟨m, hm.no (by omega), Weak.mk (by simp (disch := omega) only [netH, go_sem, seval])⟩
 ·clear hm hml
  intro m hm
  refine awp_sound [] _ _ _ _ ?_
  simp (disch := omega) only [netH, go_sem, seval]
  refine awp_for [1] (fun q : Nat × List Flt => [(3, .sl 1 0 q.2.length q.2.length), (4, .p (.int .i64 q.1))]) (fun q => netH n ++ [.elems 2 (q.2.map eF)]) (fun q => q.1 ≤ n.arcs.length ∧ FR (pF 26) ((placesOk n ∧ n.arcs.length ≤ 1024) ∧ ∀ j, j < q.1 → arcOk n j) (n.places.length + 2 + q.1 * 4000000) q.2) (fun q => n.arcs.length - q.1) (0, m) ⟨by simp, hm.to (by simp) (by simp)⟩ (Weak.mk ?_) ?_
  ·simp (disch := omega) only [netH, go_sem, seval]
  ·clear hm
   rintro ⟨k, m⟩ ⟨hk, hm⟩
   simp only at hk hm
   have hml := hm.len
   simp (disch := omega) only [netH, go_sem, seval]
   refine acond_b (fun h => ?_) (fun h => ?_) <;> (try simp only [decide_eq_true_eq, decide_eq_false_iff_not] at h) <;> simp (disch := omega) only [Sh.out h, go_sem, seval]
   ·have hk2 : k < n.arcs.length := by omega
    have ha := w4 _ (nth_mem hk2)
    refine (ckArc_c n k hk2 w1 w3 ha.2.2.2.2.1 ha.2.2.2.2.2.2.1).useE fun f hf => ?_
    simp (disch := omega) only [go_sem, seval]
    have hfl := hf.len
    have q1 : (m.length + f.length) * 24 ≤ 140737488355328 := by omega
    have q2 : m.length + f.length ≤ 140737488355328 := by omega
    simp (disch := omega) only [q1, q2, go_sem, seval]
    refine ⟨(k + 1, m ++ f), ⟨by simp only; omega, (hm.app hf).to (by simp only; omega) (by simp only [upto_iff, and_assoc])⟩, by simp only; omega, Weak.mk ?_⟩
    simp (disch := omega) only [netH, List.length_append, List.map_append, go_sem, seval]
   ·have hkn : k = n.arcs.length := by omega
    subst hkn
    exact ⟨m, hm.to (by omega) (by rw [netOk]), 1, by simp (disch := omega) only [netH, go_sem, seval]⟩
end Go.Proofs.YtcdoglogglbemaaGreatDoor.K
set_option linter.unusedVariables false
set_option linter.unusedSimpArgs false
namespace Go.Proofs.YtcdoglogglbemaaGreatDoor.K
open Go Go.AM Go.Proofs
set_option maxRecDepth 8000
set_option maxHeartbeats 16000000
theorem in10_c (n lo hi : Int) : ACalls Tryz.prog 145 [.p (.int .i64 n), .p (.int .i64 lo), .p (.int .i64 hi)] [] fun x H' => x = .p (.bool (rng n lo hi)) ∧ H' = [] := by
 refine acalls_pure (fn := Tryz.f145) Tryz.func145 rfl isF145 ?_
 simp (disch := omega) only [Tryz.f145, go_sem, seval]
 refine aguard_t (fun h => ?_) (fun h => ?_) <;> (try simp only [decide_eq_true_eq, decide_eq_false_iff_not] at h) <;> simp (disch := omega) only [Sh.out h, go_sem, seval]
 all_goals (simp [rng]; first | done | omega | (rw [Bool.eq_iff_iff]; simp; omega))
def capOk (l : List Int) (d : Int) : Bool := rng l.length 1 3 && decide ((l.length : Int) = d) && l.all fun n => rng n 0 1000
theorem capacity_c (l : List Int) (c : Bool) (d : Int) (hl : l.length ≤ 1048576) : ACalls Tryz.prog 206 [.p (.list c (l.map eI)), .p (.int .i64 d)] [] fun x H' => x = .p (.bool (capOk l d)) ∧ H' = [] := by
 refine acalls_pure (fn := Tryz.f206) Tryz.func206 rfl isF206 ?_
 simp (disch := omega) only [Tryz.f206, go_sem, seval]
 refine (in10_c l.length 1 3).use ?_
 simp (disch := omega) only [go_sem, seval]
 refine aguard_f (fun h => ?_) (fun h => ?_) <;> (try simp only [decide_eq_true_eq, decide_eq_false_iff_not] at h) <;> simp (disch := omega) only [Sh.out h, go_sem, seval]
 ·simp only [Bool.not_eq_true'] at h
  simp [capOk, h]
 ·simp only [Bool.not_eq_false'] at h
  refine acond_b (fun h2 => ?_) (fun h2 => ?_) <;> (try simp only [decide_eq_true_eq, decide_eq_false_iff_not] at h2) <;> simp (disch := omega) only [Sh.out h2, go_sem, seval]
  ·simp [capOk, h, h2]
  ·simp only [Classical.not_not] at h2
   subst h2
   refine awp_for [0] (fun k : Nat => [(5, .p (.int .i64 k))]) (fun _ => []) (fun k => k ≤ l.length ∧ ∀ j, j < k → rng (nth l j) 0 1000 = true) (fun k => l.length - k) 0 (by simp) (Weak.mk ?_) ?_
   ·simp (disch := omega) only [go_sem, seval]
   ·rintro k ⟨hk, hno⟩
    simp (disch := omega) only [go_sem, seval]
    refine acond_b (fun h3 => ?_) (fun h3 => ?_) <;> (try simp only [decide_eq_true_eq, decide_eq_false_iff_not] at h3) <;> simp (disch := omega) only [Sh.out h3, go_sem, seval]
    ·have hk2 : k < l.length := by omega
     refine (in10_c (nth l k) 0 1000).use ?_
     simp (disch := omega) only [go_sem, seval]
     refine acond_b (fun h4 => ?_) (fun h4 => ?_) <;> (try simp only [decide_eq_true_eq, decide_eq_false_iff_not] at h4) <;> simp (disch := omega) only [Sh.out h4, go_sem, seval]
     ·simp only [Bool.not_eq_true'] at h4
      have : l.all (fun n => rng n 0 1000) = false := by
       rw [List.all_eq_false]; exact ⟨nth l k, nth_mem hk2, by rw [h4]; simp⟩
      simp [capOk, this]
     ·simp only [Bool.not_eq_false'] at h4
      exact ⟨k + 1, ⟨by omega, upto_iff.2 ⟨hno, h4⟩⟩, by omega, Weak.mk (by simp (disch := omega) only [go_sem, seval])⟩
    ·have : l.all (fun n => rng n 0 1000) = true := by
      rw [List.all_eq_true]
      intro x hx
      obtain ⟨j, hj, rfl⟩ := List.mem_iff_getElem.1 hx
      rw [← nth_get hj]; exact hno j (by omega)
     simp [capOk, h, this]
def knownT (l : List Typ) (i : Nat) (s : List UInt8) : Bool := (List.range i).any fun j => decide ((nth l j).name = s)
theorem knownT_false {l : List Typ} {i : Nat} {s : List UInt8} : knownT l i s = false ↔ ∀ j, j < i → (nth l j).name ≠ s := by
 simp [knownT, List.any_eq_false]
theorem known10_c (l : List Typ) (c : Bool) (i : Nat) (s : List UInt8) (hi : i ≤ l.length) (hl : l.length ≤ 1048576) : ACalls Tryz.prog 205 [.p (.list c (l.map eTyp)), .p (.int .i64 (i : Nat)), .p (.str s)] [] fun x H' => x = .p (.bool (knownT l i s)) ∧ H' = [] := by
 refine acalls_pure (fn := Tryz.f205) Tryz.func205 rfl isF205 ?_
 simp (disch := omega) only [Tryz.f205, go_sem, seval]
 refine awp_for [0, 1, 2] (fun k : Nat => [(7, .p (.int .i64 k))]) (fun _ => []) (fun k => k ≤ i ∧ ∀ j, j < k → (nth l j).name ≠ s) (fun k => i - k) 0 (by simp) (Weak.mk ?_) ?_
 ·simp (disch := omega) only [go_sem, seval]
 ·rintro k ⟨hk, hno⟩
  simp (disch := omega) only [go_sem, seval]
  refine acond_b (fun h3 => ?_) (fun h3 => ?_) <;> (try simp only [decide_eq_true_eq, decide_eq_false_iff_not] at h3) <;> simp (disch := omega) only [Sh.out h3, go_sem, seval]
  ·have hk2 : k < l.length := by omega
   refine acond_b (fun h4 => ?_) (fun h4 => ?_) <;> (try simp only [decide_eq_true_eq, decide_eq_false_iff_not] at h4) <;> simp (disch := omega) only [Sh.out h4, go_sem, seval]
   ·have : knownT l i s = true := by
     cases hq : knownT l i s with
     | true => rfl
     | false => exact absurd h4 (knownT_false.1 hq k (by omega))
    rw [this]
   ·exact ⟨k + 1, ⟨by omega, upto_iff.2 ⟨hno, h4⟩⟩, by omega, Weak.mk (by simp (disch := omega) only [go_sem, seval])⟩
  ·have : k = i := by omega
   subst this
   rw [knownT_false.2 hno]
def dimsOf (l : List Typ) : Int := if l.length = 0 then 0 else ((nth l 0).cap.length : Int)
theorem dims10_c (l : List Typ) (c : Bool) (hl : l.length ≤ 1048576) : ACalls Tryz.prog 99 [.p (.list c (l.map eTyp))] [] fun x H' => x = .p (.int .i64 (dimsOf l)) ∧ H' = [] := by
 refine acalls_pure (fn := Tryz.f99) Tryz.func99 rfl isF99 ?_
 simp (disch := omega) only [Tryz.f99, go_sem, seval]
 refine acond_b (fun h => ?_) (fun h => ?_) <;> (try simp only [decide_eq_true_eq, decide_eq_false_iff_not] at h) <;> simp (disch := omega) only [Sh.out h, go_sem, seval]
 ·have : l.length = 0 := by omega
  simp [dimsOf, this]
 ·have h0 : 0 < l.length := by omega
  have h1 : l.length ≠ 0 := by omega
  simp (disch := first | omega | (simp only [List.length_cons, List.length_nil, List.length_append, List.length_map, List.length_take, List.length_drop] <;> omega)) only [dimsOf, h1, go_sem, seval]
def typO (t : Typ) : AM.Obj := .cells [.p (.str t.name), .p (.int .i64 t.count), .p (.int .i64 t.src), .p (.int .i64 t.dst), .p (.list t.cap_c (t.cap.map eI)), .p (.int .i64 t.skills), .p (.int .i64 t.prof), .p (.int .i64 t.opn), .p (.int .i64 t.cls), .p (.int .i64 t.drive), .p (.int .i64 t.rest), .p (.int .i64 t.fixed), .p (.int .i64 t.perMile), .p (.int .i64 t.perTick)]
def typOk (n : Net) (l : List Typ) (i : Nat) : Prop := ((((((((nameOk (nth l i).name = true) ∧ (∀ j, j < i → (nth l j).name ≠ (nth l i).name)) ∧ rng (nth l i).count 0 10 = true) ∧ (rng (nth l i).src 0 (n.places.length - 1) = true ∧ rng (nth l i).dst 0 (n.places.length - 1) = true)) ∧ capOk (nth l i).cap (dimsOf l) = true) ∧ rng (nth l i).skills 0 1073741823 = true) ∧ (rng (nth l i).opn 0 (nth l i).cls = true ∧ (nth l i).cls ≤ 4096)) ∧ (rng (nth l i).drive 1 4096 = true ∧ rng (nth l i).rest 0 4096 = true)) ∧ (rng (nth l i).prof 0 7 = true ∧ rng (nth l i).fixed 0 100000 = true ∧ rng (nth l i).perMile 0 100 = true ∧ rng (nth l i).perTick 0 100 = true)
theorem rules10_c (n : Net) (l : List Typ) (c : Bool) (i : Nat) (hi : i < l.length) (hl : l.length ≤ 1048576) (hw : n.wf 1048576) (ht : (nth l i).wf 1048576) :
  ACalls Tryz.prog 146 [.p (eNet n), .p (.list c (l.map eTyp)), .p (.int .i64 (i : Nat))] [] fun x H' => ∃ m : List Int, FR (fun _ => True) (typOk n l i) 9 m ∧ x = .sl 0 0 m.length m.length ∧ H' = [.elems 1 (m.map eI)] := by
 obtain ⟨w1, w2, w3, w4⟩ := hw
 refine acalls_freshE [3] (fn := Tryz.f146) Tryz.func146 rfl isF146 ?_
 simp (disch := omega) only [Tryz.f146, go_sem, seval]
 have hty : typOk n l i ↔ ((((((((nameOk (nth l i).name = true) ∧ (∀ j, j < i → (nth l j).name ≠ (nth l i).name)) ∧ rng (nth l i).count 0 10 = true) ∧ (rng (nth l i).src 0 (n.places.length - 1) = true ∧ rng (nth l i).dst 0 (n.places.length - 1) = true)) ∧ capOk (nth l i).cap (dimsOf l) = true) ∧ rng (nth l i).skills 0 1073741823 = true) ∧ (rng (nth l i).opn 0 (nth l i).cls = true ∧ (nth l i).cls ≤ 4096)) ∧ (rng (nth l i).drive 1 4096 = true ∧ rng (nth l i).rest 0 4096 = true)) ∧ (rng (nth l i).prof 0 7 = true ∧ rng (nth l i).fixed 0 100000 = true ∧ rng (nth l i).perMile 0 100 = true ∧ rng (nth l i).perTick 0 100 = true) := Iff.rfl
 generalize hga : nth l i = t at ht hty ⊢
 have hname := ht.1
 have hcap := ht.2.2.2.2.1
 refine awp_weak (Weak.ofNil 8 1 (by simp (disch := omega) only [go_sem, seval]) (by simp) (Weak.refl _ _ _)) ?_
 refine awp_join [1, 2, 3, 7] (fun m : List Int => [(8, .sl 2 0 m.length m.length)]) (fun m => netH n ++ [typO t, .elems 1 (m.map eI)]) (fun m => FR (fun _ => True) (nameOk t.name = true) 1 m) ?_ ?_
 ·simp (disch := omega) only [go_sem, seval]
  refine (name_c t.name hname).use ?_
  simp (disch := omega) only [go_sem, seval]
  refine acond_b (fun h0 => ?_) (fun h0 => ?_) <;> (try simp only [decide_eq_true_eq, decide_eq_false_iff_not] at h0) <;> simp (disch := omega) only [Sh.out h0, go_sem, seval]
  ·simp only [Bool.not_eq_true'] at h0
   exact ⟨[5], ⟨by simp, by simp [h0], by simp⟩, Weak.mk (by simp (disch := omega) only [netH, typO, go_sem, seval])⟩
  ·simp only [Bool.not_eq_false'] at h0
   exact ⟨[], FR.nil (by simp [h0]), Weak.mk (by simp (disch := omega) only [netH, typO, go_sem, seval])⟩
 ·skip
  intro m hm
  refine awp_sound [5] _ _ _ _ ?_
  simp (disch := omega) only [netH, typO, go_sem, seval]
  have hml := hm.len
  refine awp_join [1, 3, 7] (fun m : List Int => [(8, .sl 2 0 m.length m.length)]) (fun m => netH n ++ [typO t, .elems 1 (m.map eI)]) (fun m => FR (fun _ => True) ((nameOk t.name = true) ∧ (∀ j, j < i → (nth l j).name ≠ t.name)) 2 m) ?_ ?_
  ·simp (disch := omega) only [go_sem, seval]
   refine (known10_c l c i t.name (by omega) hl).use ?_
   simp (disch := omega) only [go_sem, seval]
   refine acond_b (fun h => ?_) (fun h => ?_) <;> (try simp only [decide_eq_true_eq, decide_eq_false_iff_not] at h) <;> simp (disch := omega) only [Sh.out h, go_sem, seval]
   ·exact ⟨m ++ [6], hm.yes (by rw [← knownT_false, h]; simp) trivial, Weak.mk (by simp (disch := omega) only [netH, typO, go_sem, seval])⟩
   ·exact ⟨m, hm.no (by exact knownT_false.1 h), Weak.mk (by simp (disch := omega) only [netH, typO, go_sem, seval])⟩
  ·clear hm hml
   intro m hm
   refine awp_sound [7] _ _ _ _ ?_
   simp (disch := omega) only [netH, typO, go_sem, seval]
   have hml := hm.len
   refine awp_join [1, 3, 7] (fun m : List Int => [(8, .sl 2 0 m.length m.length)]) (fun m => netH n ++ [typO t, .elems 1 (m.map eI)]) (fun m => FR (fun _ => True) (((nameOk t.name = true) ∧ (∀ j, j < i → (nth l j).name ≠ t.name)) ∧ rng t.count 0 10 = true) 3 m) ?_ ?_
   ·simp (disch := omega) only [go_sem, seval]
    refine (in10_c t.count 0 10).use ?_
    simp (disch := omega) only [go_sem, seval]
    refine acond_b (fun h0 => ?_) (fun h0 => ?_) <;> (try simp only [decide_eq_true_eq, decide_eq_false_iff_not] at h0) <;> simp (disch := omega) only [Sh.out h0, go_sem, seval]
    ·simp only [Bool.not_eq_true'] at h0
     exact ⟨m ++ [22], hm.yes (by simp [h0]) trivial, Weak.mk (by simp (disch := omega) only [netH, typO, go_sem, seval])⟩
    ·simp only [Bool.not_eq_false'] at h0
     exact ⟨m, hm.no (by simp [h0]), Weak.mk (by simp (disch := omega) only [netH, typO, go_sem, seval])⟩
   ·clear hm hml
    intro m hm
    refine awp_sound [9] _ _ _ _ ?_
    simp (disch := omega) only [netH, typO, go_sem, seval]
    have hml := hm.len
    refine awp_join [1, 7] (fun m : List Int => [(8, .sl 2 0 m.length m.length)]) (fun m => netH n ++ [typO t, .elems 1 (m.map eI)]) (fun m => FR (fun _ => True) ((((nameOk t.name = true) ∧ (∀ j, j < i → (nth l j).name ≠ t.name)) ∧ rng t.count 0 10 = true) ∧ (rng t.src 0 (n.places.length - 1) = true ∧ rng t.dst 0 (n.places.length - 1) = true)) 4 m) ?_ ?_
    ·simp (disch := omega) only [go_sem, seval]
     refine (in10_c t.src 0 (n.places.length - 1)).use ?_
     simp (disch := omega) only [go_sem, seval]
     refine aguard_f (fun h0 => ?_) (fun h0 => ?_) <;> (try simp only [decide_eq_true_eq, decide_eq_false_iff_not] at h0) <;> simp (disch := omega) only [Sh.out h0, go_sem, seval]
     ·simp only [Bool.not_eq_true'] at h0
      exact ⟨m ++ [11], hm.yes (by simp [h0]) trivial, Weak.mk (by simp (disch := omega) only [netH, typO, go_sem, seval])⟩
     ·simp only [Bool.not_eq_false'] at h0
      refine (in10_c t.dst 0 (n.places.length - 1)).use ?_
      simp (disch := omega) only [go_sem, seval]
      refine acond_b (fun h1 => ?_) (fun h1 => ?_) <;> (try simp only [decide_eq_true_eq, decide_eq_false_iff_not] at h1) <;> simp (disch := omega) only [Sh.out h1, go_sem, seval]
      ·simp only [Bool.not_eq_true'] at h1
       exact ⟨m ++ [11], hm.yes (by simp [h1]) trivial, Weak.mk (by simp (disch := omega) only [netH, typO, go_sem, seval])⟩
      ·simp only [Bool.not_eq_false'] at h1
       exact ⟨m, hm.no (by simp [h0, h1]), Weak.mk (by simp (disch := omega) only [netH, typO, go_sem, seval])⟩
    ·clear hm hml
     intro m hm
     refine awp_sound [11] _ _ _ _ ?_
     simp (disch := omega) only [netH, typO, go_sem, seval]
     have hml := hm.len
     refine awp_join [7] (fun m : List Int => [(8, .sl 2 0 m.length m.length)]) (fun m => netH n ++ [typO t, .elems 1 (m.map eI)]) (fun m => FR (fun _ => True) (((((nameOk t.name = true) ∧ (∀ j, j < i → (nth l j).name ≠ t.name)) ∧ rng t.count 0 10 = true) ∧ (rng t.src 0 (n.places.length - 1) = true ∧ rng t.dst 0 (n.places.length - 1) = true)) ∧ capOk t.cap (dimsOf l) = true) 5 m) ?_ ?_
     ·simp (disch := omega) only [go_sem, seval]
      refine awp_drawnA mixed (by kernel_rfl) (by kernel_rfl) ?_
      simp (disch := omega) only [go_sem, seval]
      refine exq_call (dims10_c l c hl) ?_
      simp (disch := omega) only [go_sem, seval]
      refine exq_call (capacity_c t.cap t.cap_c (dimsOf l) hcap) ?_
      simp (disch := omega) only [go_sem, seval]
      refine acond_b (fun h => ?_) (fun h => ?_) <;> (try simp only [decide_eq_true_eq, decide_eq_false_iff_not] at h) <;> simp (disch := omega) only [Sh.out h, go_sem, seval]
      ·simp only [Bool.not_eq_true'] at h
       exact ⟨m ++ [17], hm.yes (by simp [h]) trivial, Weak.mk (by simp (disch := omega) only [netH, typO, go_sem, seval])⟩
      ·simp only [Bool.not_eq_false'] at h
       exact ⟨m, hm.no (by simp [h]), Weak.mk (by simp (disch := omega) only [netH, typO, go_sem, seval])⟩
     ·clear hm hml
      intro m hm
      refine awp_sound [13] _ _ _ _ ?_
      simp (disch := omega) only [netH, typO, go_sem, seval]
      have hml := hm.len
      refine awp_join [7] (fun m : List Int => [(8, .sl 2 0 m.length m.length)]) (fun m => netH n ++ [typO t, .elems 1 (m.map eI)]) (fun m => FR (fun _ => True) ((((((nameOk t.name = true) ∧ (∀ j, j < i → (nth l j).name ≠ t.name)) ∧ rng t.count 0 10 = true) ∧ (rng t.src 0 (n.places.length - 1) = true ∧ rng t.dst 0 (n.places.length - 1) = true)) ∧ capOk t.cap (dimsOf l) = true) ∧ rng t.skills 0 1073741823 = true) 6 m) ?_ ?_
      ·simp (disch := omega) only [go_sem, seval]
       refine (in10_c t.skills 0 1073741823).use ?_
       simp (disch := omega) only [go_sem, seval]
       refine acond_b (fun h0 => ?_) (fun h0 => ?_) <;> (try simp only [decide_eq_true_eq, decide_eq_false_iff_not] at h0) <;> simp (disch := omega) only [Sh.out h0, go_sem, seval]
       ·simp only [Bool.not_eq_true'] at h0
        exact ⟨m ++ [18], hm.yes (by simp [h0]) trivial, Weak.mk (by simp (disch := omega) only [netH, typO, go_sem, seval])⟩
       ·simp only [Bool.not_eq_false'] at h0
        exact ⟨m, hm.no (by simp [h0]), Weak.mk (by simp (disch := omega) only [netH, typO, go_sem, seval])⟩
      ·clear hm hml
       intro m hm
       refine awp_sound [15] _ _ _ _ ?_
       simp (disch := omega) only [netH, typO, go_sem, seval]
       have hml := hm.len
       refine awp_join [7] (fun m : List Int => [(8, .sl 2 0 m.length m.length)]) (fun m => netH n ++ [typO t, .elems 1 (m.map eI)]) (fun m => FR (fun _ => True) (((((((nameOk t.name = true) ∧ (∀ j, j < i → (nth l j).name ≠ t.name)) ∧ rng t.count 0 10 = true) ∧ (rng t.src 0 (n.places.length - 1) = true ∧ rng t.dst 0 (n.places.length - 1) = true)) ∧ capOk t.cap (dimsOf l) = true) ∧ rng t.skills 0 1073741823 = true) ∧ (rng t.opn 0 t.cls = true ∧ t.cls ≤ 4096)) 7 m) ?_ ?_
       ·simp (disch := omega) only [go_sem, seval]
        refine (in10_c t.opn 0 t.cls).use ?_
        simp (disch := omega) only [go_sem, seval]
        refine aguard_f (fun h0 => ?_) (fun h0 => ?_) <;> (try simp only [decide_eq_true_eq, decide_eq_false_iff_not] at h0) <;> simp (disch := omega) only [Sh.out h0, go_sem, seval]
        ·simp only [Bool.not_eq_true'] at h0
         exact ⟨m ++ [15], hm.yes (by simp [h0]) trivial, Weak.mk (by simp (disch := omega) only [netH, typO, go_sem, seval])⟩
        ·simp only [Bool.not_eq_false'] at h0
         refine acond_b (fun h1 => ?_) (fun h1 => ?_) <;> (try simp only [decide_eq_true_eq, decide_eq_false_iff_not] at h1) <;> simp (disch := omega) only [Sh.out h1, go_sem, seval]
         ·exact ⟨m ++ [15], hm.yes (by omega) trivial, Weak.mk (by simp (disch := omega) only [netH, typO, go_sem, seval])⟩
         ·exact ⟨m, hm.no (by exact ⟨h0, by omega⟩), Weak.mk (by simp (disch := omega) only [netH, typO, go_sem, seval])⟩
       ·clear hm hml
        intro m hm
        refine awp_sound [17] _ _ _ _ ?_
        simp (disch := omega) only [netH, typO, go_sem, seval]
        have hml := hm.len
        refine awp_join [7] (fun m : List Int => [(8, .sl 2 0 m.length m.length)]) (fun m => netH n ++ [typO t, .elems 1 (m.map eI)]) (fun m => FR (fun _ => True) ((((((((nameOk t.name = true) ∧ (∀ j, j < i → (nth l j).name ≠ t.name)) ∧ rng t.count 0 10 = true) ∧ (rng t.src 0 (n.places.length - 1) = true ∧ rng t.dst 0 (n.places.length - 1) = true)) ∧ capOk t.cap (dimsOf l) = true) ∧ rng t.skills 0 1073741823 = true) ∧ (rng t.opn 0 t.cls = true ∧ t.cls ≤ 4096)) ∧ (rng t.drive 1 4096 = true ∧ rng t.rest 0 4096 = true)) 8 m) ?_ ?_
        ·simp (disch := omega) only [go_sem, seval]
         refine (in10_c t.drive 1 4096).use ?_
         simp (disch := omega) only [go_sem, seval]
         refine aguard_f (fun h0 => ?_) (fun h0 => ?_) <;> (try simp only [decide_eq_true_eq, decide_eq_false_iff_not] at h0) <;> simp (disch := omega) only [Sh.out h0, go_sem, seval]
         ·simp only [Bool.not_eq_true'] at h0
          exact ⟨m ++ [16], hm.yes (by simp [h0]) trivial, Weak.mk (by simp (disch := omega) only [netH, typO, go_sem, seval])⟩
         ·simp only [Bool.not_eq_false'] at h0
          refine (in10_c t.rest 0 4096).use ?_
          simp (disch := omega) only [go_sem, seval]
          refine acond_b (fun h1 => ?_) (fun h1 => ?_) <;> (try simp only [decide_eq_true_eq, decide_eq_false_iff_not] at h1) <;> simp (disch := omega) only [Sh.out h1, go_sem, seval]
          ·simp only [Bool.not_eq_true'] at h1
           exact ⟨m ++ [16], hm.yes (by simp [h1]) trivial, Weak.mk (by simp (disch := omega) only [netH, typO, go_sem, seval])⟩
          ·simp only [Bool.not_eq_false'] at h1
           exact ⟨m, hm.no (by simp [h0, h1]), Weak.mk (by simp (disch := omega) only [netH, typO, go_sem, seval])⟩
        ·clear hm hml
         intro m hm
         refine awp_sound [19] _ _ _ _ ?_
         simp (disch := omega) only [netH, typO, go_sem, seval]
         have hml := hm.len
         refine awp_join [] (fun m : List Int => [(8, .sl 2 0 m.length m.length)]) (fun m => netH n ++ [typO t, .elems 1 (m.map eI)]) (fun m => FR (fun _ => True) (((((((((nameOk t.name = true) ∧ (∀ j, j < i → (nth l j).name ≠ t.name)) ∧ rng t.count 0 10 = true) ∧ (rng t.src 0 (n.places.length - 1) = true ∧ rng t.dst 0 (n.places.length - 1) = true)) ∧ capOk t.cap (dimsOf l) = true) ∧ rng t.skills 0 1073741823 = true) ∧ (rng t.opn 0 t.cls = true ∧ t.cls ≤ 4096)) ∧ (rng t.drive 1 4096 = true ∧ rng t.rest 0 4096 = true)) ∧ (rng t.prof 0 7 = true ∧ rng t.fixed 0 100000 = true ∧ rng t.perMile 0 100 = true ∧ rng t.perTick 0 100 = true)) 9 m) ?_ ?_
         ·simp (disch := omega) only [go_sem, seval]
          refine (in10_c t.prof 0 7).use ?_
          simp (disch := omega) only [go_sem, seval]
          refine aguard_f (fun h0 => ?_) (fun h0 => ?_) <;> (try simp only [decide_eq_true_eq, decide_eq_false_iff_not] at h0) <;> simp (disch := omega) only [Sh.out h0, go_sem, seval]
          ·simp only [Bool.not_eq_true'] at h0
           exact ⟨m ++ [2], hm.yes (by simp [h0]) trivial, Weak.mk (by simp (disch := omega) only [netH, typO, go_sem, seval])⟩
          ·simp only [Bool.not_eq_false'] at h0
           refine (in10_c t.fixed 0 100000).use ?_
           simp (disch := omega) only [go_sem, seval]
           refine aguard_f (fun h1 => ?_) (fun h1 => ?_) <;> (try simp only [decide_eq_true_eq, decide_eq_false_iff_not] at h1) <;> simp (disch := omega) only [Sh.out h1, go_sem, seval]
           ·simp only [Bool.not_eq_true'] at h1
            exact ⟨m ++ [2], hm.yes (by simp [h1]) trivial, Weak.mk (by simp (disch := omega) only [netH, typO, go_sem, seval])⟩
           ·simp only [Bool.not_eq_false'] at h1
            refine (in10_c t.perMile 0 100).use ?_
            simp (disch := omega) only [go_sem, seval]
            refine aguard_f (fun h2 => ?_) (fun h2 => ?_) <;> (try simp only [decide_eq_true_eq, decide_eq_false_iff_not] at h2) <;> simp (disch := omega) only [Sh.out h2, go_sem, seval]
            ·simp only [Bool.not_eq_true'] at h2
             exact ⟨m ++ [2], hm.yes (by simp [h2]) trivial, Weak.mk (by simp (disch := omega) only [netH, typO, go_sem, seval])⟩
            ·simp only [Bool.not_eq_false'] at h2
             refine (in10_c t.perTick 0 100).use ?_
             simp (disch := omega) only [go_sem, seval]
             refine acond_b (fun h3 => ?_) (fun h3 => ?_) <;> (try simp only [decide_eq_true_eq, decide_eq_false_iff_not] at h3) <;> simp (disch := omega) only [Sh.out h3, go_sem, seval]
             ·simp only [Bool.not_eq_true'] at h3
              exact ⟨m ++ [2], hm.yes (by simp [h3]) trivial, Weak.mk (by simp (disch := omega) only [netH, typO, go_sem, seval])⟩
             ·simp only [Bool.not_eq_false'] at h3
              exact ⟨m, hm.no (by simp [h0, h1, h2, h3]), Weak.mk (by simp (disch := omega) only [netH, typO, go_sem, seval])⟩
         ·clear hm hml
          intro m hm
          refine awp_sound [] _ _ _ _ ?_
          simp (disch := omega) only [netH, typO, go_sem, seval]
          have hml := hm.len
          exact ⟨m, hm.to (by omega) (by rw [hty]), 2, by simp (disch := omega) only [netH, typO, go_sem, seval]⟩
end Go.Proofs.YtcdoglogglbemaaGreatDoor.K
set_option linter.unusedVariables false
set_option linter.unusedSimpArgs false
namespace Go.Proofs.YtcdoglogglbemaaGreatDoor.K
open Go Go.AM Go.Proofs
set_option maxRecDepth 8000
set_option maxHeartbeats 16000000
def typesOk (n : Net) (l : List Typ) : Prop := rng l.length 1 6 = true ∧ ∀ i, i < l.length → typOk n l i
theorem ck10_c (n : Net) (l : List Typ) (c : Bool) (hw : n.wf 1048576) (hl : l.length ≤ 1048576) (hlw : ∀ t ∈ l, t.wf 1048576) :
  ACalls Tryz.prog 97 [.p (eNet n), .p (.list c (l.map eTyp))] [] fun x H' => ∃ m : List Flt, FR (pF 20) (typesOk n l) (1 + 9 * l.length) m ∧ x = .sl 0 0 m.length m.length ∧ H' = [.elems 2 (m.map eF)] := by
 refine acalls_freshE [2] (fn := Tryz.f97) Tryz.func97 rfl isF97 ?_
 simp (disch := omega) only [Tryz.f97, go_sem, seval]
 refine awp_weak (Weak.ofNil 5 2 (by simp (disch := omega) only [go_sem, seval]) (by simp) (Weak.refl _ _ _)) ?_
 refine awp_join [1, 2] (fun m : List Flt => [(5, .sl 1 0 m.length m.length)]) (fun m => netH n ++ [.elems 2 (m.map eF)]) (fun m => FR (pF 20) (rng l.length 1 6 = true) 1 m) ?_ ?_
 ·simp (disch := omega) only [go_sem, seval]
  refine (in10_c l.length 1 6).use ?_
  simp (disch := omega) only [go_sem, seval]
  refine acond_b (fun h => ?_) (fun h => ?_) <;> (try simp only [decide_eq_true_eq, decide_eq_false_iff_not] at h) <;> simp (disch := omega) only [Sh.out h, go_sem, seval]
  ·simp only [Bool.not_eq_true'] at h
   exact ⟨[(4, [])], ⟨by simp, by simp [h], by simp [pF]⟩, Weak.mk (by simp (disch := omega) only [netH, go_sem, seval])⟩
  ·simp only [Bool.not_eq_false'] at h
   exact ⟨[], FR.nil h, Weak.mk (by simp (disch := omega) only [netH, go_sem, seval])⟩
 ·intro m hm
  refine awp_sound [] _ _ _ _ ?_
  simp (disch := omega) only [netH, go_sem, seval]
  refine awp_for [1, 2] (fun q : Nat × List Flt => [(5, .sl 1 0 q.2.length q.2.length), (6, .p (.int .i64 q.1))]) (fun q => netH n ++ [.elems 2 (q.2.map eF)]) (fun q => q.1 ≤ l.length ∧ FR (pF 20) (rng l.length 1 6 = true ∧ ∀ j, j < q.1 → typOk n l j) (1 + 9 * q.1) q.2) (fun q => l.length - q.1) (0, m) ⟨by simp, hm.to (by simp) (by simp)⟩ (Weak.mk ?_) ?_
  ·simp (disch := omega) only [netH, go_sem, seval]
  ·clear hm
   rintro ⟨k, m⟩ ⟨hk, hm⟩
   simp only at hk hm
   have hml := hm.len
   simp (disch := omega) only [netH, go_sem, seval]
   refine acond_b (fun h => ?_) (fun h => ?_) <;> (try simp only [decide_eq_true_eq, decide_eq_false_iff_not] at h) <;> simp (disch := omega) only [Sh.out h, go_sem, seval]
   ·have hk2 : k < l.length := by omega
    have hI : I64 (k : Int) := by omega
    have hdl := decI_len k hI
    refine ((rules10_c n l c k hk2 hl hw (hlw _ (nth_mem hk2))).frozenE).useV fun e he => ?_
    simp (disch := omega) only [go_sem, seval]
    have hel := he.len
    refine awp_for [1, 2, 6, 7] (fun q : Nat × List Flt => [(5, .sl 1 0 q.2.length q.2.length), (8, .p (.int .i64 q.1))]) (fun q => netH n ++ [.elems 2 (q.2.map eF)]) (fun q => q.1 ≤ e.length ∧ FR (pF 20) ((rng l.length 1 6 = true ∧ ∀ j, j < k → typOk n l j) ∧ q.1 = 0) (1 + 9 * k + q.1) q.2) (fun q => e.length - q.1) (0, m) ⟨by simp, hm.to (by simp) (by simp)⟩ (Weak.mk ?_) ?_
    ·simp (disch := omega) only [netH, go_sem, seval]
    ·clear hm hml
     rintro ⟨j, m⟩ ⟨hj, hm⟩
     simp only at hj hm
     have hml := hm.len
     simp (disch := omega) only [netH, go_sem, seval]
     refine acond_b (fun h2 => ?_) (fun h2 => ?_) <;> (try simp only [decide_eq_true_eq, decide_eq_false_iff_not] at h2) <;> simp (disch := omega) only [Sh.out h2, go_sem, seval]
     ·have hj2 : j < e.length := by omega
      refine awp_drawnS 9 mixed (by kernel_rfl) (by kernel_rfl) ?_
      simp (disch := omega) only [go_sem, seval]
      refine exq_call (dec01_c k hI) ?_
      simp (disch := omega) only [go_sem, seval]
      exact ⟨(j + 1, m ++ [(nth e j, decI k)]), ⟨by simp only; omega, (hm.yes (c := False) (by simp) (by simpa [pF] using hdl)).to (by simp only; omega) (by simp)⟩, by simp only; omega, Weak.mk (by simp (disch := omega) only [netH, go_sem, seval])⟩
     ·have hjl : j = e.length := by omega
      subst hjl
      exact ⟨(k + 1, m), ⟨by simp only; omega, hm.to (by simp only; omega) (by simp only [upto_iff, and_assoc]; rw [← he.emp, List.eq_nil_iff_length_eq_zero])⟩, by simp only; omega, Weak.mk (by simp (disch := omega) only [netH, go_sem, seval])⟩
   ·have hkn : k = l.length := by omega
    subst hkn
    exact ⟨m, hm.to (by omega) (by rw [typesOk]), 1, by simp (disch := omega) only [netH, go_sem, seval]⟩
end Go.Proofs.YtcdoglogglbemaaGreatDoor.K
set_option linter.unusedVariables false
set_option linter.unusedSimpArgs false
namespace Go.Proofs.YtcdoglogglbemaaGreatDoor.K
open Go Go.AM Go.Proofs
set_option maxRecDepth 8000
set_option maxHeartbeats 16000000
theorem in11_c (n lo hi : Int) : ACalls Tryz.prog 208 [.p (.int .i64 n), .p (.int .i64 lo), .p (.int .i64 hi)] [] fun x H' => x = .p (.bool (rng n lo hi)) ∧ H' = [] := by
 refine acalls_pure (fn := Tryz.f208) Tryz.func208 rfl isF208 ?_
 simp (disch := omega) only [Tryz.f208, go_sem, seval]
 refine aguard_t (fun h => ?_) (fun h => ?_) <;> (try simp only [decide_eq_true_eq, decide_eq_false_iff_not] at h) <;> simp (disch := omega) only [Sh.out h, go_sem, seval]
 all_goals (simp [rng]; first | done | omega | (rw [Bool.eq_iff_iff]; simp; omega))
def loadOk (l : List Int) (d : Int) : Bool := decide ((l.length : Int) = d) && l.all fun n => rng n 0 1000
theorem right06_c (l : List Int) (c : Bool) (d : Int) (hl : l.length ≤ 1048576) : ACalls Tryz.prog 207 [.p (.list c (l.map eI)), .p (.int .i64 d)] [] fun x H' => x = .p (.bool (loadOk l d)) ∧ H' = [] := by
 refine acalls_pure (fn := Tryz.f207) Tryz.func207 rfl isF207 ?_
 simp (disch := omega) only [Tryz.f207, go_sem, seval]
 refine acond_b (fun h2 => ?_) (fun h2 => ?_) <;> (try simp only [decide_eq_true_eq, decide_eq_false_iff_not] at h2) <;> simp (disch := omega) only [Sh.out h2, go_sem, seval]
 ·simp [loadOk, h2]
 ·simp only [Classical.not_not] at h2
  subst h2
  refine awp_for [0] (fun k : Nat => [(5, .p (.int .i64 k))]) (fun _ => []) (fun k => k ≤ l.length ∧ ∀ j, j < k → rng (nth l j) 0 1000 = true) (fun k => l.length - k) 0 (by simp) (Weak.mk ?_) ?_
  ·simp (disch := omega) only [go_sem, seval]
  ·rintro k ⟨hk, hno⟩
   simp (disch := omega) only [go_sem, seval]
   refine acond_b (fun h3 => ?_) (fun h3 => ?_) <;> (try simp only [decide_eq_true_eq, decide_eq_false_iff_not] at h3) <;> simp (disch := omega) only [Sh.out h3, go_sem, seval]
   ·have hk2 : k < l.length := by omega
    have hbad : rng (nth l k) 0 1000 = false → loadOk l l.length = false := fun h4 => by
     have : l.all (fun n => rng n 0 1000) = false := by
      rw [List.all_eq_false]; exact ⟨nth l k, nth_mem hk2, by rw [h4]; simp⟩
     simp [loadOk, this]
    repeat' (first | (refine aguard_t (fun hq => ?_) (fun hq => ?_) <;> (try simp only [decide_eq_true_eq, decide_eq_false_iff_not, Classical.not_not] at hq) <;> simp (disch := omega) only [Sh.out hq, go_sem, seval]) | (refine aguard_f (fun hq => ?_) (fun hq => ?_) <;> (try simp only [decide_eq_true_eq, decide_eq_false_iff_not, Classical.not_not] at hq) <;> simp (disch := omega) only [Sh.out hq, go_sem, seval]) | (refine acond_b (fun hq => ?_) (fun hq => ?_) <;> (try simp only [decide_eq_true_eq, decide_eq_false_iff_not, Classical.not_not] at hq) <;> simp (disch := omega) only [Sh.out hq, go_sem, seval]))
    all_goals first
     | (rw [hbad (by simp [rng]; omega)])
     | exact ⟨k + 1, ⟨by omega, upto_iff.2 ⟨hno, by simp [rng]; omega⟩⟩, by omega, Weak.mk (by simp (disch := omega) only [go_sem, seval])⟩
   ·have : l.all (fun n => rng n 0 1000) = true := by
     rw [List.all_eq_true]
     intro x hx
     obtain ⟨j, hj, rfl⟩ := List.mem_iff_getElem.1 hx
     rw [← nth_get hj]; exact hno j (by omega)
    simp [loadOk, this]
def stpOk (s : Stp) : Bool := decide ((s.place = -1 ∧ s.opn = 0 ∧ s.cls = 0 ∧ s.serv = 0) ∨ (0 ≤ s.place ∧ 0 ≤ s.opn ∧ s.opn ≤ s.cls ∧ s.cls ≤ 4096 ∧ 0 ≤ s.serv ∧ s.serv ≤ 4096))
def stpE (s : Stp) : Int := if stpOk s = true then 0 else 2
theorem ck08_c (s : Stp) : ACalls Tryz.prog 209 [.p (eStp s)] [] fun x H' => x = .p (.int .i64 (stpE s)) ∧ H' = [] := by
 refine acalls_pure (fn := Tryz.f209) Tryz.func209 rfl isF209 ?_
 simp (disch := omega) only [Tryz.f209, go_sem, seval]
 repeat' (first | (refine aguard_t (fun hq => ?_) (fun hq => ?_) <;> (try simp only [decide_eq_true_eq, decide_eq_false_iff_not, Classical.not_not] at hq) <;> simp (disch := omega) only [Sh.out hq, go_sem, seval]) | (refine aguard_f (fun hq => ?_) (fun hq => ?_) <;> (try simp only [decide_eq_true_eq, decide_eq_false_iff_not, Classical.not_not] at hq) <;> simp (disch := omega) only [Sh.out hq, go_sem, seval]) | (refine acond_b (fun hq => ?_) (fun hq => ?_) <;> (try simp only [decide_eq_true_eq, decide_eq_false_iff_not, Classical.not_not] at hq) <;> simp (disch := omega) only [Sh.out hq, go_sem, seval]))
 all_goals (simp only [stpE, stpOk, decide_eq_true_eq])
 all_goals first
  | (exfalso; omega)
  | (rw [if_pos (by omega)])
  | (rw [if_neg (by omega)])
def noTwin (l : List Ord) (i : Nat) : Bool := (List.range i).all fun j => decide ((nth l j).name ≠ (nth l i).name)
theorem noTwin_true {l : List Ord} {i : Nat} : noTwin l i = true ↔ ∀ j, j < i → (nth l j).name ≠ (nth l i).name := by simp [noTwin]
def sel (b : Bool) (e : Int) : List Int := if b = true then [] else [e]
theorem sel_len (b : Bool) (e : Int) : (sel b e).length ≤ 1 := by unfold sel; split <;> simp
theorem sel_yes {b : Bool} {e : Int} {m p : List Int} (h : m = p) (hb : b = true) : m = p ++ sel b e := by simp [sel, hb, h]
theorem sel_no {b : Bool} {e : Int} {m p : List Int} (h : m = p) (hb : b = false) : m ++ [e] = p ++ sel b e := by simp [sel, hb, h]
def ordO (t : Ord) : AM.Obj := .cells [.p (.str t.name), .p (.list t.load_c (t.load.map eI)), .p (.int .i64 t.pick.place), .p (.int .i64 t.pick.opn), .p (.int .i64 t.pick.cls), .p (.int .i64 t.pick.serv), .p (.int .i64 t.drp.place), .p (.int .i64 t.drp.opn), .p (.int .i64 t.drp.cls), .p (.int .i64 t.drp.serv), .p (.int .i64 t.skills), .p (.int .i64 t.penalty), .p (.int .i64 t.split), .p (.int .i64 t.last), .p (.int .i64 t.now), .p (.bool t.off)]
def both11 (t : Ord) : Bool := decide (t.pick.place ≠ -1) && decide (t.drp.place ≠ -1)
def argOk (t : Ord) (ty : Int) : Bool := rng t.penalty (-1) 1000000 && rng t.split 1 4 && decide (¬ (1 < t.split ∧ both11 t = true) ∧ -1 ≤ t.last ∧ t.last < ty ∧ -1 ≤ t.now ∧ t.now < ty)
def ordRules (np : Nat) (d ty : Int) (l : List Ord) (i : Nat) : List Int := sel (nameOk (nth l i).name) 5 ++ sel (noTwin l i) 6 ++ sel (loadOk (nth l i).load d) 17 ++ sel ((rng (nth l i).pick.place (-1) ((np : Int) - 1) && rng (nth l i).drp.place (-1) ((np : Int) - 1))) 11 ++ sel (decide (¬ ((nth l i).pick.place = -1 ∧ (nth l i).drp.place = -1))) 19 ++ sel ((stpOk (nth l i).pick && stpOk (nth l i).drp)) 14 ++ sel (rng (nth l i).skills 0 1073741823) 18 ++ sel (argOk (nth l i) ty) 2
theorem ordRules_len (np : Nat) (d ty : Int) (l : List Ord) (i : Nat) : (ordRules np d ty l i).length ≤ 8 := by
 have h := sel_len
 simp only [ordRules, List.length_append]
 have h1 := fun b => h b 5
 have h2 := fun b => h b 6
 have h3 := fun b => h b 17
 have h4 := fun b => h b 11
 have h5 := fun b => h b 19
 have h6 := fun b => h b 14
 have h7 := fun b => h b 18
 have h8 := fun b => h b 2
 have a1 := h1 (nameOk (nth l i).name)
 have a2 := h2 (noTwin l i)
 have a3 := h3 (loadOk (nth l i).load d)
 have a4 := h4 (rng (nth l i).pick.place (-1) ((np : Int) - 1) && rng (nth l i).drp.place (-1) ((np : Int) - 1))
 have a5 := h5 (decide (¬ ((nth l i).pick.place = -1 ∧ (nth l i).drp.place = -1)))
 have a6 := h6 (stpOk (nth l i).pick && stpOk (nth l i).drp)
 have a7 := h7 (rng (nth l i).skills 0 1073741823)
 have a8 := h8 (argOk (nth l i) ty)
 omega
theorem rules11_c (np : Nat) (d ty : Int) (l : List Ord) (c : Bool) (i : Nat) (hi : i < l.length) (hl : l.length ≤ 1048576) (hnp : np ≤ 1048576) (ht : (nth l i).wf 1048576) :
  ACalls Tryz.prog 148 [.p (.int .i64 (np : Nat)), .p (.int .i64 d), .p (.int .i64 ty), .p (.list c (l.map eOrd)), .p (.int .i64 (i : Nat))] [] fun x H' => x = .sl 0 0 (ordRules np d ty l i).length (ordRules np d ty l i).length ∧ H' = [.elems 1 ((ordRules np d ty l i).map eI)] := by
 suffices hh : ACalls Tryz.prog 148 [.p (.int .i64 (np : Nat)), .p (.int .i64 d), .p (.int .i64 ty), .p (.list c (l.map eOrd)), .p (.int .i64 (i : Nat))] [] fun x H' => ∃ m : List Int, m = ordRules np d ty l i ∧ x = .sl 0 0 m.length m.length ∧ H' = [.elems 1 (m.map eI)] by
  refine hh.mono ?_
  rintro x H' ⟨m, rfl, h1, h2⟩
  exact ⟨h1, h2⟩
 refine acalls_freshE [3] (fn := Tryz.f148) Tryz.func148 rfl isF148 ?_
 simp (disch := omega) only [Tryz.f148, go_sem, seval]
 have hty : ordRules np d ty l i = sel (nameOk (nth l i).name) 5 ++ sel (noTwin l i) 6 ++ sel (loadOk (nth l i).load d) 17 ++ sel ((rng (nth l i).pick.place (-1) ((np : Int) - 1) && rng (nth l i).drp.place (-1) ((np : Int) - 1))) 11 ++ sel (decide (¬ ((nth l i).pick.place = -1 ∧ (nth l i).drp.place = -1))) 19 ++ sel ((stpOk (nth l i).pick && stpOk (nth l i).drp)) 14 ++ sel (rng (nth l i).skills 0 1073741823) 18 ++ sel (argOk (nth l i) ty) 2 := rfl
 have hleng : ∀ m : List Int, ∀ p : List Int, m = p → p.length ≤ 8 → m.length ≤ 8 := fun m p h1 h2 => by rw [h1]; exact h2
 generalize hga : nth l i = t at ht hty ⊢
 have hname := ht.1
 have hload := ht.2.1
 refine awp_weak (Weak.ofNil 11 1 (by simp (disch := omega) only [go_sem, seval]) (by simp) (Weak.refl _ _ _)) ?_
 refine awp_join [0, 1, 2, 3, 4, 12] (fun m : List Int => [(11, .sl 1 0 m.length m.length)]) (fun m => [ordO t, .elems 1 (m.map eI)]) (fun m => m = sel (nameOk t.name) 5) ?_ ?_
 ·simp (disch := omega) only [go_sem, seval]
  refine (name_c t.name hname).use ?_
  simp (disch := omega) only [go_sem, seval]
  refine acond_b (fun h => ?_) (fun h => ?_) <;> (try simp only [decide_eq_true_eq, decide_eq_false_iff_not] at h) <;> simp (disch := omega) only [Sh.out h, go_sem, seval]
  ·simp only [Bool.not_eq_true'] at h
   exact ⟨[5], by simp [sel, h], Weak.mk (by simp (disch := omega) only [ordO, go_sem, seval])⟩
  ·simp only [Bool.not_eq_false'] at h
   exact ⟨[], by simp [sel, h], Weak.mk (by simp (disch := omega) only [ordO, go_sem, seval])⟩
 ·skip
  intro m hm
  refine awp_sound [5] _ _ _ _ ?_
  simp (disch := omega) only [ordO, go_sem, seval]
  have hml : m.length ≤ 8 := by
   rw [hm]
   try simp only [List.length_append]
   have h := sel_len
   have a0 := h (nameOk t.name) 5
   omega
  refine awp_join [0, 1, 2, 12] (fun m : List Int => [(11, .sl 1 0 m.length m.length)]) (fun m => [ordO t, .elems 1 (m.map eI)]) (fun m => m = sel (nameOk t.name) 5 ++ sel (noTwin l i) 6) ?_ ?_
  ·simp (disch := omega) only [go_sem, seval]
   refine awp_for [0, 1, 2, 3, 4, 11, 12] (fun k : Nat => [(13, .p (.int .i64 k))]) (fun _ => [ordO t, .elems 1 (m.map eI)]) (fun k => k ≤ i ∧ ∀ j, j < k → (nth l j).name ≠ (nth l i).name) (fun k => i - k) 0 (by simp) (Weak.mk ?_) ?_
   ·simp (disch := omega) only [ordO, go_sem, seval]
   ·rintro k ⟨hk, hno⟩
    simp (disch := omega) only [ordO, go_sem, seval]
    refine acond_b (fun h3 => ?_) (fun h3 => ?_) <;> (try simp only [decide_eq_true_eq, decide_eq_false_iff_not] at h3) <;> simp (disch := omega) only [Sh.out h3, go_sem, seval]
    ·have hk2 : k < l.length := by omega
     refine awp_drawnA mixed (by kernel_rfl) (by kernel_rfl) ?_
     simp (disch := omega) only [go_sem, seval]
     refine acond_b (fun h4 => ?_) (fun h4 => ?_) <;> (try simp only [decide_eq_true_eq, decide_eq_false_iff_not] at h4) <;> simp (disch := omega) only [Sh.out h4, go_sem, seval]
     ·exact ⟨m ++ [6], sel_no hm (by cases hq : noTwin l i with | false => rfl | true => exact absurd (by rw [hga]; exact h4) (noTwin_true.1 hq k (by omega))), Weak.mk (by simp (disch := omega) only [ordO, go_sem, seval])⟩
     ·exact ⟨k + 1, ⟨by omega, upto_iff.2 ⟨hno, by rw [hga]; exact h4⟩⟩, by omega, Weak.mk (by simp (disch := omega) only [ordO, go_sem, seval])⟩
    ·have hki : k = i := by omega
     subst hki
     exact ⟨m, sel_yes hm (noTwin_true.2 hno), Weak.mk (by simp (disch := omega) only [ordO, go_sem, seval])⟩
  ·clear hm hml
   intro m hm
   refine awp_sound [10] _ _ _ _ ?_
   simp (disch := omega) only [ordO, go_sem, seval]
   have hml : m.length ≤ 8 := by
    rw [hm]
    try simp only [List.length_append]
    have h := sel_len
    have a0 := h (nameOk t.name) 5
    have a1 := h (noTwin l i) 6
    omega
   refine awp_join [0, 2, 12] (fun m : List Int => [(11, .sl 1 0 m.length m.length)]) (fun m => [ordO t, .elems 1 (m.map eI)]) (fun m => m = sel (nameOk t.name) 5 ++ sel (noTwin l i) 6 ++ sel (loadOk t.load d) 17) ?_ ?_
   ·simp (disch := omega) only [go_sem, seval]
    refine (right06_c t.load t.load_c d hload).use ?_
    simp (disch := omega) only [go_sem, seval]
    refine acond_b (fun h => ?_) (fun h => ?_) <;> (try simp only [decide_eq_true_eq, decide_eq_false_iff_not] at h) <;> simp (disch := omega) only [Sh.out h, go_sem, seval]
    ·simp only [Bool.not_eq_true'] at h
     exact ⟨m ++ [17], sel_no hm (h), Weak.mk (by simp (disch := omega) only [ordO, go_sem, seval])⟩
    ·simp only [Bool.not_eq_false'] at h
     exact ⟨m, sel_yes hm (h), Weak.mk (by simp (disch := omega) only [ordO, go_sem, seval])⟩
   ·clear hm hml
    intro m hm
    refine awp_sound [12] _ _ _ _ ?_
    simp (disch := omega) only [ordO, go_sem, seval]
    have hml : m.length ≤ 8 := by
     rw [hm]
     try simp only [List.length_append]
     have h := sel_len
     have a0 := h (nameOk t.name) 5
     have a1 := h (noTwin l i) 6
     have a2 := h (loadOk t.load d) 17
     omega
    refine awp_join [2, 12] (fun m : List Int => [(11, .sl 1 0 m.length m.length)]) (fun m => [ordO t, .elems 1 (m.map eI)]) (fun m => m = sel (nameOk t.name) 5 ++ sel (noTwin l i) 6 ++ sel (loadOk t.load d) 17 ++ sel ((rng t.pick.place (-1) ((np : Int) - 1) && rng t.drp.place (-1) ((np : Int) - 1))) 11) ?_ ?_
    ·simp (disch := omega) only [go_sem, seval]
     refine (in11_c t.pick.place (-1) ((np : Int) - 1)).use ?_
     simp (disch := omega) only [go_sem, seval]
     refine aguard_f (fun h => ?_) (fun h => ?_) <;> (try simp only [decide_eq_true_eq, decide_eq_false_iff_not] at h) <;> simp (disch := omega) only [Sh.out h, go_sem, seval]
     ·simp only [Bool.not_eq_true'] at h
      exact ⟨m ++ [11], sel_no hm (by simp [h]), Weak.mk (by simp (disch := omega) only [ordO, go_sem, seval])⟩
     ·simp only [Bool.not_eq_false'] at h
      refine (in11_c t.drp.place (-1) ((np : Int) - 1)).use ?_
      simp (disch := omega) only [go_sem, seval]
      refine acond_b (fun h2 => ?_) (fun h2 => ?_) <;> (try simp only [decide_eq_true_eq, decide_eq_false_iff_not] at h2) <;> simp (disch := omega) only [Sh.out h2, go_sem, seval]
      ·simp only [Bool.not_eq_true'] at h2
       exact ⟨m ++ [11], sel_no hm (by simp [h2]), Weak.mk (by simp (disch := omega) only [ordO, go_sem, seval])⟩
      ·simp only [Bool.not_eq_false'] at h2
       exact ⟨m, sel_yes hm (by simp [h, h2]), Weak.mk (by simp (disch := omega) only [ordO, go_sem, seval])⟩
    ·clear hm hml
     intro m hm
     refine awp_sound [14] _ _ _ _ ?_
     simp (disch := omega) only [ordO, go_sem, seval]
     have hml : m.length ≤ 8 := by
      rw [hm]
      try simp only [List.length_append]
      have h := sel_len
      have a0 := h (nameOk t.name) 5
      have a1 := h (noTwin l i) 6
      have a2 := h (loadOk t.load d) 17
      have a3 := h ((rng t.pick.place (-1) ((np : Int) - 1) && rng t.drp.place (-1) ((np : Int) - 1))) 11
      omega
     refine awp_join [2, 12] (fun m : List Int => [(11, .sl 1 0 m.length m.length)]) (fun m => [ordO t, .elems 1 (m.map eI)]) (fun m => m = sel (nameOk t.name) 5 ++ sel (noTwin l i) 6 ++ sel (loadOk t.load d) 17 ++ sel ((rng t.pick.place (-1) ((np : Int) - 1) && rng t.drp.place (-1) ((np : Int) - 1))) 11 ++ sel (decide (¬ (t.pick.place = -1 ∧ t.drp.place = -1))) 19) ?_ ?_
     ·simp (disch := omega) only [go_sem, seval]
      repeat' (first | (refine aguard_t (fun hq => ?_) (fun hq => ?_) <;> (try simp only [decide_eq_true_eq, decide_eq_false_iff_not, Classical.not_not] at hq) <;> simp (disch := omega) only [Sh.out hq, go_sem, seval]) | (refine aguard_f (fun hq => ?_) (fun hq => ?_) <;> (try simp only [decide_eq_true_eq, decide_eq_false_iff_not, Classical.not_not] at hq) <;> simp (disch := omega) only [Sh.out hq, go_sem, seval]) | (refine acond_b (fun hq => ?_) (fun hq => ?_) <;> (try simp only [decide_eq_true_eq, decide_eq_false_iff_not, Classical.not_not] at hq) <;> simp (disch := omega) only [Sh.out hq, go_sem, seval]))
      all_goals first
       | exact ⟨m ++ [19], sel_no hm (by first | (simp; done) | (simp; omega)), Weak.mk (by simp (disch := omega) only [ordO, go_sem, seval])⟩
       | exact ⟨m, sel_yes hm (by first | (simp; done) | (simp; omega)), Weak.mk (by simp (disch := omega) only [ordO, go_sem, seval])⟩
     ·clear hm hml
      intro m hm
      refine awp_sound [16] _ _ _ _ ?_
      simp (disch := omega) only [ordO, go_sem, seval]
      have hml : m.length ≤ 8 := by
       rw [hm]
       try simp only [List.length_append]
       have h := sel_len
       have a0 := h (nameOk t.name) 5
       have a1 := h (noTwin l i) 6
       have a2 := h (loadOk t.load d) 17
       have a3 := h ((rng t.pick.place (-1) ((np : Int) - 1) && rng t.drp.place (-1) ((np : Int) - 1))) 11
       have a4 := h (decide (¬ (t.pick.place = -1 ∧ t.drp.place = -1))) 19
       omega
      refine awp_join [2, 12] (fun m : List Int => [(11, .sl 1 0 m.length m.length)]) (fun m => [ordO t, .elems 1 (m.map eI)]) (fun m => m = sel (nameOk t.name) 5 ++ sel (noTwin l i) 6 ++ sel (loadOk t.load d) 17 ++ sel ((rng t.pick.place (-1) ((np : Int) - 1) && rng t.drp.place (-1) ((np : Int) - 1))) 11 ++ sel (decide (¬ (t.pick.place = -1 ∧ t.drp.place = -1))) 19 ++ sel ((stpOk t.pick && stpOk t.drp)) 14) ?_ ?_
      ·simp (disch := omega) only [go_sem, seval]
       refine (ck08_c t.pick).use ?_
       simp (disch := omega) only [go_sem, seval]
       cases h : stpOk t.pick with
       | false =>
        simp (disch := omega) only [stpE, h, go_sem, seval]
        exact ⟨m ++ [14], sel_no hm (by simp [h]), Weak.mk (by simp (disch := omega) only [ordO, go_sem, seval])⟩
       | true =>
        simp (disch := omega) only [stpE, h, go_sem, seval]
        refine (ck08_c t.drp).use ?_
        simp (disch := omega) only [go_sem, seval]
        cases h2 : stpOk t.drp with
        | false =>
         simp (disch := omega) only [stpE, h2, go_sem, seval]
         exact ⟨m ++ [14], sel_no hm (by simp [h2]), Weak.mk (by simp (disch := omega) only [ordO, go_sem, seval])⟩
        | true =>
         simp (disch := omega) only [stpE, h2, go_sem, seval]
         exact ⟨m, sel_yes hm (by simp [h, h2]), Weak.mk (by simp (disch := omega) only [ordO, go_sem, seval])⟩
      ·clear hm hml
       intro m hm
       refine awp_sound [18] _ _ _ _ ?_
       simp (disch := omega) only [ordO, go_sem, seval]
       have hml : m.length ≤ 8 := by
        rw [hm]
        try simp only [List.length_append]
        have h := sel_len
        have a0 := h (nameOk t.name) 5
        have a1 := h (noTwin l i) 6
        have a2 := h (loadOk t.load d) 17
        have a3 := h ((rng t.pick.place (-1) ((np : Int) - 1) && rng t.drp.place (-1) ((np : Int) - 1))) 11
        have a4 := h (decide (¬ (t.pick.place = -1 ∧ t.drp.place = -1))) 19
        have a5 := h ((stpOk t.pick && stpOk t.drp)) 14
        omega
       refine awp_join [2, 12] (fun m : List Int => [(11, .sl 1 0 m.length m.length)]) (fun m => [ordO t, .elems 1 (m.map eI)]) (fun m => m = sel (nameOk t.name) 5 ++ sel (noTwin l i) 6 ++ sel (loadOk t.load d) 17 ++ sel ((rng t.pick.place (-1) ((np : Int) - 1) && rng t.drp.place (-1) ((np : Int) - 1))) 11 ++ sel (decide (¬ (t.pick.place = -1 ∧ t.drp.place = -1))) 19 ++ sel ((stpOk t.pick && stpOk t.drp)) 14 ++ sel (rng t.skills 0 1073741823) 18) ?_ ?_
       ·simp (disch := omega) only [go_sem, seval]
        refine (in11_c t.skills 0 1073741823).use ?_
        simp (disch := omega) only [go_sem, seval]
        refine acond_b (fun h => ?_) (fun h => ?_) <;> (try simp only [decide_eq_true_eq, decide_eq_false_iff_not] at h) <;> simp (disch := omega) only [Sh.out h, go_sem, seval]
        ·simp only [Bool.not_eq_true'] at h
         exact ⟨m ++ [18], sel_no hm (h), Weak.mk (by simp (disch := omega) only [ordO, go_sem, seval])⟩
        ·simp only [Bool.not_eq_false'] at h
         exact ⟨m, sel_yes hm (h), Weak.mk (by simp (disch := omega) only [ordO, go_sem, seval])⟩
       ·clear hm hml
        intro m hm
        refine awp_sound [20] _ _ _ _ ?_
        simp (disch := omega) only [ordO, go_sem, seval]
        have hml : m.length ≤ 8 := by
         rw [hm]
         try simp only [List.length_append]
         have h := sel_len
         have a0 := h (nameOk t.name) 5
         have a1 := h (noTwin l i) 6
         have a2 := h (loadOk t.load d) 17
         have a3 := h ((rng t.pick.place (-1) ((np : Int) - 1) && rng t.drp.place (-1) ((np : Int) - 1))) 11
         have a4 := h (decide (¬ (t.pick.place = -1 ∧ t.drp.place = -1))) 19
         have a5 := h ((stpOk t.pick && stpOk t.drp)) 14
         have a6 := h (rng t.skills 0 1073741823) 18
         omega
        refine awp_join [2, 11, 12] (fun b : Bool => [(14, .p (.bool b))]) (fun _ => [ordO t, .elems 1 (m.map eI)]) (fun b => b = both11 t) ?_ ?_
        ·simp (disch := omega) only [go_sem, seval]
         repeat' (first | (refine aguard_t (fun hq => ?_) (fun hq => ?_) <;> (try simp only [decide_eq_true_eq, decide_eq_false_iff_not, Classical.not_not] at hq) <;> simp (disch := omega) only [Sh.out hq, go_sem, seval]) | (refine aguard_f (fun hq => ?_) (fun hq => ?_) <;> (try simp only [decide_eq_true_eq, decide_eq_false_iff_not, Classical.not_not] at hq) <;> simp (disch := omega) only [Sh.out hq, go_sem, seval]) | (refine acond_b (fun hq => ?_) (fun hq => ?_) <;> (try simp only [decide_eq_true_eq, decide_eq_false_iff_not, Classical.not_not] at hq) <;> simp (disch := omega) only [Sh.out hq, go_sem, seval]))
         all_goals refine ⟨both11 t, rfl, Weak.mk ?_⟩
         all_goals (simp (disch := omega) only [ordO, go_sem, seval]; simp [both11, *])
        ·rintro b hb
         refine awp_sound [21] _ _ _ _ ?_
         simp (disch := omega) only [ordO, go_sem, seval]
         refine awp_join [] (fun m : List Int => [(11, .sl 1 0 m.length m.length)]) (fun m => [ordO t, .elems 1 (m.map eI)]) (fun m => m = sel (nameOk t.name) 5 ++ sel (noTwin l i) 6 ++ sel (loadOk t.load d) 17 ++ sel ((rng t.pick.place (-1) ((np : Int) - 1) && rng t.drp.place (-1) ((np : Int) - 1))) 11 ++ sel (decide (¬ (t.pick.place = -1 ∧ t.drp.place = -1))) 19 ++ sel ((stpOk t.pick && stpOk t.drp)) 14 ++ sel (rng t.skills 0 1073741823) 18 ++ sel (argOk t ty) 2) ?_ ?_
         ·simp (disch := omega) only [go_sem, seval]
          refine (in11_c t.penalty (-1) 1000000).use ?_
          simp (disch := omega) only [go_sem, seval]
          refine aguard_f (fun h => ?_) (fun h => ?_) <;> (try simp only [decide_eq_true_eq, decide_eq_false_iff_not] at h) <;> simp (disch := omega) only [Sh.out h, go_sem, seval]
          ·simp only [Bool.not_eq_true'] at h
           exact ⟨m ++ [2], sel_no hm (by simp [argOk, h]), Weak.mk (by simp (disch := omega) only [ordO, go_sem, seval])⟩
          ·simp only [Bool.not_eq_false'] at h
           refine (in11_c t.split 1 4).use ?_
           simp (disch := omega) only [go_sem, seval]
           refine aguard_f (fun h2 => ?_) (fun h2 => ?_) <;> (try simp only [decide_eq_true_eq, decide_eq_false_iff_not] at h2) <;> simp (disch := omega) only [Sh.out h2, go_sem, seval]
           ·simp only [Bool.not_eq_true'] at h2
            exact ⟨m ++ [2], sel_no hm (by simp [argOk, h2]), Weak.mk (by simp (disch := omega) only [ordO, go_sem, seval])⟩
           ·simp only [Bool.not_eq_false'] at h2
            cases b with
            | true =>
             repeat' (first | (refine aguard_t (fun hq => ?_) (fun hq => ?_) <;> (try simp only [decide_eq_true_eq, decide_eq_false_iff_not, Classical.not_not] at hq) <;> simp (disch := omega) only [Sh.out hq, go_sem, seval]) | (refine aguard_f (fun hq => ?_) (fun hq => ?_) <;> (try simp only [decide_eq_true_eq, decide_eq_false_iff_not, Classical.not_not] at hq) <;> simp (disch := omega) only [Sh.out hq, go_sem, seval]) | (refine acond_b (fun hq => ?_) (fun hq => ?_) <;> (try simp only [decide_eq_true_eq, decide_eq_false_iff_not, Classical.not_not] at hq) <;> simp (disch := omega) only [Sh.out hq, go_sem, seval]))
             all_goals first
              | exact ⟨m ++ [2], sel_no hm (by rw [argOk, ← hb]; first | (simp; done) | (simp; omega)), Weak.mk (by simp (disch := omega) only [ordO, go_sem, seval])⟩
              | exact ⟨m, sel_yes hm (by rw [argOk, ← hb, h, h2]; first | (simp; done) | (simp; omega)), Weak.mk (by simp (disch := omega) only [ordO, go_sem, seval])⟩
            | false =>
             repeat' (first | (refine aguard_t (fun hq => ?_) (fun hq => ?_) <;> (try simp only [decide_eq_true_eq, decide_eq_false_iff_not, Classical.not_not] at hq) <;> simp (disch := omega) only [Sh.out hq, go_sem, seval]) | (refine aguard_f (fun hq => ?_) (fun hq => ?_) <;> (try simp only [decide_eq_true_eq, decide_eq_false_iff_not, Classical.not_not] at hq) <;> simp (disch := omega) only [Sh.out hq, go_sem, seval]) | (refine acond_b (fun hq => ?_) (fun hq => ?_) <;> (try simp only [decide_eq_true_eq, decide_eq_false_iff_not, Classical.not_not] at hq) <;> simp (disch := omega) only [Sh.out hq, go_sem, seval]))
             all_goals first
              | exact ⟨m ++ [2], sel_no hm (by rw [argOk, ← hb]; first | (simp; done) | (simp; omega)), Weak.mk (by simp (disch := omega) only [ordO, go_sem, seval])⟩
              | exact ⟨m, sel_yes hm (by rw [argOk, ← hb, h, h2]; first | (simp; done) | (simp; omega)), Weak.mk (by simp (disch := omega) only [ordO, go_sem, seval])⟩
         ·clear hm hml
          intro m hm
          refine awp_sound [] _ _ _ _ ?_
          simp (disch := omega) only [ordO, go_sem, seval]
          have hml : m.length ≤ 8 := by
           rw [hm]
           try simp only [List.length_append]
           have h := sel_len
           have a0 := h (nameOk t.name) 5
           have a1 := h (noTwin l i) 6
           have a2 := h (loadOk t.load d) 17
           have a3 := h ((rng t.pick.place (-1) ((np : Int) - 1) && rng t.drp.place (-1) ((np : Int) - 1))) 11
           have a4 := h (decide (¬ (t.pick.place = -1 ∧ t.drp.place = -1))) 19
           have a5 := h ((stpOk t.pick && stpOk t.drp)) 14
           have a6 := h (rng t.skills 0 1073741823) 18
           have a7 := h (argOk t ty) 2
           omega
          exact ⟨m, by rw [hm, hty], 1, by simp (disch := omega) only [ordO, go_sem, seval]⟩
def ordersF (np : Nat) (d ty : Int) (l : List Ord) (k : Nat) : List Flt := (if l.length ≤ 10 then [] else [(4, [])]) ++ (List.range k).flatMap fun i => (ordRules np d ty l i).map fun e => (e, decI i)
theorem ordersF_succ (np : Nat) (d ty : Int) (l : List Ord) (k : Nat) : ordersF np d ty l (k + 1) = ordersF np d ty l k ++ (ordRules np d ty l k).map fun e => (e, decI k) := by
 simp [ordersF, List.range_succ]
theorem ordersF_len (np : Nat) (d ty : Int) (l : List Ord) : ∀ k, (ordersF np d ty l k).length ≤ 1 + 8 * k
 | 0 => by simp [ordersF]; split <;> simp
 | k + 1 => by
  have h1 := ordersF_len np d ty l k
  have h2 := ordRules_len np d ty l k
  rw [ordersF_succ]
  simp
  omega
end Go.Proofs.YtcdoglogglbemaaGreatDoor.K
set_option linter.unusedVariables false
set_option linter.unusedSimpArgs false
namespace Go.Proofs.YtcdoglogglbemaaGreatDoor.K
open Go Go.AM Go.Proofs
set_option maxRecDepth 8000
set_option maxHeartbeats 16000000
theorem ck11_c (n : Net) (d ty : Int) (l : List Ord) (c : Bool) (hw : n.wf 1048576) (hl : l.length ≤ 1048576) (hlw : ∀ t ∈ l, t.wf 1048576) :
  ACalls Tryz.prog 98 [.p (eNet n), .p (.int .i64 d), .p (.int .i64 ty), .p (.list c (l.map eOrd))] [] fun x H' => x = .sl 0 0 (ordersF n.places.length d ty l l.length).length (ordersF n.places.length d ty l l.length).length ∧ H' = [.elems 2 ((ordersF n.places.length d ty l l.length).map eF)] := by
 obtain ⟨w1, w2, w3, w4⟩ := hw
 suffices hh : ACalls Tryz.prog 98 [.p (eNet n), .p (.int .i64 d), .p (.int .i64 ty), .p (.list c (l.map eOrd))] [] fun x H' => ∃ m : List Flt, m = ordersF n.places.length d ty l l.length ∧ x = .sl 0 0 m.length m.length ∧ H' = [.elems 2 (m.map eF)] by
  refine hh.mono ?_
  rintro x H' ⟨m, rfl, h1, h2⟩
  exact ⟨h1, h2⟩
 refine acalls_freshE [2] (fn := Tryz.f98) Tryz.func98 rfl isF98 ?_
 simp (disch := omega) only [Tryz.f98, go_sem, seval]
 refine awp_weak (Weak.ofNil 9 2 (by simp (disch := omega) only [go_sem, seval]) (by simp) (Weak.refl _ _ _)) ?_
 refine awp_join [1, 2, 3, 4] (fun m : List Flt => [(9, .sl 1 0 m.length m.length)]) (fun m => netH n ++ [.elems 2 (m.map eF)]) (fun m => m = ordersF n.places.length d ty l 0) ?_ ?_
 ·simp (disch := omega) only [go_sem, seval]
  refine acond_b (fun h => ?_) (fun h => ?_) <;> (try simp only [decide_eq_true_eq, decide_eq_false_iff_not] at h) <;> simp (disch := omega) only [Sh.out h, go_sem, seval]
  ·exact ⟨[(4, [])], by rw [ordersF, if_neg (by omega)]; rfl, Weak.mk (by simp (disch := omega) only [netH, go_sem, seval])⟩
  ·exact ⟨[], by rw [ordersF, if_pos (by omega)]; rfl, Weak.mk (by simp (disch := omega) only [netH, go_sem, seval])⟩
 ·intro m hm
  refine awp_sound [] _ _ _ _ ?_
  simp (disch := omega) only [netH, go_sem, seval]
  refine awp_for [1, 2, 3, 4] (fun q : Nat × List Flt => [(9, .sl 1 0 q.2.length q.2.length), (10, .p (.int .i64 q.1))]) (fun q => netH n ++ [.elems 2 (q.2.map eF)]) (fun q => q.1 ≤ l.length ∧ q.2 = ordersF n.places.length d ty l q.1) (fun q => l.length - q.1) (0, m) ⟨by simp, hm⟩ (Weak.mk ?_) ?_
  ·simp (disch := omega) only [netH, go_sem, seval]
  ·clear hm
   rintro ⟨k, m⟩ ⟨hk, hm⟩
   simp only at hk hm
   have hml := ordersF_len n.places.length d ty l k
   rw [← hm] at hml
   simp (disch := omega) only [netH, go_sem, seval]
   refine acond_b (fun h => ?_) (fun h => ?_) <;> (try simp only [decide_eq_true_eq, decide_eq_false_iff_not] at h) <;> simp (disch := omega) only [Sh.out h, go_sem, seval]
   ·have hk2 : k < l.length := by omega
    have hI : I64 (k : Int) := by omega
    have hrl := ordRules_len n.places.length d ty l k
    refine ((rules11_c n.places.length d ty l c k hk2 hl w1 (hlw _ (nth_mem hk2))).frozen (by simp)).use ?_
    simp (disch := omega) only [go_sem, seval]
    generalize hre : ordRules n.places.length d ty l k = e at hrl ⊢
    refine awp_for [1, 2, 3, 4, 10, 11] (fun q : Nat × List Flt => [(9, .sl 1 0 q.2.length q.2.length), (12, .p (.int .i64 q.1))]) (fun q => netH n ++ [.elems 2 (q.2.map eF)]) (fun q => q.1 ≤ e.length ∧ q.2 = ordersF n.places.length d ty l k ++ (e.take q.1).map fun e => (e, decI k)) (fun q => e.length - q.1) (0, m) ⟨by simp, by simp [hm]⟩ (Weak.mk ?_) ?_
    ·simp (disch := omega) only [netH, go_sem, seval]
    ·clear hm hml
     rintro ⟨j, m⟩ ⟨hj, hm⟩
     simp only at hj hm
     have hml := ordersF_len n.places.length d ty l k
     have hml2 : m.length ≤ 1 + 8 * k + 8 := by rw [hm]; simp; omega
     simp (disch := omega) only [netH, go_sem, seval]
     refine acond_b (fun h2 => ?_) (fun h2 => ?_) <;> (try simp only [decide_eq_true_eq, decide_eq_false_iff_not] at h2) <;> simp (disch := omega) only [Sh.out h2, go_sem, seval]
     ·have hj2 : j < e.length := by omega
      refine awp_drawnS 9 mixed (by kernel_rfl) (by kernel_rfl) ?_
      simp (disch := omega) only [go_sem, seval]
      refine exq_call (dec01_c k hI) ?_
      simp (disch := omega) only [go_sem, seval]
      refine ⟨(j + 1, m ++ [(nth e j, decI k)]), ⟨by simp only; omega, ?_⟩, by simp only; omega, Weak.mk (by simp (disch := omega) only [netH, go_sem, seval])⟩
      simp only [hm, List.append_assoc]
      rw [List.take_succ_eq_append_getElem hj2, List.map_append, nth_get hj2]
      rfl
     ·have hjl : j = e.length := by omega
      subst hjl
      refine ⟨(k + 1, m), ⟨by simp only; omega, ?_⟩, by simp only; omega, Weak.mk (by simp (disch := omega) only [netH, go_sem, seval])⟩
      simp only [hm, ordersF_succ, hre, List.take_length]
   ·have hkn : k = l.length := by omega
    subst hkn
    exact ⟨m, hm, 1, by simp (disch := omega) only [netH, go_sem, seval]⟩
structure OrdOk (np : Nat) (d ty : Int) (l : List Ord) (i : Nat) : Prop where
 name : nameOk (nth l i).name = true
 twin : ∀ j, j < i → (nth l j).name ≠ (nth l i).name
 load : loadOk (nth l i).load d = true
 pick : -1 ≤ (nth l i).pick.place ∧ (nth l i).pick.place < np
 drp : -1 ≤ (nth l i).drp.place ∧ (nth l i).drp.place < np
 one : ¬ ((nth l i).pick.place = -1 ∧ (nth l i).drp.place = -1)
 pstp : stpOk (nth l i).pick = true
 dstp : stpOk (nth l i).drp = true
 skills : 0 ≤ (nth l i).skills ∧ (nth l i).skills ≤ 1073741823
 arg : argOk (nth l i) ty = true
theorem sel_nil {b : Bool} {e : Int} : sel b e = [] ↔ b = true := by unfold sel; split <;> simp_all
theorem ordRules_nil {np : Nat} {d ty : Int} {l : List Ord} {i : Nat} : ordRules np d ty l i = [] ↔ OrdOk np d ty l i := by
 simp only [ordRules, List.append_eq_nil_iff, sel_nil, Bool.and_eq_true, decide_eq_true_eq, rng, noTwin_true]
 constructor
 ·rintro ⟨⟨⟨⟨⟨⟨⟨a1, a2⟩, a3⟩, a4⟩, a5⟩, a6⟩, a7⟩, a8⟩
  exact ⟨a1, a2, a3, by omega, by omega, a5, a6.1, a6.2, a7, a8⟩
 ·intro h
  obtain ⟨b1, b2⟩ := h.pick
  obtain ⟨b3, b4⟩ := h.drp
  exact ⟨⟨⟨⟨⟨⟨⟨h.name, h.twin⟩, h.load⟩, by omega, by omega⟩, h.one⟩, h.pstp, h.dstp⟩, h.skills⟩, h.arg⟩
def ordersOk (np : Nat) (d ty : Int) (l : List Ord) : Prop := l.length ≤ 10 ∧ ∀ i, i < l.length → OrdOk np d ty l i
theorem ordersF_nil {np : Nat} {d ty : Int} {l : List Ord} : ordersF np d ty l l.length = [] ↔ ordersOk np d ty l := by
 simp only [ordersF, List.append_eq_nil_iff, List.flatMap_eq_nil_iff, List.mem_range, List.map_eq_nil_iff, ordRules_nil, ordersOk]
 refine and_congr ?_ Iff.rfl
 split <;> simp_all
theorem ordersF_at {np : Nat} {d ty : Int} {l : List Ord} (hl : l.length ≤ 1048576) : ∀ f ∈ ordersF np d ty l l.length, pF 20 f := by
 intro f hf
 simp only [ordersF, List.mem_append, List.mem_flatMap, List.mem_range, List.mem_map] at hf
 rcases hf with hf | ⟨i, hi, e, he, rfl⟩
 ·split at hf <;> simp at hf
  subst hf; simp [pF]
 ·exact decI_len i (by omega)
end Go.Proofs.YtcdoglogglbemaaGreatDoor.K
set_option linter.unusedVariables false
set_option linter.unusedSimpArgs false
namespace Go.Proofs.YtcdoglogglbemaaGreatDoor.K
open Go Go.AM Go.Proofs
set_option maxRecDepth 8000
set_option maxHeartbeats 4000000
theorem rdecimal_c (n : Int) (h0 : 0 ≤ n) (hn : n ≤ 4611686018427387904) : ACalls Tryz.prog 210 [.p (.int .i64 n)] [] fun x H' => x = .p (.str (dec n.toNat)) ∧ H' = [] := by
 refine acalls_pure (fn := Tryz.f210) Tryz.func210 rfl isF210 ?_
 simp (disch := omega) only [Tryz.f210, go_sem, seval]
 refine awp_for [] (fun q : Int × List UInt8 => [(0, .p (.int .i64 q.1)), (3, .p (.str q.2))]) (fun _ => []) (fun q => 0 ≤ q.1 ∧ q.1 ≤ n ∧ dec q.1.toNat ++ q.2 = dec n.toNat) (fun q => q.1.toNat) (n, []) (by simp [h0]) (Weak.mk ?_) ?_
 ·simp (disch := omega) only [go_sem, seval]
 ·rintro ⟨m, s⟩ ⟨hm, hmn, hs⟩
  simp only at hm hmn hs
  have hl := dec_len _ n.toNat (Nat.lt_succ_self _)
  have hl2 : (dec m.toNat).length + s.length = (dec n.toNat).length := by rw [← hs]; simp
  simp (disch := first | omega | (simp only [List.length_cons, List.length_nil, List.length_append, List.length_map, List.length_take, List.length_drop] <;> omega)) only [go_sem, seval]
  refine acond_b (fun h => ?_) (fun h => ?_) <;> (try simp only [decide_eq_true_eq, decide_eq_false_iff_not] at h) <;> simp (disch := omega) only [Sh.out h, go_sem, seval]
  ·simp (disch := first | omega | (simp only [List.length_cons, List.length_nil, List.length_append, List.length_map, List.length_take, List.length_drop] <;> omega)) only [go_sem, seval]
   have h2 : ¬ m.toNat < 10 := by omega
   have e1 : (48 + m % 10).toNat = 48 + m.toNat % 10 := by omega
   have e2 : (m / 10).toNat = m.toNat / 10 := by omega
   refine ⟨(m / 10, UInt8.ofNat (48 + m % 10).toNat :: s), ⟨by simp only; omega, by simp only; omega, ?_⟩, by simp only; omega, Weak.mk ?_⟩
   ·simp only [e1, e2]
    rw [← hs, dec.eq_def m.toNat, dif_neg h2]
    simp
   ·simp (disch := omega) only [go_sem, seval]
  ·simp (disch := first | omega | (simp only [List.length_cons, List.length_nil, List.length_append, List.length_map, List.length_take, List.length_drop] <;> omega)) only [go_sem, seval]
   have h2 : m.toNat < 10 := by omega
   have e1 : (48 + m).toNat = 48 + m.toNat := by omega
   rw [← hs, dec.eq_def m.toNat, dif_pos h2, e1]
   rfl
def okP (n : Int) (p : Int × Int) : Bool := decide (0 ≤ p.1 ∧ p.1 < n) && decide (0 ≤ p.2 ∧ p.2 < n) && decide (¬ p.1 = p.2)
def atW (word : List UInt8) (i : Nat) : List UInt8 := word ++ [32] ++ dec i
def flt (n : Int) (word : List UInt8) (sm : Int × Int → Int × Int → Bool) (l : List (Int × Int)) (i : Nat) : List (Int × List UInt8) :=
 if okP n (nth l i) = false then [(2, atW word i)] else if (l.take i).any (sm (nth l i)) then [(6, atW word i)] else []
def hdr (word : List UInt8) (l : List (Int × Int)) : List (Int × List UInt8) := if 16 < l.length then [(4, word)] else []
def fltU (n : Int) (word : List UInt8) (sm : Int × Int → Int × Int → Bool) (l : List (Int × Int)) (k : Nat) : List (Int × List UInt8) := hdr word l ++ (List.range k).flatMap (flt n word sm l)
theorem fltU_succ (n word sm l k) : fltU n word sm l (k + 1) = fltU n word sm l k ++ flt n word sm l k := by simp [fltU, List.range_succ, List.flatMap_append]
theorem fltU_zero (n word sm l) : fltU n word sm l 0 = hdr word l := by simp [fltU]
theorem flt_len (n word sm l i) : (flt n word sm l i).length ≤ 1 := by unfold flt; split <;> (try split) <;> simp
theorem fltU_len (n word sm l) : ∀ k, (fltU n word sm l k).length ≤ k + 1 := by
 intro k
 induction k with
 | zero => rw [fltU_zero]; unfold hdr; split <;> simp
 | succ k ih => rw [fltU_succ]; have := flt_len n word sm l k; simp; omega
def chk (n : Int) (ap be : List (Int × Int)) : List (Int × List UInt8) :=
 fltU n [97, 112, 97, 114, 116] (fun p q => decide (p = q ∨ (p.1 = q.2 ∧ p.2 = q.1))) ap ap.length ++ fltU n [98, 101, 102, 111, 114, 101] (fun p q => decide (p = q)) be be.length
def smR (turned : Bool) (p q : Int × Int) : Bool := decide (q.1 = p.1 ∧ q.2 = p.2) || (turned && decide (q.1 = p.2 ∧ q.2 = p.1))
theorem smR_true : smR true = fun p q => decide (p = q ∨ (p.1 = q.2 ∧ p.2 = q.1)) := by
 funext p q
 simp only [smR, Bool.true_and, or_dec]
 congr 1
 simp only [Prod.ext_iff, eq_iff_iff]
 constructor
 ·rintro (h | h)
  ·exact .inl ⟨h.1.symm, h.2.symm⟩
  ·exact .inr ⟨h.2.symm, h.1.symm⟩
 ·rintro (h | h)
  ·exact .inl ⟨h.1.symm, h.2.symm⟩
  ·exact .inr ⟨h.2.symm, h.1.symm⟩
theorem smR_false : smR false = fun p q => decide (p = q) := by
 funext p q
 simp only [smR, Bool.false_and, Bool.or_false]
 congr 1
 simp only [Prod.ext_iff, eq_iff_iff]
 exact ⟨fun h => ⟨h.1.symm, h.2.symm⟩, fun h => ⟨h.1.symm, h.2.symm⟩⟩
def tw (turned : Bool) (l : List (Int × Int)) (p : Int × Int) (j : Nat) : Bool := (l.take j).any (smR turned p)
theorem tw_zero (turned l p) : tw turned l p 0 = false := by simp [tw]
theorem tw_succ (turned : Bool) (l : List (Int × Int)) (p : Int × Int) (j : Nat) (h : j < l.length) : tw turned l p (j + 1) = (tw turned l p j || smR turned p (nth l j)) := by
 rw [tw, tw, List.take_succ_eq_append_getElem h, List.any_append, nth_get h]
 simp only [List.any_cons, List.any_nil, Bool.or_false]
theorem faults_c (n : Int) (word : List UInt8) (l : List (Int × Int)) (c : Bool) (turned : Bool) (hw : word.length ≤ 1000) (hl : l.length ≤ 1048576) :
  ACalls Tryz.prog 149 [.p (.int .i64 n), .p (.list c (l.map eP)), .p (.str word), .p (.bool turned)] [] fun x H' => x = .sl 0 0 (fltU n word (smR turned) l l.length).length (fltU n word (smR turned) l l.length).length ∧ H' = [.elems 2 ((fltU n word (smR turned) l l.length).map eF)] := by
 refine acalls_freshC [2] (fn := Tryz.f149) (by simp) Tryz.func149 rfl isF149 ?_
 simp (disch := omega) only [Tryz.f149, go_sem, seval]
 refine awp_weak (Weak.ofNil 9 2 (by simp (disch := omega) only [go_sem, seval]) (by simp) (Weak.refl _ _ _)) ?_
 simp (disch := omega) only [go_sem, seval]
 refine awp_join [0, 1, 2, 3] (fun _ : Unit => [(9, .sl 0 0 (hdr word l).length (hdr word l).length)]) (fun _ => [.elems 2 ((hdr word l).map eF)]) (fun _ => True) ?_ ?_
 ·simp (disch := omega) only [go_sem, seval]
  refine acond_b (fun h => ?_) (fun h => ?_) <;> (try simp only [decide_eq_true_eq, decide_eq_false_iff_not] at h) <;> simp (disch := omega) only [Sh.out h, go_sem, seval]
  ·refine ⟨(), Weak.mk ?_⟩
   have h2 : 16 < l.length := by omega
   simp (disch := omega) only [hdr, h2, go_sem, seval]
  ·refine ⟨(), Weak.mk ?_⟩
   have h2 : ¬ 16 < l.length := by omega
   simp (disch := omega) only [hdr, h2, go_sem, seval]
 ·intro _ _
  refine awp_sound [] _ _ _ _ ?_
  simp (disch := omega) only [go_sem, seval]
  refine awp_for [0, 1, 2, 3] (fun k : Nat => [(9, .sl 0 0 (fltU n word (smR turned) l k).length (fltU n word (smR turned) l k).length), (10, .p (.int .i64 k))]) (fun k => [.elems 2 ((fltU n word (smR turned) l k).map eF)]) (fun k => k ≤ l.length) (fun k => l.length - k) 0 (by simp) (Weak.mk ?_) ?_
  ·simp (disch := omega) only [fltU_zero, go_sem, seval]
  ·intro k hk
   have hfl := fltU_len n word (smR turned) l k
   have hdl := dec_len _ k (Nat.lt_succ_self _)
   simp (disch := omega) only [go_sem, seval]
   refine acond_b (fun h => ?_) (fun h => ?_) <;> (try simp only [decide_eq_true_eq, decide_eq_false_iff_not] at h) <;> simp (disch := omega) only [Sh.out h, go_sem, seval]
   ·have hk2 : k < l.length := by omega
    simp (disch := first | omega | (simp only [List.length_cons, List.length_nil, List.length_append, List.length_map, List.length_take, List.length_drop] <;> omega)) only [go_sem, seval]
    refine (rdecimal_c (k : Int) (by omega) (by omega)).use ?_
    simp (disch := first | omega | (simp only [List.length_cons, List.length_nil, List.length_append, List.length_map, List.length_take, List.length_drop] <;> omega)) only [go_sem, seval]
    have hs := fltU_succ n word (smR turned) l k
    have hbad : okP n (nth l k) = false → flt n word (smR turned) l k = [(2, word ++ [32] ++ dec k)] := fun e => by simp [flt, e, atW]
    repeat' (first | (refine aguard_t (fun hq => ?_) (fun hq => ?_) <;> (try simp only [decide_eq_true_eq, decide_eq_false_iff_not, Classical.not_not] at hq) <;> simp (disch := omega) only [Sh.out hq, go_sem, seval]) | (refine aguard_f (fun hq => ?_) (fun hq => ?_) <;> (try simp only [decide_eq_true_eq, decide_eq_false_iff_not, Classical.not_not] at hq) <;> simp (disch := omega) only [Sh.out hq, go_sem, seval]) | (refine acond_b (fun hq => ?_) (fun hq => ?_) <;> (try simp only [decide_eq_true_eq, decide_eq_false_iff_not, Classical.not_not] at hq) <;> simp (disch := omega) only [Sh.out hq, go_sem, seval]))
    all_goals try (
     have e := hbad (by simp [okP]; omega)
     exact ⟨k + 1, by omega, by omega, Weak.mk (by simp (disch := omega) only [hs, e, go_sem, seval])⟩)
    have hok : okP n (nth l k) = true := by simp [okP]; omega
    refine awp_for [0, 1, 2, 3, 9, 10, 11, 12, 13] (fun j : Nat => [(14, .p (.bool (tw turned l (nth l k) j))), (15, .p (.int .i64 j))]) (fun _ => [.elems 2 ((fltU n word (smR turned) l k).map eF)]) (fun j => j ≤ k) (fun j => k - j) 0 (by simp) (Weak.mk ?_) ?_
    ·simp (disch := omega) only [tw_zero, go_sem, seval]
    ·intro j hj
     simp (disch := omega) only [go_sem, seval]
     refine acond_b (fun h4 => ?_) (fun h4 => ?_) <;> (try simp only [decide_eq_true_eq, decide_eq_false_iff_not] at h4) <;> simp (disch := omega) only [Sh.out h4, go_sem, seval]
     ·have hts := tw_succ turned l (nth l k) j (by omega)
      generalize tw turned l (nth l k) j = q at hts ⊢
      repeat' (first | (refine aguard_t (fun hq => ?_) (fun hq => ?_) <;> (try simp only [decide_eq_true_eq, decide_eq_false_iff_not, Classical.not_not] at hq) <;> simp (disch := omega) only [Sh.out hq, go_sem, seval]) | (refine aguard_f (fun hq => ?_) (fun hq => ?_) <;> (try simp only [decide_eq_true_eq, decide_eq_false_iff_not, Classical.not_not] at hq) <;> simp (disch := omega) only [Sh.out hq, go_sem, seval]) | (refine acond_b (fun hq => ?_) (fun hq => ?_) <;> (try simp only [decide_eq_true_eq, decide_eq_false_iff_not, Classical.not_not] at hq) <;> simp (disch := omega) only [Sh.out hq, go_sem, seval]))
      all_goals refine ⟨j + 1, by omega, by omega, Weak.mk ?_⟩
      all_goals clear hs hbad hfl hdl
      all_goals simp (disch := omega) only [hts, go_sem, seval]
      all_goals simp [smR, *]
      all_goals first | omega | (simp [smR, *] at hts; exact hts)
     ·have hjk : j = k := by omega
      subst hjk
      refine acond_b (fun h5 => ?_) (fun h5 => ?_) <;> (try simp only [decide_eq_true_eq, decide_eq_false_iff_not] at h5) <;> simp (disch := omega) only [Sh.out h5, go_sem, seval]
      ·have e : flt n word (smR turned) l j = [(6, word ++ [32] ++ dec j)] := by
        have h6 : (l.take j).any (smR turned (nth l j)) = true := h5
        simp [flt, hok, h6, atW]
       exact ⟨j + 1, by omega, by omega, Weak.mk (by simp (disch := omega) only [hs, e, go_sem, seval])⟩
      ·have e : flt n word (smR turned) l j = [] := by
        have h6 : (l.take j).any (smR turned (nth l j)) = false := h5
        simp only [flt, hok, h6, Bool.true_eq_false, Bool.false_eq_true, if_false]
       exact ⟨j + 1, by omega, by omega, Weak.mk (by simp (disch := omega) only [hs, e, go_sem, seval])⟩
   ·have : k = l.length := by omega
    subst this
    exact ⟨0, by simp (disch := omega) only [go_sem, seval]⟩
theorem rcheck_c (n : Int) (ap be : List (Int × Int)) (c c' : Bool) (hl : ap.length ≤ 1048576) (hl2 : be.length ≤ 1048576) :
  ACalls Tryz.prog 100 [.p (.int .i64 n), .p (.list c (ap.map eP)), .p (.list c' (be.map eP))] [] fun x H' => x = .sl 0 0 (chk n ap be).length (chk n ap be).length ∧ H' = [.elems 2 ((chk n ap be).map eF)] := by
 refine acalls_fresh (fn := Tryz.f100) (by simp) Tryz.func100 rfl isF100 ?_
 simp (disch := omega) only [Tryz.f100, go_sem, seval]
 have h1 := fltU_len n [97, 112, 97, 114, 116] (smR true) ap ap.length
 have h2 := fltU_len n [98, 101, 102, 111, 114, 101] (smR false) be be.length
 refine (faults_c n _ ap c true (by decide) hl).useF ?_
 simp (disch := omega) only [go_sem, seval]
 refine (faults_c n _ be c' false (by decide) hl2).useF ?_
 simp (disch := omega) only [go_sem, seval]
 refine ⟨0, ?_⟩
 rw [chk, ← smR_true, ← smR_false]
 simp (disch := omega) only [go_sem, seval]
end Go.Proofs.YtcdoglogglbemaaGreatDoor.K
set_option linter.unusedVariables false
set_option linter.unusedSimpArgs false
namespace Go.Proofs.YtcdoglogglbemaaGreatDoor.K
open Go Go.AM Go.Proofs
set_option maxRecDepth 8000
set_option maxHeartbeats 16000000
@[go_sem] theorem app1_genm {H : List AM.Obj} {β : Type} {S b o n : Nat} {xs : List PV} {g : β → PV} {m : List β} (hb : (n + m.length) * b ≤ 140737488355328) (hb2 : n + m.length ≤ 140737488355328) :
  app1 H (some (S, b)) (.elems S xs) o n (some (m.map g)) = if xs.length = n ∧ okE S (m.map g) = true then some (.sl o 0 (n + m.length) (n + m.length), ost H o (.elems S (xs ++ m.map g))) else none := by
 rw [app1_gen]
 simp only [List.length_map, hb, hb2, and_true]
def und (word : List UInt8) (f : Flt) : Flt := (f.1, if f.2 = [] then word else word ++ [32] ++ f.2)
theorem under13_c (word : List UInt8) (l : List Flt) (c : Bool) (hword : word.length ≤ 100) (hl : l.length ≤ 4194306000000) (hp : ∀ f ∈ l, pF 100 f) :
  ACalls Tryz.prog 95 [.p (.str word), .p (.list c (l.map eF))] [] fun x H' => x = .sl 0 0 (l.map (und word)).length (l.map (und word)).length ∧ H' = [.elems 2 ((l.map (und word)).map eF)] := by
 suffices hh : ACalls Tryz.prog 95 [.p (.str word), .p (.list c (l.map eF))] [] fun x H' => ∃ m : List Flt, m = l.map (und word) ∧ x = .sl 0 0 m.length m.length ∧ H' = [.elems 2 (m.map eF)] by
  refine hh.mono ?_
  rintro x H' ⟨m, rfl, h1, h2⟩
  exact ⟨h1, h2⟩
 refine acalls_freshE [2] (fn := Tryz.f95) Tryz.func95 rfl isF95 ?_
 simp (disch := omega) only [Tryz.f95, go_sem, seval]
 refine awp_weak (Weak.ofNil 5 2 (by simp (disch := omega) only [go_sem, seval]) (by simp) (Weak.refl _ _ _)) ?_
 refine awp_sound [] _ _ _ _ ?_
 simp (disch := omega) only [go_sem, seval]
 refine awp_for [0, 1] (fun q : Nat × List Flt => [(5, .sl 0 0 q.2.length q.2.length), (6, .p (.int .i64 q.1))]) (fun q => [.elems 2 (q.2.map eF)]) (fun q => q.1 ≤ l.length ∧ q.2 = (l.take q.1).map (und word)) (fun q => l.length - q.1) (0, []) ⟨by simp, by simp⟩ (Weak.mk ?_) ?_
 ·simp (disch := omega) only [go_sem, seval]
 ·rintro ⟨k, m⟩ ⟨hk, hm⟩
  simp only at hk hm
  have hml : m.length ≤ k := by rw [hm]; simp; omega
  simp (disch := omega) only [go_sem, seval]
  refine acond_b (fun h => ?_) (fun h => ?_) <;> (try simp only [decide_eq_true_eq, decide_eq_false_iff_not] at h) <;> simp (disch := omega) only [Sh.out h, go_sem, seval]
  ·have hk2 : k < l.length := by omega
   have hpk := hp _ (nth_mem hk2)
   unfold pF at hpk
   have hnext : ∀ f, f = und word (nth l k) → m ++ [f] = (l.take (k + 1)).map (und word) := fun f hf => by
    rw [hf, hm, List.take_succ_eq_append_getElem hk2, List.map_append, nth_get hk2]; rfl
   refine acond_b (fun h2 => ?_) (fun h2 => ?_) <;> (try simp only [decide_eq_true_eq, decide_eq_false_iff_not] at h2) <;> simp (disch := omega) only [Sh.out h2, go_sem, seval]
   ·have h3 : ¬ (nth l k).2 = [] := by simpa using h2
    simp (disch := first | omega | (simp only [List.length_cons, List.length_nil, List.length_append, List.length_map, List.length_take, List.length_drop] <;> omega)) only [go_sem, seval]
    refine ⟨(k + 1, m ++ [((nth l k).1, word ++ [32] ++ (nth l k).2)]), ⟨by simp only; omega, hnext _ (by simp [und, h3])⟩, by simp only; omega, Weak.mk (by simp (disch := first | omega | (simp only [List.length_cons, List.length_nil, List.length_append, List.length_map, List.length_take, List.length_drop] <;> omega)) only [go_sem, seval])⟩
   ·have h3 : (nth l k).2 = [] := by simpa using h2
    refine ⟨(k + 1, m ++ [((nth l k).1, word)]), ⟨by simp only; omega, hnext _ (by simp [und, h3])⟩, by simp only; omega, Weak.mk (by simp (disch := first | omega | (simp only [List.length_cons, List.length_nil, List.length_append, List.length_map, List.length_take, List.length_drop] <;> omega)) only [go_sem, seval])⟩
  ·have hkn : k = l.length := by omega
   subst hkn
   exact ⟨m, by rw [hm, List.take_length], 0, by simp (disch := omega) only [go_sem, seval]⟩
theorem chk_at {n : Int} {ap be : List (Int × Int)} (ha : ap.length ≤ 1048576) (hb : be.length ≤ 1048576) : ∀ f ∈ chk n ap be, pF 100 f := by
 have key : ∀ (word : List UInt8) (sm : Int × Int → Int × Int → Bool) (l : List (Int × Int)), word.length ≤ 6 → l.length ≤ 1048576 → ∀ f ∈ fltU n word sm l l.length, pF 100 f := fun word sm l hw hl f hf => by
  simp only [fltU, List.mem_append, List.mem_flatMap, List.mem_range] at hf
  rcases hf with hf | ⟨i, hi, hf⟩
  ·unfold hdr at hf; split at hf <;> simp at hf
   subst hf; simp [pF]; omega
  ·have hd := dec_digits 6 i (by omega)
   have : ∀ e : Int, pF 100 (e, atW word i) := fun e => by simp [pF, atW]; omega
   unfold flt at hf
   split at hf
   ·simp at hf; subst hf; exact this _
   ·split at hf <;> simp at hf
    subst hf; exact this _
 intro f hf
 rcases List.mem_append.1 hf with hf | hf
 ·exact key _ _ _ (by simp) ha f hf
 ·exact key _ _ _ (by simp) hb f hf
theorem chk_len {n : Int} {ap be : List (Int × Int)} : (chk n ap be).length ≤ ap.length + be.length + 2 := by
 have h1 := fltU_len n [97, 112, 97, 114, 116] (fun p q => decide (p = q ∨ (p.1 = q.2 ∧ p.2 = q.1))) ap ap.length
 have h2 := fltU_len n [98, 101, 102, 111, 114, 101] (fun p q => decide (p = q)) be be.length
 rw [chk, List.length_append]; omega
structure InstOk (x : Inst) : Prop where
 net : netOk x.net
 types : typesOk x.net x.types
 orders : ordersOk x.net.places.length (dimsOf x.types) x.types.length x.orders
 rules : chk x.orders.length x.apart x.before = []
theorem FR.und {p : Flt → Prop} {C : Prop} {b : Nat} {l : List Flt} (h : FR p C b l) (word : List UInt8) : FR (fun _ => True) C b (l.map (und word)) :=
 ⟨by simpa using h.len, by rw [List.map_eq_nil_iff]; exact h.emp, fun _ _ => trivial⟩
theorem ck13_c (x : Inst) (hw : x.wf 1048576) : ACalls Tryz.prog 34 [.p (eInst x)] [] fun y H' => ∃ m : List Flt, FR (fun _ => True) (InstOk x) 4194400000000 m ∧ y = .sl 0 0 m.length m.length ∧ H' = [.elems 2 (m.map eF)] := by
 obtain ⟨w1, w2, w3, w4, w5, w6, w7, w8, w9⟩ := hw
 refine acalls_freshE [] (fn := Tryz.f34) Tryz.func34 rfl isF34 ?_
 simp (disch := omega) only [Tryz.f34, go_sem, seval]
 have ol := ordersF_len x.net.places.length (dimsOf x.types) x.types.length x.orders x.orders.length
 have oat := ordersF_at (np := x.net.places.length) (d := dimsOf x.types) (ty := x.types.length) w4
 have onil := ordersF_nil (np := x.net.places.length) (d := dimsOf x.types) (ty := x.types.length) (l := x.orders)
 have cl := chk_len (n := x.orders.length) (ap := x.apart) (be := x.before)
 have cat := chk_at (n := x.orders.length) w6 w8
 refine ((ck09_c x.net w1).frozenE).useV fun m1 h1 => ?_
 simp (disch := omega) only [go_sem, seval]
 have h1p := h1.pmono (q := pF 100) fun f hf => hf.mono (by omega)
 have u1 := under13_c [110, 101, 116] m1 false (by simp) h1.len h1p.all
 have f1 := h1.und [110, 101, 116]
 generalize m1.map (und [110, 101, 116]) = q1 at u1 f1
 have f1l := f1.len
 refine (u1).useF ?_
 simp (disch := omega) only [go_sem, seval]
 refine ((ck10_c x.net x.types x.types_c w1 w2 w3).frozenE).useV fun m2 h2 => ?_
 simp (disch := omega) only [go_sem, seval]
 have h2p := h2.pmono (q := pF 100) fun f hf => hf.mono (by omega)
 have h2l := h2.len
 have u2 := (under13_c [116, 121, 112, 101, 115] m2 false (by simp) (by omega) h2p.all).frozen (by simp)
 have f2 := h2.und [116, 121, 112, 101, 115]
 generalize m2.map (und [116, 121, 112, 101, 115]) = q2 at u2 f2
 have f2l := f2.len
 refine (u2).use ?_
 simp (disch := omega) only [go_sem, seval]
 have u3 := (under13_c [111, 114, 100, 101, 114, 115] (ordersF x.net.places.length (dimsOf x.types) x.types.length x.orders x.orders.length) false (by simp) (by omega) fun f hf => (oat f hf).mono (by omega)).frozen (by simp)
 have f3 := (show FR (fun _ => True) (ordersOk x.net.places.length (dimsOf x.types) x.types.length x.orders) (1 + 8 * x.orders.length) (ordersF x.net.places.length (dimsOf x.types) x.types.length x.orders x.orders.length) from ⟨ol, onil, fun _ _ => trivial⟩).und [111, 114, 100, 101, 114, 115]
 generalize (ordersF x.net.places.length (dimsOf x.types) x.types.length x.orders x.orders.length).map (und [111, 114, 100, 101, 114, 115]) = q3 at u3 f3
 have f3l := f3.len
 refine awp_drawnS 13 mixed (by kernel_rfl) (by kernel_rfl) ?_
 simp (disch := omega) only [go_sem, seval]
 refine exq_call (dims10_c x.types x.types_c w2) ?_
 simp (disch := omega) only [go_sem, seval]
 refine exq_call ((ck11_c x.net (dimsOf x.types) x.types.length x.orders x.orders_c w1 w4 w5).frozen (by simp)) ?_
 simp (disch := omega) only [go_sem, seval]
 refine exq_call (u3) ?_
 simp (disch := omega) only [go_sem, seval]
 have u4 := (under13_c [114, 117, 108, 101, 115] (chk x.orders.length x.apart x.before) false (by simp) (by omega) cat).frozen (by simp)
 have f4 := (show FR (fun _ => True) (chk x.orders.length x.apart x.before = []) (x.apart.length + x.before.length + 2) (chk x.orders.length x.apart x.before) from ⟨cl, Iff.rfl, fun _ _ => trivial⟩).und [114, 117, 108, 101, 115]
 generalize (chk x.orders.length x.apart x.before).map (und [114, 117, 108, 101, 115]) = q4 at u4 f4
 have f4l := f4.len
 refine ((rcheck_c x.orders.length x.apart x.before x.apart_c x.before_c w6 w8).frozen (by simp)).use ?_
 simp (disch := omega) only [go_sem, seval]
 refine (u4).use ?_
 simp (disch := omega) only [go_sem, seval]
 refine ⟨q1 ++ q2 ++ q3 ++ q4, ((f1.app f2).app f3 |>.app f4).to (by omega) ⟨fun ⟨⟨⟨a, b⟩, c⟩, d⟩ => ⟨a, b, c, d⟩, fun h => ⟨⟨⟨h.net, h.types⟩, h.orders⟩, h.rules⟩⟩, 1, ?_⟩
 simp (disch := omega) only [go_sem, seval]
end Go.Proofs.YtcdoglogglbemaaGreatDoor.K
set_option linter.unusedVariables false
set_option linter.unusedSimpArgs false
namespace Go.Proofs.YtcdoglogglbemaaGreatDoor.K
open Go Go.AM Go.Proofs
def instO (x : Inst) : AM.Obj := .cells [.p (.list x.net.places_c (x.net.places.map eS)), .p (.list x.net.arcs_c (x.net.arcs.map eArc)), .p (.list x.types_c (x.types.map eTyp)), .p (.list x.orders_c (x.orders.map eOrd)), .p (.list x.apart_c (x.apart.map eP)), .p (.list x.before_c (x.before.map eP))]
def zSco : Sco := ⟨0, 0, 0, 0⟩
end Go.Proofs.YtcdoglogglbemaaGreatDoor.K
set_option linter.unusedVariables false
set_option linter.unusedSimpArgs false
namespace Go.Proofs.YtcdoglogglbemaaGreatDoor.K
open Go Go.AM Go.Proofs
set_option maxRecDepth 8000
set_option maxHeartbeats 8000000
theorem and_one (a : Int) : IntKind.i64.wrap ((BitVec.ofInt 64 a &&& BitVec.ofInt 64 1).toNat : Int) = a % 2 := by
 have h : ((BitVec.ofInt 64 a &&& BitVec.ofInt 64 1).toNat : Int) = a % 2 := by
  rw [BitVec.toNat_and]
  have : (BitVec.ofInt 64 1).toNat = 1 := by decide
  rw [this, Nat.and_one_is_mod]
  have : ((BitVec.ofInt 64 a).toNat : Int) = a % 2 ^ 64 := by simp [BitVec.toNat_ofInt]; omega
  omega
 rw [h]
 exact IntWalk.i64_in _ (by omega)
def sHas (s i : Int) : Bool := decide (0 ≤ i) && decide (i ≤ 62) && decide (s.fdiv (2 ^ i.toNat) % 2 = 1)
theorem has_c (s i : Int) : ACalls Tryz.prog 41 [.p (.int .i64 s), .p (.int .i64 i)] [] fun x H' => x = .p (.bool (sHas s i)) ∧ H' = [] := by
 refine acalls_pure (fn := Tryz.f41) Tryz.func41 rfl isF41 ?_
 simp (disch := omega) only [Tryz.f41, go_sem, seval]
 refine aguard_t (fun h => ?_) (fun h => ?_) <;> (try simp only [decide_eq_true_eq, decide_eq_false_iff_not] at h) <;> simp (disch := omega) only [Sh.out h, go_sem, seval]
 ·refine aguard_t (fun h1 => ?_) (fun h1 => ?_) <;> (try simp only [decide_eq_true_eq, decide_eq_false_iff_not] at h1) <;> simp (disch := omega) only [Sh.out h1, go_sem, seval]
  ·have : min i.toNat 64 = i.toNat := by omega
   rw [this]
   erw [and_one]
   simp [sHas, h, h1]
  ·simp [sHas, h, h1]
 ·simp [sHas, h]
def memU (s : Int) (k : Nat) : List Int := ((List.range k).filter fun (i : Nat) => sHas s (i : Int)).map fun (i : Nat) => (i : Int)
theorem memU_zero (s : Int) : memU s 0 = [] := by simp [memU]
theorem memU_yes {s : Int} {k : Nat} (h : sHas s (k : Int) = true) : memU s (k + 1) = memU s k ++ [(k : Int)] := by simp [memU, List.range_succ, List.filter_append, h]
theorem memU_no {s : Int} {k : Nat} (h : sHas s (k : Int) = false) : memU s (k + 1) = memU s k := by simp [memU, List.range_succ, List.filter_append, h]
theorem memU_len (s : Int) (k : Nat) : (memU s k).length ≤ k := by
 simp only [memU, List.length_map]
 exact Nat.le_trans (List.length_filter_le _ _) (by simp)
theorem members_c (s : Int) : ACalls Tryz.prog 43 [.p (.int .i64 s)] [] fun x H' => x = .sl 0 0 (memU s 63).length (memU s 63).length ∧ H' = [.elems 1 ((memU s 63).map eI)] := by
 refine acalls_fresh (fn := Tryz.f43) (by simp) Tryz.func43 rfl isF43 ?_
 simp (disch := omega) only [Tryz.f43, go_sem, seval]
 refine awp_for [0] (fun k : Nat => [(3, .sl 0 0 (memU s k).length (memU s k).length), (5, .p (.int .i64 k))]) (fun k => [.elems 1 ((memU s k).map eI)]) (fun k => k ≤ 63) (fun k => 63 - k) 0 (by simp) (Weak.ofNil 3 1 (by simp (disch := omega) only [go_sem, seval]) (by simp) (Weak.mk ?_)) ?_
 ·simp (disch := omega) only [memU_zero, go_sem, seval]
 ·intro k hk
  have hl := memU_len s k
  simp (disch := omega) only [go_sem, seval]
  refine acond_b (fun h => ?_) (fun h => ?_) <;> (try simp only [decide_eq_true_eq, decide_eq_false_iff_not] at h) <;> simp (disch := omega) only [Sh.out h, go_sem, seval]
  ·refine (has_c s k).use ?_
   simp (disch := omega) only [go_sem, seval]
   refine acond_b (fun h2 => ?_) (fun h2 => ?_) <;> (try simp only [decide_eq_true_eq, decide_eq_false_iff_not] at h2) <;> simp (disch := omega) only [Sh.out h2, go_sem, seval]
   ·refine ⟨k + 1, by omega, by omega, Weak.mk ?_⟩
    simp (disch := omega) only [memU_yes h2, go_sem, seval]
   ·exact ⟨k + 1, by omega, by omega, Weak.mk (by simp (disch := omega) only [memU_no h2, go_sem, seval])⟩
  ·have : k = 63 := by omega
   subst this
   exact ⟨0, by simp (disch := omega) only [go_sem, seval]⟩
def eN (n : Nat) : PV := .int .i64 (n : Int)
@[go_sem] theorem eN_eq (n : Nat) : eN n = .int .i64 (n : Int) := Eq.trans rfl rfl
theorem chains_c (n : Nat) (be : List (Int × Int)) (c : Bool) (hn : n ≤ 60) (hl : be.length ≤ 1048576) (hv : Val n be) :
  ACalls Tryz.prog 151 [.p (.int .i64 (n : Int)), .p (.list c (be.map eP))] [] fun x H' => x = .sl 0 0 n n ∧ H' = [.elems 1 ((cloOf n be).map eN)] := by
 refine acalls_fresh (fn := Tryz.f151) (by simpa using (clo_of hv).len) Tryz.func151 rfl isF151 ?_
 simp (disch := omega) only [Tryz.f151, go_sem, seval]
 have hp60 : pw n ≤ pw 62 := pw_le (by omega)
 have h62 := pw_62
 refine awp_for [0, 1] (fun q : List Nat × Bool => [(5, .sl 0 0 n n), (6, .p (.bool q.2))]) (fun q => [.elems 1 (q.1.map eN)]) (fun q => Snd n be q.1 ∧ (q.2 = false → tot (pas q.1 be) = tot q.1)) (fun q => 2 * (n * pw n - tot q.1) + (if q.2 then 1 else 0)) (List.replicate n 0, true) ⟨Snd.zero n be, by simp⟩ (Weak.mk ?_) ?_
 ·simp (disch := omega) only [List.map_replicate, go_sem, seval]
 ·rintro ⟨out, more⟩ ⟨hs, hm⟩
  simp only at hs hm
  simp (disch := omega) only [go_sem, seval]
  refine acond_b (fun h => ?_) (fun h => ?_) <;> (try simp only [decide_eq_true_eq, decide_eq_false_iff_not] at h) <;> simp (disch := omega) only [Sh.out h, go_sem, seval]
  ·have hrs : ∀ i, Snd n be (pas out (be.take i)) := fun i => hs.rnd hv _ fun p hp => List.mem_of_mem_take hp
   have hsuc : ∀ i, i < be.length → pas out (be.take (i + 1)) = cst (pas out (be.take i)) (nth be i) := fun i hi => by
    rw [List.take_succ_eq_append_getElem hi, pas_append, ← nth_get hi]; rfl
   refine awp_for [0, 1, 16, 17] (fun i : Nat => [(5, .sl 0 0 n n), (6, .p (.bool (decide (tot out < tot (pas out (be.take i)))))), (18, .p (.int .i64 i))]) (fun i => [.elems 1 ((pas out (be.take i)).map eN)]) (fun i => i ≤ be.length) (fun i => be.length - i) 0 (by simp) (Weak.mk ?_) ?_
   ·simp (disch := omega) only [pas, List.take_zero, List.foldl_nil, go_sem, seval]
    simp
   ·intro i hi
    have hsi := hrs i
    generalize hgo : pas out (be.take i) = o at hsi ⊢
    have hlo := hsi.len
    simp (disch := omega) only [go_sem, seval]
    refine acond_b (fun h2 => ?_) (fun h2 => ?_) <;> (try simp only [decide_eq_true_eq, decide_eq_false_iff_not] at h2) <;> simp (disch := omega) only [Sh.out h2, go_sem, seval]
    ·have hib : i < be.length := by omega
     have hvi := hv (nth be i) (by rw [nth_get hib]; exact List.getElem_mem _)
     have g1 : ¬ (nth be i).1 < 0 := by omega
     have g2 : ¬ (nth be i).2 < 0 := by omega
     have g3 : ¬ (n : Int) ≤ (nth be i).1 := by omega
     have g4 : ¬ (n : Int) ≤ (nth be i).2 := by omega
     have g5 : (nth be i).1.toNat < n := by omega
     have g6 : (nth be i).2.toNat < n := by omega
     have b1 := hsi.lt _ g5
     have b2 := hsi.lt _ g6
     have b3 : nth o (nth be i).2.toNat ||| nth o (nth be i).1.toNat < pw n := Nat.or_lt_two_pow b2 b1
     have b4 : pw (nth be i).1.toNat ≤ pw 62 := pw_le (by omega)
     have hst := cst_tot o (nth be i) (by omega)
     have hnx := hsuc i hib
     rw [hgo] at hnx
     refine awp_drawnF mixed (by kernel_rfl) ?_
     simp (disch := omega) only [hlo, g1, g2, g3, g4, go_sem, seval]
     refine awp_drawnF mixed (by kernel_rfl) ?_
     simp (disch := first | omega | (simp only [List.length_cons, List.length_nil, List.length_append, List.length_map, List.length_take, List.length_drop] <;> omega)) only [hlo, g5, g6, elt_map, go_sem, seval]
     have htm : tot out ≤ tot o := by
      have := (pas_tot hv (be.take i) out (fun p hp => List.mem_of_mem_take hp) hs).1
      rwa [hgo] at this
     have hsv : o.set (nth be i).2.toNat (nth o (nth be i).2.toNat ||| nth o (nth be i).1.toNat ||| pw (nth be i).1.toNat) = cst o (nth be i) := rfl
     refine acond_b (fun h3 => ?_) (fun h3 => ?_) <;> (try simp only [decide_eq_true_eq, decide_eq_false_iff_not] at h3) <;> simp (disch := omega) only [Sh.out h3, hlo, go_sem, seval]
     ·have hne : ¬ cst o (nth be i) = o := fun e => by
       apply h3
       have e2 : nth (cst o (nth be i)) (nth be i).2.toNat = nth o (nth be i).2.toNat := by rw [e]
       rw [cst, nth_set _ _ _ _ (by omega)] at e2
       simp only [if_true] at e2
       rw [e2]
      have hlt : tot out < tot (cst o (nth be i)) := by
       have h5 := hst.1
       have h6 : tot (cst o (nth be i)) ≠ tot o := fun e => hne (hst.2 e)
       omega
      simp (disch := first | omega | (simp only [List.length_cons, List.length_nil, List.length_append, List.length_map, List.length_take, List.length_drop] <;> omega)) only [hlo, g6, go_sem, seval]
      refine ⟨i + 1, by omega, by omega, Weak.mk ?_⟩
      simp (disch := omega) only [hnx, hlt, go_sem, seval]
      rw [← hsv, List.map_set]
      rfl
     ·have heq : cst o (nth be i) = o := by
       have e : nth o (nth be i).2.toNat ||| nth o (nth be i).1.toNat ||| pw (nth be i).1.toNat = nth o (nth be i).2.toNat := by simp only [Classical.not_not] at h3; exact_mod_cast h3
       rw [← hsv, e]
       apply List.ext_getElem (by simp)
       intro k hk1 hk2
       rw [List.getElem_set]
       split
       ·rename_i hk; subst hk; rw [nth_get hk2]
       ·rfl
      refine ⟨i + 1, by omega, by omega, Weak.mk ?_⟩
      simp (disch := omega) only [hnx, heq, go_sem, seval]
    ·have hi2 : i = be.length := by omega
     subst hi2
     rw [List.take_length] at hgo
     subst hgo
     have hpt := pas_tot hv be out (fun _ h => h) hs
     have hbd := hsi.bound
     refine ⟨(pas out be, decide (tot out < tot (pas out be))), ⟨hsi, fun e => ?_⟩, ?_, Weak.mk ?_⟩
     ·simp only [decide_eq_false_iff_not] at e
      have e2 : tot (pas out be) = tot out := by have := hpt.1; omega
      rw [(hpt.2 e2).1, e2]
     ·simp only
      rw [h]
      by_cases h7 : tot out < tot (pas out be)
      ·simp only [h7, decide_true, if_true]
       omega
      ·simp only [h7, decide_false, if_true]
       have := hpt.1
       simp
       omega
     ·simp (disch := omega) only [go_sem, seval]
  ·refine ⟨0, ?_⟩
   have : out = cloOf n be := (cloOf_eq hv (hs.clo hv (hm h))).symm
   rw [this]
   simp (disch := omega) only [go_sem, seval]
def hv (s k : Nat) : Nat := s / pw k
theorem hv_zero (s : Nat) : hv s 0 = s := by simp [hv, pw]
theorem hv_succ (s k : Nat) : hv s (k + 1) = hv s k / 2 := by rw [hv, hv, pw_succ, Nat.mul_comm, ← Nat.div_div_eq_div_mul]
theorem hv_le (s k : Nat) : hv s k ≤ s := Nat.div_le_self _ _
theorem hv_bit (s k : Nat) : s.testBit k = decide (hv s k % 2 = 1) := by
 rw [Nat.testBit_eq_decide_div_mod_eq]
 rfl
theorem sHas_nat (s i : Nat) (hi : i ≤ 62) : sHas (s : Int) (i : Int) = s.testBit i := by
 rw [hv_bit, hv]
 have h1 : (0 : Int) ≤ i := by omega
 have h2 : (i : Int) ≤ 62 := by omega
 simp only [sHas, h1, h2, decide_true, Bool.true_and, Int.toNat_natCast]
 have e : ((s : Int)).fdiv (2 ^ i) = ((s / pw i : Nat) : Int) := by
  have : (2 : Int) ^ i = ((pw i : Nat) : Int) := by simp [pw]
  rw [this, Int.fdiv_eq_ediv_of_nonneg _ (by omega)]
  simp
 simp only [e]
 rw [Bool.eq_iff_iff]
 simp only [decide_eq_true_eq]
 omega
theorem any_yes {α : Type} [Inhabited α] {l : List α} {f : α → Bool} {k : Nat} (h : k < l.length) (hf : f (nth l k) = true) : l.any f = true := by
 rw [List.any_eq_true]; exact ⟨nth l k, by rw [nth_get h]; exact List.getElem_mem _, hf⟩
theorem any_no {α : Type} [Inhabited α] {l : List α} {f : α → Bool} (h : ∀ j, j < l.length → f (nth l j) = false) : l.any f = false := by
 rw [List.any_eq_false]
 intro x hx
 obtain ⟨j, hj, rfl⟩ := List.mem_iff_getElem.1 hx
 rw [← nth_get hj, h j hj]; simp
end Go.Proofs.YtcdoglogglbemaaGreatDoor.K
set_option linter.unusedVariables false
set_option linter.unusedSimpArgs false
namespace Go.Proofs.YtcdoglogglbemaaGreatDoor.K
open Go Go.AM Go.Proofs
set_option maxRecDepth 8000
set_option maxHeartbeats 8000000
noncomputable def needsOf (n : Nat) (be : List (Int × Int)) (i : Int) : Nat := if 0 ≤ i ∧ i < n then nth (cloOf n be) i.toNat ||| pw i.toNat else 0
theorem needs_c (x : Inst) (i : Int) (hn : x.orders.length ≤ 60) (hl : x.before.length ≤ 1048576) (hv : Val x.orders.length x.before) :
  ACalls Tryz.prog 103 [.p (eInst x), .p (.int .i64 i)] [] fun y H' => y = .p (.int .i64 (needsOf x.orders.length x.before i : Nat)) ∧ H' = [] := by
 have hc := clo_of hv
 have hlen := hc.len
 refine acalls_pure (fn := Tryz.f103) Tryz.func103 rfl isF103 ?_
 simp (disch := omega) only [Tryz.f103, go_sem, seval]
 refine aguard_f (fun h => ?_) (fun h => ?_) <;> (try simp only [decide_eq_true_eq, decide_eq_false_iff_not] at h) <;> simp (disch := omega) only [Sh.out h, go_sem, seval]
 ·have : ¬ 0 ≤ i := by omega
  simp [needsOf, this]
 ·refine acond_b (fun h4 => ?_) (fun h4 => ?_) <;> (try simp only [decide_eq_true_eq, decide_eq_false_iff_not] at h4) <;> simp (disch := omega) only [Sh.out h4, go_sem, seval]
  ·have : ¬ i < x.orders.length := by omega
   simp [needsOf, this]
  ·have g : 0 ≤ i ∧ i < x.orders.length := by omega
   have g2 : i.toNat < x.orders.length := by omega
   have b1 := hc.lt _ g2
   have b2 : pw x.orders.length ≤ pw 62 := pw_le (by omega)
   have b3 := pw_62
   have b4 : pw i.toNat ≤ pw 62 := pw_le (by omega)
   refine awp_drawnF mixed (by kernel_rfl) ?_
   simp (disch := omega) only [go_sem, seval]
   refine exq_call ((chains_c x.orders.length x.before _ hn hl hv).frozen (by simpa using hlen)) ?_
   simp (disch := omega) only [hlen, go_sem, seval]
   simp [needsOf, g]
theorem bit_c (n : Nat) (hn : n ≤ 62) : ACalls Tryz.prog 67 [.p (.int .i64 n)] [] fun x H' => x = .p (.int .i64 (pw n : Nat)) ∧ H' = [] := by
 refine acalls_pure (fn := Tryz.f67) Tryz.func67 rfl isF67 ?_
 simp (disch := omega) only [Tryz.f67, go_sem, seval]
 refine awp_for [0] (fun k : Nat => [(3, .p (.int .i64 (pw k : Nat))), (4, .p (.int .i64 k))]) (fun _ => []) (fun k => k ≤ n) (fun k => n - k) 0 (by simp) (Weak.mk ?_) ?_
 ·simp (disch := omega) only [go_sem, seval]
  simp [pw]
 ·intro k hk
  have h62 : pw k ≤ pw 62 := pw_le (by omega)
  have h63 : k < n → pw (k + 1) ≤ pw 62 := fun h => pw_le (by omega)
  have h64 := pw_succ k
  have h65 := pw_62
  simp (disch := omega) only [go_sem, seval]
  refine acond_b (fun h => ?_) (fun h => ?_) <;> (try simp only [decide_eq_true_eq, decide_eq_false_iff_not] at h) <;> simp (disch := omega) only [Sh.out h, go_sem, seval]
  ·exact ⟨k + 1, by omega, by omega, Weak.mk (by simp (disch := omega) only [go_sem, seval]; simp [h64])⟩
  ·have : k = n := by omega
   rw [this]
theorem rhas_c (s : Nat) (i : Nat) (hs : s < 9223372036854775808) (hi : i ≤ 64) : ACalls Tryz.prog 65 [.p (.int .i64 s), .p (.int .i64 i)] [] fun x H' => x = .p (.bool (s.testBit i)) ∧ H' = [] := by
 refine acalls_pure (fn := Tryz.f65) Tryz.func65 rfl isF65 ?_
 simp (disch := omega) only [Tryz.f65, go_sem, seval]
 refine awp_for [1] (fun k : Nat => [(0, .p (.int .i64 (hv s k : Nat))), (5, .p (.int .i64 k))]) (fun _ => []) (fun k => k ≤ i) (fun k => i - k) 0 (by simp) (Weak.mk ?_) ?_
 ·simp (disch := omega) only [hv_zero, go_sem, seval]
 ·intro k hk
  have e1 := hv_succ s k
  have h1 := hv_le s k
  simp (disch := omega) only [go_sem, seval]
  refine acond_b (fun h => ?_) (fun h => ?_) <;> (try simp only [decide_eq_true_eq, decide_eq_false_iff_not] at h) <;> simp (disch := omega) only [Sh.out h, go_sem, seval]
  ·exact ⟨k + 1, by omega, by omega, Weak.mk (by simp (disch := omega) only [go_sem, seval]; simp only [e1, and_true, PV.int.injEq, true_and]; omega)⟩
  ·have : k = i := by omega
   subst this
   rw [hv_bit]
   have : ((hv s k : Nat) : Int) % 2 = 1 ↔ hv s k % 2 = 1 := by omega
   simp only [this]
theorem rhas_i (s : Nat) (i : Int) (hs : s < 9223372036854775808) (h0 : 0 ≤ i) (hi : i ≤ 64) : ACalls Tryz.prog 65 [.p (.int .i64 s), .p (.int .i64 i)] [] fun x H' => x = .p (.bool (s.testBit i.toNat)) ∧ H' = [] := by
 obtain ⟨n, rfl⟩ : ∃ n : Nat, i = (n : Int) := ⟨i.toNat, by omega⟩
 exact rhas_c s n hs (by omega)
theorem bit_i (i : Int) (h0 : 0 ≤ i) (hi : i ≤ 62) : ACalls Tryz.prog 67 [.p (.int .i64 i)] [] fun x H' => x = .p (.int .i64 (pw i.toNat : Nat)) ∧ H' = [] := by
 obtain ⟨n, rfl⟩ : ∃ n : Nat, i = (n : Int) := ⟨i.toNat, by omega⟩
 exact bit_c n (by omega)
theorem reach_c (n : Nat) (be : List (Int × Int)) (c : Bool) (fr : Nat) (hn : n ≤ 60) (hl : be.length ≤ 1048576) (hv : Val n be) :
  ACalls Tryz.prog 66 [.p (.int .i64 (n : Int)), .p (.list c (be.map eP)), .p (.int .i64 (fr : Int))] [] fun x H' => x = .p (.int .i64 (rch n be fr : Nat)) ∧ H' = [] := by
 refine acalls_pure (fn := Tryz.f66) Tryz.func66 rfl isF66 ?_
 simp (disch := omega) only [Tryz.f66, go_sem, seval]
 have hp60 : pw n ≤ pw 62 := pw_le (by omega)
 have h62 := pw_62
 refine awp_for [0, 1, 2] (fun k : Nat => [(7, .p (.int .i64 (rrnd fr be k : Nat))), (8, .p (.int .i64 k))]) (fun _ => []) (fun k => k ≤ n + 1) (fun k => n + 1 - k) 0 (by simp) (Weak.mk ?_) ?_
 ·simp (disch := omega) only [rrnd, go_sem, seval]
 ·intro k hk
  have hs0 := RSnd.rnd (fr := fr) hv k
  simp (disch := omega) only [go_sem, seval]
  refine acond_b (fun h => ?_) (fun h => ?_) <;> (try simp only [decide_eq_true_eq, decide_eq_false_iff_not] at h) <;> simp (disch := omega) only [Sh.out h, go_sem, seval]
  ·refine awp_for [0, 1, 2, 8] (fun i : Nat => [(7, .p (.int .i64 (rpas fr (rrnd fr be k) (be.take i) : Nat))), (9, .p (.int .i64 i))]) (fun _ => []) (fun i => i ≤ be.length) (fun i => be.length - i) 0 (by simp) (Weak.mk ?_) ?_
   ·simp (disch := omega) only [rpas, List.take_zero, List.foldl_nil, go_sem, seval]
   ·intro i hi
    have hs := hs0.pas hv (be.take i) fun p hp => List.mem_of_mem_take hp
    have hlt := hs.lt
    simp (disch := omega) only [go_sem, seval]
    refine acond_b (fun h2 => ?_) (fun h2 => ?_) <;> (try simp only [decide_eq_true_eq, decide_eq_false_iff_not] at h2) <;> simp (disch := omega) only [Sh.out h2, go_sem, seval]
    ·have hib : i < be.length := by omega
     have hvi := hv (nth be i) (by rw [nth_get hib]; exact List.getElem_mem _)
     have hnx : rpas fr (rrnd fr be k) (be.take (i + 1)) = rstp fr (rpas fr (rrnd fr be k) (be.take i)) (nth be i) := by
      rw [List.take_succ_eq_append_getElem hib, rpas, List.foldl_append, ← nth_get hib]; rfl
     generalize rpas fr (rrnd fr be k) (be.take i) = s at hnx hlt ⊢
     have hb62 : pw (nth be i).2.toNat ≤ pw 62 := pw_le (by omega)
     refine aguard_f (fun h3 => ?_) (fun h3 => ?_) <;> (try simp only [decide_eq_true_eq, decide_eq_false_iff_not] at h3) <;> simp (disch := omega) only [Sh.out h3, go_sem, seval]
     ·have e3 : (nth be i).1.toNat = fr := by omega
      refine (rhas_i s (nth be i).2 (by omega) (by omega) (by omega)).use ?_
      simp (disch := omega) only [go_sem, seval]
      refine acond_b (fun h4 => ?_) (fun h4 => ?_) <;> (try simp only [decide_eq_true_eq, decide_eq_false_iff_not] at h4) <;> simp (disch := omega) only [Sh.out h4, go_sem, seval]
      ·refine (bit_i (nth be i).2 (by omega) (by omega)).use ?_
       simp (disch := omega) only [go_sem, seval]
       exact ⟨i + 1, by omega, by omega, Weak.mk (by simp (disch := omega) only [hnx, go_sem, seval]; simp at h4; simp [rstp, h4, e3])⟩
      ·exact ⟨i + 1, by omega, by omega, Weak.mk (by simp (disch := omega) only [hnx, go_sem, seval]; simp at h4; simp [rstp, h4])⟩
     ·have e3 : ¬ (nth be i).1.toNat = fr := by omega
      refine (rhas_i s (nth be i).1 (by omega) (by omega) (by omega)).use ?_
      simp (disch := omega) only [go_sem, seval]
      refine aguard_t (fun h5 => ?_) (fun h5 => ?_) <;> (try simp only [decide_eq_true_eq, decide_eq_false_iff_not] at h5) <;> simp (disch := omega) only [Sh.out h5, go_sem, seval]
      ·refine (rhas_i s (nth be i).2 (by omega) (by omega) (by omega)).use ?_
       simp (disch := omega) only [go_sem, seval]
       refine acond_b (fun h4 => ?_) (fun h4 => ?_) <;> (try simp only [decide_eq_true_eq, decide_eq_false_iff_not] at h4) <;> simp (disch := omega) only [Sh.out h4, go_sem, seval]
       ·refine (bit_i (nth be i).2 (by omega) (by omega)).use ?_
        simp (disch := omega) only [go_sem, seval]
        exact ⟨i + 1, by omega, by omega, Weak.mk (by simp (disch := omega) only [hnx, go_sem, seval]; simp at h4; simp [rstp, h4, h5])⟩
       ·exact ⟨i + 1, by omega, by omega, Weak.mk (by simp (disch := omega) only [hnx, go_sem, seval]; simp at h4; simp [rstp, h4])⟩
      ·exact ⟨i + 1, by omega, by omega, Weak.mk (by simp (disch := omega) only [hnx, go_sem, seval]; simp [rstp, h5, e3])⟩
    ·have hi2 : i = be.length := by omega
     subst hi2
     rw [List.take_length]
     refine ⟨k + 1, by omega, by omega, Weak.mk ?_⟩
     simp (disch := omega) only [rrnd, go_sem, seval]
  ·have : k = n + 1 := by omega
   subst this
   rw [rrnd_rch hv]
noncomputable def ndp (n : Nat) (be : List (Int × Int)) (o i : Nat) : Bool := decide (i = o) || (rch n be i).testBit o
theorem needsOf_set {n : Nat} {be : List (Int × Int)} (hv : Val n be) {o : Nat} (ho : o < n) : setOf (ndp n be o) n = needsOf n be (o : Int) := by
 have hc := clo_of hv
 symm
 have e : needsOf n be (o : Int) = nth (cloOf n be) o ||| pw o := by
  have : 0 ≤ (o : Int) ∧ (o : Int) < n := by omega
  simp [needsOf, this]
 rw [e]
 refine setOf_of ?_ fun j hj => ?_
 ·have h1 := hc.lt o ho
  have h2 : pw o < pw n := by
   have := pw_succ o
   have h5 : pw (o + 1) ≤ pw n := pw_le (by omega)
   have := pw_pos o
   omega
  exact Nat.or_lt_two_pow h1 h2
 ·rw [Nat.testBit_or, testBit_pw, ndp, rch_bit]
  have : (j = o) = (o = j) := by simp [eq_comm]
  simp only [ho, decide_true, Bool.true_and, this, Bool.or_comm]
theorem rneeds_c (x : Inst) (i : Int) (hn : x.orders.length ≤ 60) (hl : x.before.length ≤ 1048576) (hv : Val x.orders.length x.before) :
  ACalls Tryz.prog 21 [.p (eInst x), .p (.int .i64 i)] [] fun y H' => y = .p (.int .i64 (needsOf x.orders.length x.before i : Nat)) ∧ H' = [] := by
 have hp60 : pw x.orders.length ≤ pw 62 := pw_le (by omega)
 have h62 := pw_62
 refine acalls_pure (fn := Tryz.f21) Tryz.func21 rfl isF21 ?_
 simp (disch := omega) only [Tryz.f21, go_sem, seval]
 refine aguard_f (fun h => ?_) (fun h => ?_) <;> (try simp only [decide_eq_true_eq, decide_eq_false_iff_not] at h) <;> simp (disch := omega) only [Sh.out h, go_sem, seval]
 ·have : ¬ 0 ≤ i := by omega
  simp [needsOf, this]
 ·refine acond_b (fun h4 => ?_) (fun h4 => ?_) <;> (try simp only [decide_eq_true_eq, decide_eq_false_iff_not] at h4) <;> simp (disch := omega) only [Sh.out h4, go_sem, seval]
  ·have : ¬ i < x.orders.length := by omega
   simp [needsOf, this]
  ·obtain ⟨o, rfl⟩ : ∃ o : Nat, i = (o : Int) := ⟨i.toNat, by omega⟩
   have ho : o < x.orders.length := by omega
   rw [← needsOf_set hv ho]
   refine awp_for [1, 2, 5] (fun k : Nat => [(6, .p (.int .i64 (setOf (ndp x.orders.length x.before o) k : Nat))), (7, .p (.int .i64 k))]) (fun _ => [instO x]) (fun k => k ≤ x.orders.length) (fun k => x.orders.length - k) 0 (by simp) (Weak.mk ?_) ?_
   ·simp (disch := omega) only [instO, setOf, go_sem, seval]
   ·intro k hk
    have hsl := setOf_lt (ndp x.orders.length x.before o) k
    have hk62 : pw k ≤ pw 62 := pw_le (by omega)
    have hrl := rch_lt x.orders.length x.before k
    simp (disch := omega) only [instO, go_sem, seval]
    refine acond_b (fun h5 => ?_) (fun h5 => ?_) <;> (try simp only [decide_eq_true_eq, decide_eq_false_iff_not] at h5) <;> simp (disch := omega) only [Sh.out h5, go_sem, seval]
    ·refine aguard_f (fun h6 => ?_) (fun h6 => ?_) <;> (try simp only [decide_eq_true_eq, decide_eq_false_iff_not] at h6) <;> simp (disch := omega) only [Sh.out h6, go_sem, seval]
     ·have e : ndp x.orders.length x.before o k = true := by simp [ndp]; omega
      obtain rfl : k = o := by omega
      refine (bit_c k (by omega)).use ?_
      simp (disch := omega) only [go_sem, seval]
      exact ⟨k + 1, by omega, by omega, Weak.mk (by simp (disch := omega) only [instO, setOf, e, Int.natCast_add, go_sem, seval])⟩
     ·refine (reach_c x.orders.length x.before _ k hn hl hv).use ?_
      simp (disch := omega) only [go_sem, seval]
      refine (rhas_c (rch x.orders.length x.before k) o (by omega) (by omega)).use ?_
      simp (disch := omega) only [go_sem, seval]
      refine acond_b (fun h7 => ?_) (fun h7 => ?_) <;> (try simp only [decide_eq_true_eq, decide_eq_false_iff_not] at h7) <;> simp (disch := omega) only [Sh.out h7, go_sem, seval]
      ·have e : ndp x.orders.length x.before o k = true := by simp [ndp, h7]
       refine (bit_c k (by omega)).use ?_
       simp (disch := omega) only [go_sem, seval]
       exact ⟨k + 1, by omega, by omega, Weak.mk (by simp (disch := omega) only [instO, setOf, e, Int.natCast_add, go_sem, seval])⟩
      ·have e : ndp x.orders.length x.before o k = false := by simp [ndp, h7]; omega
       exact ⟨k + 1, by omega, by omega, Weak.mk (by simp (disch := omega) only [instO, setOf, e, Int.natCast_add, go_sem, seval])⟩
    ·have : k = x.orders.length := by omega
     subst this
     rfl
end Go.Proofs.YtcdoglogglbemaaGreatDoor.K
set_option linter.unusedVariables false
set_option linter.unusedSimpArgs false
namespace Go.Proofs.YtcdoglogglbemaaGreatDoor.K
open Go Go.AM Go.Proofs
set_option maxRecDepth 8000
set_option maxHeartbeats 8000000
deriving instance DecidableEq for Vis
theorem vis_eq {v w : Vis} : v = w ↔ v.order = w.order ∧ v.drp = w.drp := by cases v; cases w; simp
def fIx (f : Vis → Bool) (l : List Vis) : Int := match l.findIdx? f with | some i => (i : Int) | none => -1
def vIx (l : List Vis) (v : Vis) : Int := fIx (fun w => decide (v = w)) l
theorem fIx_at {f : Vis → Bool} {l : List Vis} {k : Nat} (hk : k < l.length) (h : f (nth l k) = true) (hno : ∀ j, j < k → f (nth l j) = false) : fIx f l = (k : Int) := by
 have : l.findIdx? f = some k := by
  rw [List.findIdx?_eq_some_iff_getElem]
  refine ⟨hk, by rw [← nth_get hk]; exact h, fun j hj => ?_⟩
  have h2 := hno j hj
  rw [nth_get (by omega)] at h2
  simpa using h2
 simp [fIx, this]
theorem fIx_no {f : Vis → Bool} {l : List Vis} (hno : ∀ j, j < l.length → f (nth l j) = false) : fIx f l = -1 := by
 have : l.findIdx? f = none := by
  rw [List.findIdx?_eq_none_iff]
  intro x hx
  obtain ⟨j, hj, rfl⟩ := List.mem_iff_getElem.1 hx
  rw [← nth_get hj]; exact hno j hj
 simp [fIx, this]
theorem fIx_ge {f : Vis → Bool} {l : List Vis} : decide (0 ≤ fIx f l) = l.any f := by
 unfold fIx
 cases h : l.findIdx? f with
 | none =>
  rw [List.findIdx?_eq_none_iff] at h
  have : l.any f = false := by rw [List.any_eq_false]; intro x hx; simp [h x hx]
  simp [this]
 | some i =>
  rw [List.findIdx?_eq_some_iff_getElem] at h
  obtain ⟨h1, h2, _⟩ := h
  have : l.any f = true := by rw [List.any_eq_true]; exact ⟨l[i], List.getElem_mem _, h2⟩
  simp [this]
theorem fIx_lt {f : Vis → Bool} {l : List Vis} : fIx f l < l.length ∧ -1 ≤ fIx f l := by
 unfold fIx
 cases h : l.findIdx? f with
 | none => simp; omega
 | some i =>
  rw [List.findIdx?_eq_some_iff_getElem] at h
  obtain ⟨h1, _⟩ := h
  simp; omega
theorem index_c (l : List Vis) (c : Bool) (v : Vis) (hl : l.length ≤ 1048576) : ACalls Tryz.prog 327 [.p (.list c (l.map eVis)), .p (eVis v)] [] fun x H' => x = .p (.int .i64 (vIx l v)) ∧ H' = [] := by
 refine acalls_pure (fn := Tryz.f327) Tryz.func327 rfl isF327 ?_
 simp (disch := omega) only [Tryz.f327, go_sem, seval]
 refine awp_for [0, 3, 7] (fun k : Nat => [(8, .p (.int .i64 k))]) (fun _ => [.cells [.p (.int .i64 v.order), .p (.bool v.drp)]]) (fun k => k ≤ l.length ∧ ∀ j, j < k → decide (v = nth l j) = false) (fun k => l.length - k) 0 (by simp) (Weak.mk ?_) ?_
 ·simp (disch := omega) only [go_sem, seval]
 ·rintro k ⟨hk, hno⟩
  simp (disch := omega) only [go_sem, seval]
  refine acond_b (fun h => ?_) (fun h => ?_) <;> (try simp only [decide_eq_true_eq, decide_eq_false_iff_not] at h) <;> simp (disch := omega) only [Sh.out h, go_sem, seval]
  ·have hk2 : k < l.length := by omega
   refine awp_drawnA mixed (by kernel_rfl) (by kernel_rfl) ?_
   simp (disch := omega) only [go_sem, seval]
   refine acond_b (fun h2 => ?_) (fun h2 => ?_) <;> (try simp only [decide_eq_true_eq, decide_eq_false_iff_not] at h2) <;> simp (disch := omega) only [Sh.out h2, go_sem, seval]
   ·have : v = nth l k := by simpa [vis_eq] using h2
    rw [vIx, fIx_at hk2 (by simpa using this) hno]
   ·have : ¬ v = nth l k := by simpa [vis_eq] using h2
    exact ⟨k + 1, ⟨by omega, upto_iff.2 ⟨hno, by simpa using this⟩⟩, by omega, Weak.mk (by simp (disch := omega) only [go_sem, seval])⟩
  ·have hkl : k = l.length := by omega
   subst hkl
   rw [vIx, fIx_no hno]
theorem place_c (l : List Vis) (c : Bool) (v : Vis) (hl : l.length ≤ 1048576) : ACalls Tryz.prog 299 [.p (.list c (l.map eVis)), .p (eVis v)] [] fun x H' => x = .p (.int .i64 (vIx l v)) ∧ H' = [] := by
 refine acalls_pure (fn := Tryz.f299) Tryz.func299 rfl isF299 ?_
 simp (disch := omega) only [Tryz.f299, go_sem, seval]
 refine (index_c l c v hl).use ?_
 simp (disch := omega) only [go_sem, seval]
theorem contains16_c (l : List Vis) (c : Bool) (v : Vis) (hl : l.length ≤ 1048576) : ACalls Tryz.prog 300 [.p (.list c (l.map eVis)), .p (eVis v)] [] fun x H' => x = .p (.bool (decide (0 ≤ vIx l v))) ∧ H' = [] := by
 refine acalls_pure (fn := Tryz.f300) Tryz.func300 rfl isF300 ?_
 simp (disch := omega) only [Tryz.f300, go_sem, seval]
 refine (index_c l c v hl).use ?_
 simp (disch := omega) only [go_sem, seval]
theorem there_c (l : List Ord) (c : Bool) (n : Int) (hl : l.length ≤ 1048576) : ACalls Tryz.prog 246 [.p (.list c (l.map eOrd)), .p (.int .i64 n)] [] fun x H' => x = .p (.bool (decide (0 ≤ n ∧ n < l.length))) ∧ H' = [] := by
 refine acalls_pure (fn := Tryz.f246) Tryz.func246 rfl isF246 ?_
 simp (disch := omega) only [Tryz.f246, go_sem, seval]
 refine aguard_t (fun h => ?_) (fun h => ?_) <;> (try simp only [decide_eq_true_eq, decide_eq_false_iff_not] at h) <;> simp (disch := omega) only [Sh.out h, go_sem, seval]
 all_goals (try simp [h])
def visO (l : List Ord) (i : Nat) : List Vis := (if 0 ≤ (nth l i).pick.place then [⟨i, false⟩] else []) ++ (if 0 ≤ (nth l i).drp.place then [⟨i, true⟩] else [])
theorem visO_len (l : List Ord) (i : Nat) : (visO l i).length ≤ 2 := by unfold visO; split <;> split <;> simp
theorem visO_order {l : List Ord} {i : Nat} {v : Vis} (h : v ∈ visO l i) : v.order = i := by
 unfold visO at h
 rcases List.mem_append.1 h with h | h <;> (split at h <;> simp at h; subst h; rfl)
theorem visits_own (l : List Ord) (c : Bool) (i : Nat) (hi : i < l.length) (hl : l.length ≤ 1048576) : ACalls Tryz.prog 187 [.p (.list c (l.map eOrd)), .p (.int .i64 (i : Nat))] [] fun x H' => x = .sl 0 0 (visO l i).length (visO l i).length ∧ H' = [.elems 2 ((visO l i).map eVis)] := by
 suffices hh : ACalls Tryz.prog 187 [.p (.list c (l.map eOrd)), .p (.int .i64 (i : Nat))] [] fun x H' => ∃ m : List Vis, m = visO l i ∧ x = .sl 0 0 m.length m.length ∧ H' = [.elems 2 (m.map eVis)] by
  refine hh.mono ?_
  rintro x H' ⟨m, rfl, h1, h2⟩
  exact ⟨h1, h2⟩
 refine acalls_freshE [2] (fn := Tryz.f187) Tryz.func187 rfl isF187 ?_
 simp (disch := omega) only [Tryz.f187, go_sem, seval]
 refine awp_weak (Weak.ofNil 5 2 (by simp (disch := omega) only [go_sem, seval]) (by simp) (Weak.refl _ _ _)) ?_
 refine awp_sound [4] _ _ _ _ ?_
 simp (disch := omega) only [go_sem, seval]
 refine (there_c l c i hl).use ?_
 simp (disch := omega) only [go_sem, seval]
 have h0 : (0 : Int) ≤ (i : Int) ∧ (i : Int) < (l.length : Int) := by omega
 simp (disch := omega) only [h0, go_sem, seval]
 refine awp_join [0, 1] (fun m : List Vis => [(5, .sl 0 0 m.length m.length)]) (fun m => [.elems 2 (m.map eVis)]) (fun m => m = (if 0 ≤ (nth l i).pick.place then [⟨i, false⟩] else [])) ?_ ?_
 ·simp (disch := omega) only [go_sem, seval]
  refine acond_b (fun h => ?_) (fun h => ?_) <;> (try simp only [decide_eq_true_eq, decide_eq_false_iff_not] at h) <;> simp (disch := omega) only [Sh.out h, go_sem, seval]
  ·exact ⟨[⟨i, false⟩], by simp [h], Weak.mk (by simp (disch := omega) only [go_sem, seval])⟩
  ·exact ⟨[], by simp [h], Weak.mk (by simp (disch := omega) only [go_sem, seval])⟩
 ·intro m hm
  have hml : m.length ≤ 1 := by rw [hm]; split <;> simp
  refine awp_sound [] _ _ _ _ ?_
  simp (disch := omega) only [go_sem, seval]
  refine acond_b (fun h => ?_) (fun h => ?_) <;> (try simp only [decide_eq_true_eq, decide_eq_false_iff_not] at h) <;> simp (disch := omega) only [Sh.out h, go_sem, seval]
  ·exact ⟨m ++ [⟨i, true⟩], by rw [visO, hm, if_pos h], 0, by simp (disch := omega) only [go_sem, seval]⟩
  ·exact ⟨m, by rw [visO, hm, if_neg h, List.append_nil], 0, by simp (disch := omega) only [go_sem, seval]⟩
theorem visits_c (l : List Ord) (c : Bool) (i : Nat) (hi : i < l.length) (hl : l.length ≤ 1048576) : ACalls Tryz.prog 187 [.p (.list c (l.map eOrd)), .p (.int .i64 (i : Nat))] [] fun x H' => x = .p (.list false ((visO l i).map eVis)) ∧ H' = [] :=
 (visits_own l c i hi hl).frozen (by simp)
def twiceB (l : List Vis) : Bool := (List.range l.length).any fun i => decide (0 ≤ vIx (l.take i) (nth l i))
theorem twice_c (l : List Vis) (c : Bool) (hl : l.length ≤ 1048576) : ACalls Tryz.prog 263 [.p (.list c (l.map eVis))] [] fun x H' => x = .p (.bool (twiceB l)) ∧ H' = [] := by
 refine acalls_pure (fn := Tryz.f263) Tryz.func263 rfl isF263 ?_
 simp (disch := omega) only [Tryz.f263, go_sem, seval]
 refine awp_for [0, 5, 6] (fun k : Nat => [(7, .p (.int .i64 k))]) (fun _ => []) (fun k => k ≤ l.length ∧ ∀ j, j < k → decide (0 ≤ vIx (l.take j) (nth l j)) = false) (fun k => l.length - k) 0 (by simp) (Weak.mk ?_) ?_
 ·simp (disch := omega) only [go_sem, seval]
 ·rintro k ⟨hk, hno⟩
  simp (disch := omega) only [go_sem, seval]
  refine acond_b (fun h => ?_) (fun h => ?_) <;> (try simp only [decide_eq_true_eq, decide_eq_false_iff_not] at h) <;> simp (disch := omega) only [Sh.out h, go_sem, seval]
  ·have hk2 : k < l.length := by omega
   refine awp_drawnA mixed (by kernel_rfl) (by kernel_rfl) ?_
   simp (disch := omega) only [go_sem, seval]
   refine exq_call (place_c (l.take k) _ (nth l k) (by simp; omega)) ?_
   simp (disch := omega) only [go_sem, seval]
   refine acond_b (fun h2 => ?_) (fun h2 => ?_) <;> (try simp only [decide_eq_true_eq, decide_eq_false_iff_not] at h2) <;> simp (disch := omega) only [Sh.out h2, go_sem, seval]
   ·have : twiceB l = true := by rw [twiceB, List.any_eq_true]; exact ⟨k, by simpa using hk2, by simpa using h2⟩
    rw [this]
   ·exact ⟨k + 1, ⟨by omega, upto_iff.2 ⟨hno, by simpa using h2⟩⟩, by omega, Weak.mk (by simp (disch := omega) only [go_sem, seval])⟩
  ·have hkl : k = l.length := by omega
   subst hkl
   have : twiceB l = false := by rw [twiceB, List.any_eq_false]; intro j hj; simpa using hno j (by simpa using hj)
   rw [this]
theorem indexFunc_c (l : List Vis) (c : Bool) (g : FuncId) (caps : List V) (H : List AM.Obj) (f : Vis → Bool) (hl : l.length ≤ 1048576) (hW : wkH H H.length H H) (hc : refBs H.length caps = true)
  (hg : ∀ v ∈ l, ACalls Tryz.prog g (.p (eVis v) :: caps) H fun x H' => x = .p (.bool (f v)) ∧ H' = H) :
  ACalls Tryz.prog 104 [.p (.list c (l.map eVis)), .fn (.func g) [] caps] H fun x H' => x = .p (.int .i64 (fIx f l)) ∧ H' = H := by
 refine acalls_of (fn := Tryz.f104) Tryz.func104 rfl isF104 (awp_sound [] _ _ _ _ ?_)
 simp (disch := omega) only [Tryz.f104, go_sem, seval]
 refine awp_for [0, 1, 7] (fun k : Nat => [(8, .p (.int .i64 k))]) (fun _ => H) (fun k => k ≤ l.length ∧ ∀ j, j < k → f (nth l j) = false) (fun k => l.length - k) 0 (by simp) (Weak.mk ?_) ?_
 ·simp (disch := omega) only [hW, hc, go_sem, seval]
  simp
 ·rintro k ⟨hk, hno⟩
  simp (disch := omega) only [go_sem, seval]
  refine acond_b (fun h => ?_) (fun h => ?_) <;> (try simp only [decide_eq_true_eq, decide_eq_false_iff_not] at h) <;> simp (disch := omega) only [Sh.out h, go_sem, seval]
  ·have hk2 : k < l.length := by omega
   refine (hg (nth l k) (nth_mem hk2)).useH ?_
   simp (disch := omega) only [go_sem, seval]
   refine acond_b (fun h2 => ?_) (fun h2 => ?_) <;> (try simp only [decide_eq_true_eq, decide_eq_false_iff_not] at h2) <;> simp (disch := omega) only [Sh.out h2, go_sem, seval]
   ·rw [fIx_at hk2 h2 hno]
   ·have h3 : f (nth l k) = false := by simpa using h2
    refine ⟨k + 1, ⟨by omega, upto_iff.2 ⟨hno, h3⟩⟩, by omega, Weak.mk ?_⟩
    simp (disch := omega) only [hW, hc, go_sem, seval]
    simp
  ·have hkl : k = l.length := by omega
   subst hkl
   rw [fIx_no hno]
end Go.Proofs.YtcdoglogglbemaaGreatDoor.K
set_option linter.unusedVariables false
set_option linter.unusedSimpArgs false
namespace Go.Proofs.YtcdoglogglbemaaGreatDoor.K
open Go Go.AM Go.Proofs
set_option maxRecDepth 8000
set_option maxHeartbeats 8000000
theorem containsFunc_c (l : List Vis) (c : Bool) (g : FuncId) (caps : List V) (H : List AM.Obj) (f : Vis → Bool) (hl : l.length ≤ 1048576) (hW : wkH H H.length H H) (hc : refBs H.length caps = true)
  (hg : ∀ v ∈ l, ACalls Tryz.prog g (.p (eVis v) :: caps) H fun x H' => x = .p (.bool (f v)) ∧ H' = H) :
  ACalls Tryz.prog 260 [.p (.list c (l.map eVis)), .fn (.func g) [] caps] H fun x H' => x = .p (.bool (l.any f)) ∧ H' = H := by
 refine acalls_of (fn := Tryz.f260) Tryz.func260 rfl isF260 (awp_sound [] _ _ _ _ ?_)
 simp (disch := omega) only [Tryz.f260, go_sem, seval]
 refine (indexFunc_c l c g caps H f hl hW hc hg).useH ?_
 simp (disch := omega) only [go_sem, seval]
 rw [fIx_ge]
def hasO (l : List Vis) (o : Int) : Bool := l.any fun v => decide (v.order = o)
theorem has1_c (v : Vis) (o : Int) : ACalls Tryz.prog 301 [.p (eVis v), .ptr 0 0] [.cells [.p (.int .i64 o)]] fun x H' => x = .p (.bool (decide (v.order = o))) ∧ H' = [.cells [.p (.int .i64 o)]] := by
 refine acalls_weak [] (fn := Tryz.f301) Tryz.func301 rfl isF301 ?_
 simp (disch := omega) only [Tryz.f301, go_sem, seval]
 exact ⟨_, _, Weak.mk (by simp (disch := omega) only [go_sem, seval]), rfl, rfl⟩
theorem before1_c (v : Vis) (o : Int) : ACalls Tryz.prog 302 [.p (eVis v), .ptr 0 0] [.cells [.p (.int .i64 o)]] fun x H' => x = .p (.bool (decide (v.order = o))) ∧ H' = [.cells [.p (.int .i64 o)]] := by
 refine acalls_weak [] (fn := Tryz.f302) Tryz.func302 rfl isF302 ?_
 simp (disch := omega) only [Tryz.f302, go_sem, seval]
 exact ⟨_, _, Weak.mk (by simp (disch := omega) only [go_sem, seval]), rfl, rfl⟩
theorem seqHas_c (l : List Vis) (c : Bool) (o : Int) (hl : l.length ≤ 1048576) : ACalls Tryz.prog 265 [.p (.list c (l.map eVis)), .p (.int .i64 o)] [] fun x H' => x = .p (.bool (hasO l o)) ∧ H' = [] := by
 refine acalls_pure (fn := Tryz.f265) Tryz.func265 rfl isF265 ?_
 simp (disch := omega) only [Tryz.f265, go_sem, seval]
 refine (containsFunc_c l c 301 [.ptr 0 0] [.cells [.p (.int .i64 o)]] (fun v => decide (v.order = o)) hl (by simp (disch := omega) only [go_sem, seval]) (by rfl) (fun v _ => has1_c v o)).useH ?_
 simp (disch := omega) only [go_sem, seval]
 rw [hasO]
def beforeB (l : List Vis) (a b : Int) : Bool := if fIx (fun v => decide (v.order = b)) l < 0 then true else hasO l a && !hasO (l.drop (fIx (fun v => decide (v.order = b)) l).toNat) a
theorem seqBefore_c (l : List Vis) (c : Bool) (a b : Int) (hl : l.length ≤ 1048576) : ACalls Tryz.prog 266 [.p (.list c (l.map eVis)), .p (.int .i64 a), .p (.int .i64 b)] [] fun x H' => x = .p (.bool (beforeB l a b)) ∧ H' = [] := by
 refine acalls_pure (fn := Tryz.f266) Tryz.func266 rfl isF266 ?_
 simp (disch := omega) only [Tryz.f266, go_sem, seval]
 refine (indexFunc_c l c 302 [.ptr 0 0] [.cells [.p (.int .i64 b)]] (fun v => decide (v.order = b)) hl (by simp (disch := omega) only [go_sem, seval]) (by rfl) (fun v _ => before1_c v b)).useH ?_
 have hlt := fIx_lt (f := fun v => decide (v.order = b)) (l := l)
 simp (disch := omega) only [go_sem, seval]
 refine acond_b (fun h => ?_) (fun h => ?_) <;> (try simp only [decide_eq_true_eq, decide_eq_false_iff_not] at h) <;> simp (disch := omega) only [Sh.out h, go_sem, seval]
 ·rw [beforeB, if_pos h]
 ·refine (seqHas_c l c a hl).use ?_
  simp (disch := omega) only [go_sem, seval]
  generalize hq : fIx (fun v => decide (v.order = b)) l = q at hlt h ⊢
  cases h2 : hasO l a with
  | false =>
   simp (disch := omega) only [go_sem, seval]
   rw [beforeB, hq, if_neg h, h2]; rfl
  | true =>
   simp (disch := omega) only [List.take_length, go_sem, seval]
   refine (seqHas_c (l.drop q.toNat) _ a (by simp; omega)).use ?_
   simp (disch := omega) only [go_sem, seval]
   rw [beforeB, hq, if_neg h, h2]; rfl
def ascB (l : List Vis) : Int → List Vis → Bool
 | _, [] => true
 | last, w :: r => decide (last < vIx l w) && ascB l (vIx l w) r
def pairB (os : List Ord) (l : List Vis) (v : Vis) : Bool := decide (0 ≤ vIx (visO os v.order.toNat) v) && ascB l (-1) (visO os v.order.toNat)
theorem seqPaired_c (x : Inst) (l : List Vis) (c : Bool) (hl : l.length ≤ 1048576) (ho : x.orders.length ≤ 1048576) (hv : ∀ v ∈ l, 0 ≤ v.order ∧ v.order < x.orders.length) :
  ACalls Tryz.prog 264 [.p (eInst x), .p (.list c (l.map eVis))] [] fun y H' => y = .p (.bool (l.all (pairB x.orders l))) ∧ H' = [] := by
 refine acalls_pure (fn := Tryz.f264) Tryz.func264 rfl isF264 ?_
 simp (disch := omega) only [Tryz.f264, go_sem, seval]
 refine awp_for [1, 2, 12, 13] (fun k : Nat => [(14, .p (.int .i64 k))]) (fun _ => [instO x]) (fun k => k ≤ l.length ∧ ∀ j, j < k → pairB x.orders l (nth l j) = true) (fun k => l.length - k) 0 (by simp) (Weak.mk ?_) ?_
 ·simp (disch := omega) only [instO, go_sem, seval]
 ·rintro k ⟨hk, hno⟩
  simp (disch := omega) only [instO, go_sem, seval]
  refine acond_b (fun h => ?_) (fun h => ?_) <;> (try simp only [decide_eq_true_eq, decide_eq_false_iff_not] at h) <;> simp (disch := omega) only [Sh.out h, go_sem, seval]
  ·have hk2 : k < l.length := by omega
   obtain ⟨v1, v2⟩ := hv _ (nth_mem hk2)
   have hbad : pairB x.orders l (nth l k) = false → l.all (pairB x.orders l) = false := fun h4 => by
    rw [List.all_eq_false]; exact ⟨nth l k, nth_mem hk2, by rw [h4]; simp⟩
   obtain ⟨i, hi⟩ : ∃ i : Nat, (nth l k).order = (i : Int) := ⟨(nth l k).order.toNat, by omega⟩
   have hp : pairB x.orders l (nth l k) = (decide (0 ≤ vIx (visO x.orders i) (nth l k)) && ascB l (-1) (visO x.orders i)) := by rw [pairB, hi]; rfl
   rw [hi] at v1 v2
   simp (disch := omega) only [hi, go_sem, seval]
   refine (visits_c x.orders x.orders_c i (by omega) ho).use ?_
   simp (disch := omega) only [go_sem, seval]
   have hvl := visO_len x.orders i
   have hcon := contains16_c (visO x.orders i) false (nth l k) (by omega)
   rw [eVis_eq, hi] at hcon
   refine (hcon).use ?_
   simp (disch := omega) only [go_sem, seval]
   refine acond_b (fun h2 => ?_) (fun h2 => ?_) <;> (try simp only [decide_eq_true_eq, decide_eq_false_iff_not] at h2) <;> simp (disch := omega) only [Sh.out h2, go_sem, seval]
   ·rw [hbad (by rw [hp]; simp; intro h3; omega)]
   ·have h2' : 0 ≤ vIx (visO x.orders i) (nth l k) := by omega
    generalize hown : visO x.orders i = own at hvl hp h2' ⊢
    have hp2 : pairB x.orders l (nth l k) = ascB l (-1) own := by rw [hp]; simp [h2']
    refine awp_for [1, 2, 12, 13, 14, 27, 28] (fun q : Nat × Int => [(8, .p (.int .i64 q.2)), (29, .p (.int .i64 q.1))]) (fun _ => [instO x, .cells [.p (.int .i64 (i : Int)), .p (.bool (nth l k).drp)]]) (fun q => q.1 ≤ own.length ∧ ascB l (-1) own = ascB l q.2 (own.drop q.1)) (fun q => own.length - q.1) (0, -1) (by simp) (Weak.mk ?_) ?_
    ·simp (disch := omega) only [instO, go_sem, seval]
    ·rintro ⟨j, last⟩ ⟨hj, ha⟩
     simp only at hj ha
     simp (disch := omega) only [instO, go_sem, seval]
     refine acond_b (fun h3 => ?_) (fun h3 => ?_) <;> (try simp only [decide_eq_true_eq, decide_eq_false_iff_not] at h3) <;> simp (disch := omega) only [Sh.out h3, go_sem, seval]
     ·have hj2 : j < own.length := by omega
      have hd : own.drop j = nth own j :: own.drop (j + 1) := by rw [List.drop_eq_getElem_cons hj2, nth_get hj2]
      rw [hd] at ha
      refine (place_c l c (nth own j) hl).use ?_
      simp (disch := omega) only [go_sem, seval]
      refine acond_b (fun h4 => ?_) (fun h4 => ?_) <;> (try simp only [decide_eq_true_eq, decide_eq_false_iff_not] at h4) <;> simp (disch := omega) only [Sh.out h4, go_sem, seval]
      ·rw [hbad (by rw [hp2, ha, ascB]; simp; intro h5; omega)]
      ·have h5 : last < vIx l (nth own j) := by omega
       exact ⟨(j + 1, vIx l (nth own j)), ⟨by simp only; omega, by rw [ha, ascB]; simp [h5]⟩, by simp only; omega, Weak.mk (by simp (disch := omega) only [instO, go_sem, seval])⟩
     ·have hjl : j = own.length := by omega
      subst hjl
      exact ⟨k + 1, ⟨by omega, upto_iff.2 ⟨hno, by rw [hp2, ha]; simp [ascB]⟩⟩, by omega, Weak.mk (by simp (disch := omega) only [instO, go_sem, seval])⟩
  ·have hkl : k = l.length := by omega
   subst hkl
   have : l.all (pairB x.orders l) = true := by
    rw [List.all_eq_true]
    intro v hv
    obtain ⟨j, hj, rfl⟩ := List.mem_iff_getElem.1 hv
    rw [← nth_get hj]; exact hno j hj
   rw [this]
def rteO (r : Rte) : AM.Obj := .cells [.p (.int .i64 r.typ), .p (.int .i64 r.start), .p (.list r.rests_c (r.rests.map eB)), .p (.list r.visits_c (r.visits.map eVis))]
def outB (x : Inst) (v : Vis) : Bool := !decide (0 ≤ v.order ∧ v.order < (x.orders.length : Int))
theorem check1_c (x : Inst) (r : Rte) (v : Vis) (ho : x.orders.length ≤ 1048576) : ACalls Tryz.prog 261 [.p (eVis v), .ptr 0 0] [instO x, rteO r] fun y H' => y = .p (.bool (outB x v)) ∧ H' = [instO x, rteO r] := by
 refine acalls_weak [] (fn := Tryz.f261) Tryz.func261 rfl isF261 ?_
 simp (disch := omega) only [Tryz.f261, instO, rteO, go_sem, seval]
 refine aguard_f (fun h => ?_) (fun h => ?_) <;> (try simp only [decide_eq_true_eq, decide_eq_false_iff_not] at h) <;> simp (disch := omega) only [Sh.out h, go_sem, seval]
 ·have e : outB x v = true := by
   have : ¬ (0 ≤ v.order) := by omega
   simp [outB, this]
  rw [e]
  exact ⟨_, _, Weak.mk (by simp (disch := omega) only [instO, rteO, go_sem, seval]), rfl, rfl⟩
 ·have e : outB x v = decide ((x.orders.length : Int) ≤ v.order) := by
   have h0 : 0 ≤ v.order := by omega
   rw [Bool.eq_iff_iff]; simp [outB, h0]
  rw [e]
  exact ⟨_, _, Weak.mk (by simp (disch := omega) only [instO, rteO, go_sem, seval]), rfl, rfl⟩
theorem check2_c (x : Inst) (r : Rte) (v : Vis) (ho : x.orders.length ≤ 1048576) (h1 : 0 ≤ v.order) (h2 : v.order < x.orders.length) : ACalls Tryz.prog 262 [.p (eVis v), .ptr 0 0] [instO x, rteO r] fun y H' => y = .p (.bool (nth x.orders v.order.toNat).off) ∧ H' = [instO x, rteO r] := by
 have h3 : v.order.toNat < x.orders.length := by omega
 refine acalls_weak [] (fn := Tryz.f262) Tryz.func262 rfl isF262 ?_
 simp (disch := omega) only [Tryz.f262, instO, rteO, elt_map, go_sem, seval]
 exact ⟨_, _, Weak.mk (by simp (disch := omega) only [instO, rteO, go_sem, seval]), rfl, rfl⟩
def seqChk (x : Inst) (l : List Vis) : Int :=
 if l.length = 0 ∨ l.any (outB x) = true then 2
 else if (l.any fun v => (nth x.orders v.order.toNat).off) = true then 9
 else if twiceB l = true then 6
 else if l.all (pairB x.orders l) = false then 19
 else if (x.apart.any fun p => hasO l p.1 && hasO l p.2) = true then 20
 else if (x.before.any fun p => !beforeB l p.1 p.2) = true then 21
 else 0
theorem seqCheck_c (x : Inst) (r : Rte) (ho : x.orders.length ≤ 1048576) (hl : r.visits.length ≤ 1048576) (hap : x.apart.length ≤ 1048576) (hbe : x.before.length ≤ 1048576) :
  ACalls Tryz.prog 194 [.p (eInst x), .p (eRte r)] [] fun y H' => y = .p (.int .i64 (seqChk x r.visits)) ∧ H' = [] := by
 refine acalls_pure (fn := Tryz.f194) Tryz.func194 rfl isF194 ?_
 simp (disch := omega) only [Tryz.f194, go_sem, seval]
 refine aguard_f (fun h0 => ?_) (fun h0 => ?_) <;> (try simp only [decide_eq_true_eq, decide_eq_false_iff_not] at h0) <;> simp (disch := omega) only [Sh.out h0, go_sem, seval]
 ·have : r.visits.length = 0 := by omega
  simp [seqChk, this]
 ·have h00 : ¬ r.visits.length = 0 := by omega
  refine (containsFunc_c r.visits r.visits_c 261 [.ptr 0 0] [instO x, rteO r] (outB x) hl (by simp (disch := omega) only [instO, rteO, go_sem, seval]) (by rfl) (fun v _ => check1_c x r v ho)).useH ?_
  simp (disch := omega) only [instO, rteO, go_sem, seval]
  refine acond_b (fun h1 => ?_) (fun h1 => ?_) <;> (try simp only [decide_eq_true_eq, decide_eq_false_iff_not] at h1) <;> simp (disch := omega) only [Sh.out h1, go_sem, seval]
  ·rw [seqChk, if_pos (.inr h1)]
  ·have h1' : r.visits.any (outB x) = false := by simpa using h1
   have c1 : ¬ (r.visits.length = 0 ∨ r.visits.any (outB x) = true) := by rw [h1']; simp; simpa using h00
   have hin : ∀ v ∈ r.visits, 0 ≤ v.order ∧ v.order < x.orders.length := fun v hv => by
    rw [List.any_eq_false] at h1'
    simpa [outB] using h1' v hv
   refine (containsFunc_c r.visits r.visits_c 262 [.ptr 0 0] [instO x, rteO r] (fun v => (nth x.orders v.order.toNat).off) hl (by simp (disch := omega) only [instO, rteO, go_sem, seval]) (by rfl) (fun v hv => check2_c x r v ho (hin v hv).1 (hin v hv).2)).useH ?_
   simp (disch := omega) only [instO, rteO, go_sem, seval]
   refine acond_b (fun h2 => ?_) (fun h2 => ?_) <;> (try simp only [decide_eq_true_eq, decide_eq_false_iff_not] at h2) <;> simp (disch := omega) only [Sh.out h2, go_sem, seval]
   ·rw [seqChk, if_neg c1, if_pos h2]
   ·refine (twice_c r.visits r.visits_c hl).use ?_
    simp (disch := omega) only [go_sem, seval]
    refine acond_b (fun h3 => ?_) (fun h3 => ?_) <;> (try simp only [decide_eq_true_eq, decide_eq_false_iff_not] at h3) <;> simp (disch := omega) only [Sh.out h3, go_sem, seval]
    ·rw [seqChk, if_neg c1, if_neg (by simpa using h2), if_pos h3]
    ·refine (seqPaired_c x r.visits r.visits_c hl ho hin).use ?_
     simp (disch := omega) only [go_sem, seval]
     refine acond_b (fun h4 => ?_) (fun h4 => ?_) <;> (try simp only [decide_eq_true_eq, decide_eq_false_iff_not] at h4) <;> simp (disch := omega) only [Sh.out h4, go_sem, seval]
     ·have h4' : r.visits.all (pairB x.orders r.visits) = false := by simpa using h4
      rw [seqChk, if_neg c1, if_neg (by simpa using h2), if_neg (by simpa using h3), if_pos h4']
     ·have h4' : r.visits.all (pairB x.orders r.visits) = true := by simpa using h4
      have hc : seqChk x r.visits = if (x.apart.any fun p => hasO r.visits p.1 && hasO r.visits p.2) = true then 20 else if (x.before.any fun p => !beforeB r.visits p.1 p.2) = true then 21 else 0 := by
       rw [seqChk, if_neg c1, if_neg (by simpa using h2), if_neg (by simpa using h3), if_neg (by rw [h4']; simp)]
      clear h4 h4' h3 h2 c1 h1' h1 h0
      refine awp_for [2, 5, 33, 34] (fun k : Nat => [(35, .p (.int .i64 k))]) (fun _ => [instO x, rteO r]) (fun k => k ≤ x.apart.length ∧ ∀ j, j < k → (hasO r.visits (nth x.apart j).1 && hasO r.visits (nth x.apart j).2) = false) (fun k => x.apart.length - k) 0 (by simp) (Weak.mk ?_) ?_
      ·simp (disch := omega) only [instO, rteO, go_sem, seval]
      ·rintro k ⟨hk, hno⟩
       simp (disch := omega) only [instO, rteO, go_sem, seval]
       refine acond_b (fun h => ?_) (fun h => ?_) <;> (try simp only [decide_eq_true_eq, decide_eq_false_iff_not] at h) <;> simp (disch := omega) only [Sh.out h, go_sem, seval]
       ·have hk2 : k < x.apart.length := by omega
        refine (seqHas_c r.visits r.visits_c (nth x.apart k).1 hl).use ?_
        simp (disch := omega) only [go_sem, seval]
        refine aguard_t (fun h2 => ?_) (fun h2 => ?_) <;> (try simp only [decide_eq_true_eq, decide_eq_false_iff_not] at h2) <;> simp (disch := omega) only [Sh.out h2, go_sem, seval]
        ·refine (seqHas_c r.visits r.visits_c (nth x.apart k).2 hl).use ?_
         simp (disch := omega) only [go_sem, seval]
         refine acond_b (fun h3 => ?_) (fun h3 => ?_) <;> (try simp only [decide_eq_true_eq, decide_eq_false_iff_not] at h3) <;> simp (disch := omega) only [Sh.out h3, go_sem, seval]
         ·rw [hc, if_pos (any_yes hk2 (by rw [h2, h3]; rfl))]
         ·exact ⟨k + 1, ⟨by omega, upto_iff.2 ⟨hno, by simp [h2]; simpa using h3⟩⟩, by omega, Weak.mk (by simp (disch := omega) only [instO, rteO, go_sem, seval])⟩
        ·exact ⟨k + 1, ⟨by omega, upto_iff.2 ⟨hno, by simp [h2]⟩⟩, by omega, Weak.mk (by simp (disch := omega) only [instO, rteO, go_sem, seval])⟩
       ·have hkl : k = x.apart.length := by omega
        subst hkl
        rw [hc, any_no hno]
        clear hno hk h hc
        rw [if_neg (by simp)]
        refine awp_for [5, 51, 52] (fun k : Nat => [(53, .p (.int .i64 k))]) (fun _ => [instO x, rteO r]) (fun k => k ≤ x.before.length ∧ ∀ j, j < k → (!beforeB r.visits (nth x.before j).1 (nth x.before j).2) = false) (fun k => x.before.length - k) 0 (by simp) (Weak.mk ?_) ?_
        ·simp (disch := omega) only [instO, rteO, go_sem, seval]
        ·rintro k ⟨hk, hno⟩
         simp (disch := omega) only [instO, rteO, go_sem, seval]
         refine acond_b (fun h => ?_) (fun h => ?_) <;> (try simp only [decide_eq_true_eq, decide_eq_false_iff_not] at h) <;> simp (disch := omega) only [Sh.out h, go_sem, seval]
         ·have hk2 : k < x.before.length := by omega
          refine (seqBefore_c r.visits r.visits_c (nth x.before k).1 (nth x.before k).2 hl).use ?_
          simp (disch := omega) only [go_sem, seval]
          refine acond_b (fun h2 => ?_) (fun h2 => ?_) <;> (try simp only [decide_eq_true_eq, decide_eq_false_iff_not] at h2) <;> simp (disch := omega) only [Sh.out h2, go_sem, seval]
          ·have h3 : (!beforeB r.visits (nth x.before k).1 (nth x.before k).2) = true := by simpa using h2
           rw [if_pos (any_yes hk2 h3)]
          ·have h3 : (!beforeB r.visits (nth x.before k).1 (nth x.before k).2) = false := by simpa using h2
           exact ⟨k + 1, ⟨by omega, upto_iff.2 ⟨hno, h3⟩⟩, by omega, Weak.mk (by simp (disch := omega) only [instO, rteO, go_sem, seval])⟩
         ·have hkl : k = x.before.length := by omega
          subst hkl
          rw [any_no hno]
          rfl
end Go.Proofs.YtcdoglogglbemaaGreatDoor.K
set_option linter.unusedVariables false
set_option linter.unusedSimpArgs false
namespace Go.Proofs.YtcdoglogglbemaaGreatDoor.K
open Go Go.AM Go.Proofs
set_option maxRecDepth 8000
set_option maxHeartbeats 8000000
@[go_sem] theorem wkV_tupe {H : List AM.Obj} {n cs cs'} : wkV H n (.tup cs) (.tup cs') = (cs' = cs ∧ refBs n cs = true) := by simp [wkV, frz, refB]
@[go_sem] theorem resOne_two {a b : V} : resOne [a, b] = .tup [a, b] := Eq.trans rfl rfl
theorem useT {g : FuncId} {args : List V} {a b : PV} {H : List AM.Obj} {K : V → List AM.Obj → Prop} (h : ACalls Tryz.prog g args [] fun x H' => x = .tup [.p a, .p b] ∧ H' = []) (k : K (.tup [.p a, .p b]) H) (ha : refBs 0 args = true := by rfl) : ACalls Tryz.prog g args H K :=
 (h.behind ha H).mono fun x H' hq => by
  obtain ⟨y, H1, ⟨rfl, rfl⟩, rfl, rfl⟩ := hq
  simpa [shV, shVs] using k
def ordS (l : List Vis) : Nat := l.foldl (fun s v => s ||| pw v.order.toNat) 0
def inS (v : Vis) : Bool := decide (0 ≤ v.order ∧ v.order ≤ 62)
theorem ordS_succ {l : List Vis} {k : Nat} (hk : k < l.length) : ordS (l.take (k + 1)) = ordS (l.take k) ||| pw (nth l k).order.toNat := by
 rw [List.take_succ_eq_append_getElem hk, ordS, List.foldl_append, nth_get hk]; rfl
theorem ordS_lt : ∀ (k : Nat) {l : List Vis}, k ≤ l.length → (∀ v ∈ l.take k, inS v = true) → ordS (l.take k) < 9223372036854775808
 | 0, l, _, _ => by simp [ordS]
 | k + 1, l, hk, h => by
  have hk2 : k < l.length := by omega
  have ih := ordS_lt k (l := l) (by omega) fun v hv => h v (List.take_subset_take_left l (by omega) hv)
  have hv := h (nth l k) (by rw [nth_get hk2]; exact List.mem_iff_getElem.2 ⟨k, by simp; omega, by simp⟩)
  simp only [inS, decide_eq_true_eq] at hv
  have h2 : pw (nth l k).order.toNat ≤ pw 62 := pw_le (by omega)
  have h3 := pw_62
  rw [ordS_succ hk2]
  exact Nat.or_lt_two_pow (n := 63) (by omega) (by omega)
def ordR (l : List Vis) : Int × Int := if l.all inS = true then (((ordS l : Nat) : Int), 0) else (0, 2)
theorem seqOrders_c (r : Rte) (hl : r.visits.length ≤ 1048576) : ACalls Tryz.prog 59 [.p (eRte r)] [] fun x H' => x = .tup [.p (.int .i64 (ordR r.visits).1), .p (.int .i64 (ordR r.visits).2)] ∧ H' = [] := by
 refine acalls_weak [] (fn := Tryz.f59) Tryz.func59 rfl isF59 ?_
 simp (disch := omega) only [Tryz.f59, go_sem, seval]
 refine awp_for [8, 9] (fun k : Nat => [(4, .p (.int .i64 (ordS (r.visits.take k) : Nat))), (10, .p (.int .i64 k))]) (fun _ => [rteO r]) (fun k => k ≤ r.visits.length ∧ ∀ j, j < k → inS (nth r.visits j) = true) (fun k => r.visits.length - k) 0 (by simp) (Weak.mk ?_) ?_
 ·simp (disch := omega) only [rteO, ordS, List.take_zero, List.foldl_nil, go_sem, seval]
 ·rintro k ⟨hk, hno⟩
  have hlt := ordS_lt k hk fun v hv => by
   obtain ⟨j, hj, rfl⟩ := List.mem_iff_getElem.1 hv
   simp at hj
   rw [List.getElem_take, ← nth_get (by omega)]
   exact hno j (by omega)
  simp (disch := omega) only [rteO, go_sem, seval]
  refine acond_b (fun h => ?_) (fun h => ?_) <;> (try simp only [decide_eq_true_eq, decide_eq_false_iff_not] at h) <;> simp (disch := omega) only [Sh.out h, go_sem, seval]
  ·have hk2 : k < r.visits.length := by omega
   have hbad : inS (nth r.visits k) = false → ordR r.visits = (0, 2) := fun h4 => by
    have : r.visits.all inS = false := by rw [List.all_eq_false]; exact ⟨nth r.visits k, nth_mem hk2, by rw [h4]; simp⟩
    simp [ordR, this]
   have hs := ordS_succ hk2
   have hp : (nth r.visits k).order ≤ 62 → pw (nth r.visits k).order.toNat ≤ 4611686018427387904 := fun h => by rw [← pw_62]; exact pw_le (by omega)
   refine aguard_f (fun h1 => ?_) (fun h1 => ?_) <;> (try simp only [decide_eq_true_eq, decide_eq_false_iff_not] at h1) <;> simp (disch := omega) only [Sh.out h1, go_sem, seval]
   ·have e := hbad (by simp [inS]; omega)
    rw [e]
    exact ⟨_, _, Weak.mk (by simp (disch := omega) only [go_sem, seval]), rfl, rfl⟩
   ·refine acond_b (fun h2 => ?_) (fun h2 => ?_) <;> (try simp only [decide_eq_true_eq, decide_eq_false_iff_not] at h2) <;> simp (disch := omega) only [Sh.out h2, go_sem, seval]
    ·have e := hbad (by simp [inS]; omega)
     rw [e]
     exact ⟨_, _, Weak.mk (by simp (disch := omega) only [go_sem, seval]), rfl, rfl⟩
    ·exact ⟨k + 1, ⟨by omega, upto_iff.2 ⟨hno, by simp [inS]; omega⟩⟩, by omega, Weak.mk (by simp (disch := omega) only [rteO, hs, go_sem, seval])⟩
  ·have hkl : k = r.visits.length := by omega
   subst hkl
   have : r.visits.all inS = true := by
    rw [List.all_eq_true]
    intro v hv
    obtain ⟨j, hj, rfl⟩ := List.mem_iff_getElem.1 hv
    rw [← nth_get hj]; exact hno j hj
   have e : ordR r.visits = (((ordS r.visits : Nat) : Int), 0) := by simp [ordR, this]
   rw [e, List.take_length]
   exact ⟨_, _, Weak.mk (by simp (disch := omega) only [go_sem, seval]), rfl, rfl⟩
def cmpI (a b : Int) : Int := if a < b then -1 else if b < a then 1 else 0
theorem isNaN_c (a : Int) : ACalls Tryz.prog 140 [.p (.int .i64 a)] [] fun x H' => x = .p (.bool false) ∧ H' = [] := by
 refine acalls_pure (fn := Tryz.f140) Tryz.func140 rfl isF140 ?_
 simp (disch := omega) only [Tryz.f140, go_sem, seval]
 try simp
theorem cmp_c (a b : Int) : ACalls Tryz.prog 93 [.p (.int .i64 a), .p (.int .i64 b)] [] fun x H' => x = .p (.int .i64 (cmpI a b)) ∧ H' = [] := by
 refine acalls_pure (fn := Tryz.f93) Tryz.func93 rfl isF93 ?_
 simp (disch := omega) only [Tryz.f93, go_sem, seval]
 refine (isNaN_c a).use ?_
 simp (disch := omega) only [go_sem, seval]
 refine (isNaN_c b).use ?_
 simp (disch := omega) only [go_sem, seval]
 refine acond_b (fun h => ?_) (fun h => ?_) <;> (try simp only [decide_eq_true_eq, decide_eq_false_iff_not] at h) <;> simp (disch := omega) only [Sh.out h, go_sem, seval]
 ·simp [cmpI, h]
 ·refine acond_b (fun h2 => ?_) (fun h2 => ?_) <;> (try simp only [decide_eq_true_eq, decide_eq_false_iff_not] at h2) <;> simp (disch := omega) only [Sh.out h2, go_sem, seval]
  ·simp [cmpI, h, h2]
  ·simp [cmpI, h, h2]
def dn (v : Vis) : Int := if v.drp = true then 1 else 0
end Go.Proofs.YtcdoglogglbemaaGreatDoor.K
set_option linter.unusedVariables false
set_option linter.unusedSimpArgs false
namespace Go.Proofs.YtcdoglogglbemaaGreatDoor.K
open Go Go.AM Go.Proofs
set_option maxRecDepth 8000
set_option maxHeartbeats 8000000
def walk (nx : List Vis → List Vis) : Nat → List Vis → List (List Vis) → List (List Vis) × Bool
 | 0, l, outs => (outs ++ [l], decide (outs.length + 1 ≤ 8192))
 | f + 1, l, outs => (nx l).foldl (fun acc v => if acc.2 = true then walk nx f (l ++ [v]) acc.1 else acc) (outs, true)
end Go.Proofs.YtcdoglogglbemaaGreatDoor.K
set_option linter.unusedVariables false
set_option linter.unusedSimpArgs false
namespace Go.Proofs.YtcdoglogglbemaaGreatDoor.K
open Go Go.AM Go.Proofs
set_option maxRecDepth 8000
set_option maxHeartbeats 8000000
def Plc (x : Inst) : Prop := ∀ o ∈ x.orders, -1 ≤ o.pick.place ∧ -1 ≤ o.drp.place
def lateB (l : List Vis) (a b : Int) (j k : Nat) : Bool := decide ((nth l j).order = a) && decide ((nth l k).order = b)
end Go.Proofs.YtcdoglogglbemaaGreatDoor.K
set_option linter.unusedVariables false
set_option linter.unusedSimpArgs false
namespace Go.Proofs.YtcdoglogglbemaaGreatDoor.K
open Go Go.AM Go.Proofs
theorem memU_iff {S : Nat} {a : Int} : a ∈ memU (S : Int) 63 ↔ ∃ i : Nat, a = (i : Int) ∧ i < 63 ∧ S.testBit i = true := by
 simp only [memU, List.mem_map, List.mem_filter, List.mem_range]
 constructor
 ·rintro ⟨i, ⟨h1, h2⟩, rfl⟩
  rw [sHas_nat S i (by omega)] at h2
  exact ⟨i, rfl, h1, h2⟩
 ·rintro ⟨i, rfl, h1, h2⟩
  exact ⟨i, ⟨h1, by rw [sHas_nat S i (by omega)]; exact h2⟩, rfl⟩
theorem vIx_mem {l : List Vis} {v : Vis} : 0 ≤ vIx l v ↔ v ∈ l := by
 have := fIx_ge (f := fun w => decide (v = w)) (l := l)
 have h2 : (l.any fun w => decide (v = w)) = true ↔ v ∈ l := by
  rw [List.any_eq_true]
  exact ⟨fun ⟨w, hw, e⟩ => by simp at e; rw [e]; exact hw, fun h => ⟨v, h, by simp⟩⟩
 rw [← h2, ← this, vIx]; simp
def Vne (x : Inst) : Prop := ∀ i, i < x.orders.length → visO x.orders i ≠ []
end Go.Proofs.YtcdoglogglbemaaGreatDoor.K
set_option linter.unusedVariables false
set_option linter.unusedSimpArgs false
namespace Go.Proofs.YtcdoglogglbemaaGreatDoor.K
open Go Go.AM Go.Proofs
def plnO (p : Pln) : AM.Obj := .cells [.p (.list p.routes_c (p.routes.map eRte)), .p (.list p.unserved_c (p.unserved.map eI))]
def rteB (r : Rte) : Prop := r.visits.length ≤ 1048576 ∧ r.rests.length ≤ 1048576
end Go.Proofs.YtcdoglogglbemaaGreatDoor.K
set_option linter.unusedVariables false
set_option linter.unusedSimpArgs false
namespace Go.Proofs.YtcdoglogglbemaaGreatDoor.K
open Go Go.AM Go.Proofs
def setL (l : List Int) : Nat := l.foldl (fun s i => s ||| pw i.toNat) 0
theorem setL_snoc (l : List Int) (i : Int) : setL (l ++ [i]) = setL l ||| pw i.toNat := by simp [setL]
theorem setL_take {l : List Int} {k : Nat} (h : k < l.length) : setL (l.take (k + 1)) = setL (l.take k) ||| pw (nth l k).toNat := by
 rw [List.take_succ_eq_append_getElem h, setL_snoc, nth_get h]
theorem foldl_bit (l : List Int) (j : Nat) : ∀ s : Nat, (l.foldl (fun s i => s ||| pw i.toNat) s).testBit j = (s.testBit j || l.any fun i => decide (i.toNat = j)) := by
 induction l with
 | nil => simp
 | cons a l ih =>
  intro s
  rw [List.foldl_cons, ih, Nat.testBit_or, testBit_pw, List.any_cons, Bool.or_assoc]
theorem setL_bit (l : List Int) (j : Nat) : (setL l).testBit j = l.any fun i => decide (i.toNat = j) := by
 rw [setL, foldl_bit]; simp
theorem setL_iff {l : List Int} {j : Nat} : (setL l).testBit j = true ↔ ∃ i ∈ l, i.toNat = j := by
 rw [setL_bit, List.any_eq_true]; simp
theorem lt_pw {s n : Nat} (h : ∀ j, s.testBit j = true → j < n) : s < pw n := by
 apply Nat.lt_of_not_le
 intro hle
 obtain ⟨j, h1, h2⟩ := Nat.exists_ge_and_testBit_of_ge_two_pow hle
 have := h j h2
 omega
theorem bit_pw {s n j : Nat} (h : s < pw n) (hj : s.testBit j = true) : j < n := by
 rcases Nat.lt_or_ge j n with h1 | h1
 ·exact h1
 ·have : s < 2 ^ j := Nat.lt_of_lt_of_le h (pw_le h1)
  rw [Nat.testBit_lt_two_pow this] at hj; cases hj
theorem setL_lt {l : List Int} {n : Nat} (h : ∀ i ∈ l, i.toNat < n) : setL l < pw n := lt_pw fun j hj => by
 obtain ⟨i, h1, rfl⟩ := setL_iff.1 hj
 exact h i h1
theorem memU_asc (s : Int) : ∀ k, (memU s k).Pairwise (· < ·) := fun k => by
 rw [memU, List.pairwise_map]
 exact (List.pairwise_lt_range (n := k)).filter _ |>.imp fun h => by omega
theorem asc_eq {a b : List Int} (ha : a.Pairwise (· < ·)) (hb : b.Pairwise (· < ·)) (h : ∀ x, x ∈ a ↔ x ∈ b) : a = b := by
 have na : a.Nodup := ha.imp fun h => by omega
 have nb : b.Nodup := hb.imp fun h => by omega
 exact ((List.perm_ext_iff_of_nodup na nb).2 h).eq_of_pairwise (fun x y _ _ h1 h2 => by omega) ha hb
def srvS (l : List Rte) : Nat := l.foldl (fun s r => s ||| ordS r.visits) 0
theorem ordS_set (l : List Vis) : ordS l = setL (l.map (·.order)) := by rw [ordS, setL, List.foldl_map]
theorem srvS_take {l : List Rte} {k : Nat} (h : k < l.length) : srvS (l.take (k + 1)) = srvS (l.take k) ||| ordS (nth l k).visits := by
 rw [List.take_succ_eq_append_getElem h, srvS, List.foldl_append, nth_get h]; rfl
theorem srvS_iff {l : List Rte} {j : Nat} : (srvS l).testBit j = true ↔ ∃ r ∈ l, ∃ v ∈ r.visits, v.order.toNat = j := by
 have : ∀ (l : List Rte) (s : Nat), (l.foldl (fun s r => s ||| ordS r.visits) s).testBit j = true ↔ s.testBit j = true ∨ ∃ r ∈ l, ∃ v ∈ r.visits, v.order.toNat = j := by
  intro l
  induction l with
  | nil => simp
  | cons a l ih =>
   intro s
   rw [List.foldl_cons, ih, Nat.testBit_or, Bool.or_eq_true, ordS_set, setL_iff, or_assoc]
   simp only [List.mem_map, List.mem_cons, exists_eq_or_imp]
   refine or_congr Iff.rfl (or_congr ?_ Iff.rfl)
   constructor
   ·rintro ⟨i, ⟨v, h1, rfl⟩, h2⟩; exact ⟨v, h1, h2⟩
   ·rintro ⟨v, h1, h2⟩; exact ⟨_, ⟨v, h1, rfl⟩, h2⟩
 rw [srvS, this]; simp
def knoV (n : Nat) (v : Vis) : Bool := decide (0 ≤ v.order) && decide (v.order < (n : Int))
def knoR (n : Nat) (r : Rte) : Bool := r.visits.all (knoV n)
def kno (n : Nat) (l : List Rte) : Bool := l.all (knoR n)
theorem kno_iff {n : Nat} {l : List Rte} : kno n l = true ↔ ∀ r ∈ l, ∀ v ∈ r.visits, 0 ≤ v.order ∧ v.order < (n : Int) := by
 simp [kno, knoR, knoV, List.all_eq_true]
theorem srvS_lt {n : Nat} {l : List Rte} (h : kno n l = true) : srvS l < pw n := lt_pw fun j hj => by
 obtain ⟨r, h1, v, h2, rfl⟩ := srvS_iff.1 hj
 have := kno_iff.1 h r h1 v h2
 omega
theorem ordS_knoR {n : Nat} {r : Rte} (h : knoR n r = true) : ordS r.visits < pw n := by
 rw [ordS_set]
 refine setL_lt fun i hi => ?_
 obtain ⟨v, hv, rfl⟩ := List.mem_map.1 hi
 have := List.all_eq_true.1 h v hv
 simp only [knoV, Bool.and_eq_true, decide_eq_true_eq] at this
 omega
theorem knoR_inS {n : Nat} {r : Rte} (hn : n ≤ 60) (h : knoR n r = true) : r.visits.all inS = true := by
 rw [List.all_eq_true]
 intro v hv
 have := List.all_eq_true.1 h v hv
 simp only [knoV, Bool.and_eq_true, decide_eq_true_eq] at this
 simp only [inS, decide_eq_true_eq]
 omega
theorem inS_knoR {n : Nat} {r : Rte} (h : r.visits.all inS = true) (h2 : ordS r.visits < pw n) : knoR n r = true := by
 rw [knoR, List.all_eq_true]
 intro v hv
 have h3 := List.all_eq_true.1 h v hv
 simp only [inS, decide_eq_true_eq] at h3
 have h4 : v.order.toNat < n := bit_pw h2 (by rw [ordS_set, setL_iff]; exact ⟨v.order, List.mem_map.2 ⟨v, hv, rfl⟩, rfl⟩)
 simp only [knoV, Bool.and_eq_true, decide_eq_true_eq]
 omega
noncomputable def lvB (n : Nat) (be : List (Int × Int)) (all set : Nat) (i : Nat) : Bool := all.testBit i && decide (needsOf n be (i : Int) &&& set &&& all ≠ 0)
noncomputable def lvS (n : Nat) (be : List (Int × Int)) (all set : Nat) : Nat := setOf (lvB n be all set) n
theorem lvS_lt (n be all set) : lvS n be all set < pw n := setOf_lt _ _
theorem lvS_bit (n be all set j) : (lvS n be all set).testBit j = (decide (j < n) && lvB n be all set j) := setOf_bit _ _ _
theorem lvS_set {n : Nat} {be : List (Int × Int)} {all set : Nat} (hn : n ≤ 60) (ha : all < pw n) : setL ((memU (all : Int) 63).filter fun i => decide (needsOf n be i &&& set &&& all ≠ 0)) = lvS n be all set := Nat.eq_of_testBit_eq fun j => by
 rw [Bool.eq_iff_iff, setL_iff, lvS_bit, lvB]
 simp only [List.mem_filter, memU_iff, Bool.and_eq_true]
 constructor
 ·rintro ⟨i, ⟨⟨k, rfl, _, h1⟩, h2⟩, rfl⟩
  exact ⟨by have := bit_pw ha h1; simpa using this, h1, h2⟩
 ·rintro ⟨h0, h1, h2⟩
  exact ⟨(j : Int), ⟨⟨j, rfl, by simp at h0; omega, h1⟩, h2⟩, rfl⟩
def cutR (g : Nat) (r : Rte) : Rte := { r with visits_c := false, visits := r.visits.filter fun v => !g.testBit v.order.toNat }
def leftR (g : Nat) (l : List Rte) : List Rte := (l.map (cutR g)).filter fun r => decide (0 < r.visits.length)
theorem leftR_take {g : Nat} {l : List Rte} {k : Nat} (h : k < l.length) : leftR g (l.take (k + 1)) = leftR g (l.take k) ++ (if 0 < (cutR g (nth l k)).visits.length then [cutR g (nth l k)] else []) := by
 rw [List.take_succ_eq_append_getElem h, leftR, List.map_append, List.filter_append, nth_get h]
 congr 1
 by_cases c : 0 < (cutR g l[k]).visits.length <;> simp [c]
theorem leftR_len {g : Nat} {l : List Rte} : (leftR g l).length ≤ l.length := by
 rw [leftR]
 exact Nat.le_trans (List.length_filter_le _ _) (by simp)
def unsL (g : Nat) (us : List Int) : List Int := memU ((setL us ||| g : Nat) : Int) 63
def zPln : Pln := ⟨true, [], true, []⟩
def okSet (n : Nat) (set : Int) : Bool := decide (0 ≤ set) && decide (set < (pw n : Nat))
noncomputable def goneF (x : Inst) (p : Pln) (set : Int) : Nat := lvS x.orders.length x.before (srvS p.routes) set.toNat
def rmP (p : Pln) (g : Nat) : Pln := ⟨false, leftR g p.routes, false, unsL g p.unserved⟩
def unsI (n : Nat) (us : List Int) : Bool := us.all fun u => decide (0 ≤ u) && decide (u < (n : Int))
def askB (x : Inst) (p : Pln) : Bool := kno x.orders.length p.routes && unsI x.orders.length p.unserved
noncomputable def rmF (x : Inst) (p : Pln) (set : Int) : Pln × Nat × Int :=
 if askB x p && okSet x.orders.length set then (rmP p (goneF x p set), goneF x p set, 0) else (zPln, 0, 2)
end Go.Proofs.YtcdoglogglbemaaGreatDoor.K
set_option linter.unusedVariables false
set_option linter.unusedSimpArgs false
namespace Go.Proofs.YtcdoglogglbemaaGreatDoor.K
open Go Go.AM Go.Proofs
def leK (q : Int → Bool) (v : Int → Int) (a b : Int) : Bool := if q a = q b then decide (v a < v b ∨ (v a = v b ∧ a ≤ b)) else q b
theorem leK_trans {q v} {a b c : Int} (h1 : leK q v a b = true) (h2 : leK q v b c = true) : leK q v a c = true := by
 unfold leK at *
 cases ha : q a <;> cases hb : q b <;> cases hc : q c <;> simp [ha, hb, hc] at h1 h2 ⊢ <;> omega
theorem leK_total {q v} (a b : Int) : (leK q v a b || leK q v b a) = true := by
 unfold leK
 cases ha : q a <;> cases hb : q b <;> simp <;> omega
theorem leK_anti {q v} {a b : Int} (h1 : leK q v a b = true) (h2 : leK q v b a = true) : a = b := by
 unfold leK at *
 cases ha : q a <;> cases hb : q b <;> simp [ha, hb] at h1 h2 <;> omega
def srtK (q : Int → Bool) (v : Int → Int) (l : List Int) : List Int := l.mergeSort (leK q v)
theorem srtK_perm (q v l) : (srtK q v l).Perm l := List.mergeSort_perm l _
theorem srtK_srt (q v l) : (srtK q v l).Pairwise fun a b => leK q v a b = true := List.pairwise_mergeSort (le := leK q v) (fun _ _ _ h1 h2 => leK_trans h1 h2) (fun a b => leK_total a b) l
theorem srtK_eq {q v} {l m : List Int} (hp : m.Perm l) (hs : m.Pairwise fun a b => leK q v a b = true) : m = srtK q v l :=
 (hp.trans (srtK_perm q v l).symm).eq_of_pairwise (fun _ _ _ _ h1 h2 => leK_anti h1 h2) hs (srtK_srt q v l)
theorem srtK_len {q v l} : (srtK q v l).length = l.length := (srtK_perm q v l).length_eq
theorem srtK_mem {q v l i} : i ∈ srtK q v l ↔ i ∈ l := (srtK_perm q v l).mem_iff
def takK (q : Int → Bool) (v : Int → Int) (l : List Int) (n : Nat) : Nat := setL ((srtK q v l).take n)
theorem asc_nodup {l : List Int} (h : l.Pairwise (· < ·)) : l.Nodup := h.imp fun h => by omega
theorem setL_append (a b : List Int) : setL (a ++ b) = setL a ||| setL b := Nat.eq_of_testBit_eq fun j => by
 rw [Nat.testBit_or, setL_bit, setL_bit, setL_bit, List.any_append]
theorem srtK_split {q v} {l : List Int} (ha : l.Pairwise (· < ·)) (h0 : ∀ i ∈ l, q i = true → v i = 0) : srtK q v l = srtK (fun _ => false) v (l.filter fun i => !q i) ++ l.filter q := by
 symm
 refine srtK_eq ?_ ?_
 ·exact ((srtK_perm _ _ _).append_right _).trans ((List.perm_append_comm).trans (List.filter_append_perm q l))
 ·rw [List.pairwise_append]
  refine ⟨(srtK_srt (fun _ => false) v (l.filter fun i => !q i)).imp_of_mem fun {a b} h1 h2 h => ?_, (ha.filter q).imp_of_mem fun {a b} h1 h2 h => ?_, fun a h1 b h2 => ?_⟩
  ·have e1 := (List.mem_filter.1 (srtK_mem.1 h1)).2
   have e2 := (List.mem_filter.1 (srtK_mem.1 h2)).2
   simp at e1 e2
   unfold leK at h ⊢
   rw [if_pos rfl] at h
   rw [e1, e2, if_pos rfl]
   exact h
  ·have e1 := List.mem_filter.1 h1
   have e2 := List.mem_filter.1 h2
   have v1 := h0 _ e1.1 e1.2
   have v2 := h0 _ e2.1 e2.2
   unfold leK
   rw [e1.2, e2.2, if_pos rfl, v1, v2]
   simp; omega
  ·have e1 := (List.mem_filter.1 (srtK_mem.1 h1)).2
   have e2 := (List.mem_filter.1 h2).2
   simp at e1
   unfold leK
   rw [e1, e2]
   simp
theorem takK_split {q v} {l : List Int} (ha : l.Pairwise (· < ·)) (h0 : ∀ i ∈ l, q i = true → v i = 0) (n : Nat) : takK q v l n = takK (fun _ => false) v (l.filter fun i => !q i) n ||| takK (fun _ => false) (fun _ => 0) (l.filter q) (n - (l.filter fun i => !q i).length) := by
 have e : srtK (fun _ => false) (fun _ => 0) (l.filter q) = l.filter q := by
  symm
  refine srtK_eq (.refl _) ((ha.filter q).imp fun {a b} h => ?_)
  simp [leK]; omega
 unfold takK
 rw [srtK_split ha h0, List.take_append, setL_append, srtK_len, e]
end Go.Proofs.YtcdoglogglbemaaGreatDoor.K
set_option linter.unusedVariables false
set_option linter.unusedSimpArgs false
namespace Go.Proofs.YtcdoglogglbemaaGreatDoor.K
section
variable {L : Type} (fin : L → Int) (beats : L → L → Bool) (nxt : Nat → L → Bool → Option L) (choices : Nat → List Bool)
def fmL : Option L → List L → Option L
 | b, [] => b
 | none, x :: l => fmL (some x) l
 | some m, x :: l => if fin x < fin m then fmL (some x) l else fmL (some m) l
theorem fmL_app : ∀ (b : Option L) (l r : List L), fmL fin b (l ++ r) = fmL fin (fmL fin b l) r
 | b, [], r => by cases b <;> simp [fmL]
 | none, x :: l, r => by rw [List.cons_append, fmL, fmL, fmL_app]
 | some m, x :: l, r => by
  rw [List.cons_append, fmL, fmL]
  split
  ·rw [fmL_app]
  ·rw [fmL_app]
theorem fmL_some : ∀ (l : List L) (m : L), ∃ z, fmL fin (some m) l = some z ∧ fin z ≤ fin m ∧ ∀ y ∈ l, fin z ≤ fin y
 | [], m => ⟨m, rfl, by omega, by simp⟩
 | x :: l, m => by
  rw [fmL]
  split
  ·rename_i h
   obtain ⟨z, e, h1, h2⟩ := fmL_some l x
   refine ⟨z, e, by omega, fun y hy => ?_⟩
   rcases List.mem_cons.1 hy with rfl | hy
   ·exact h1
   ·exact h2 y hy
  ·rename_i h
   obtain ⟨z, e, h1, h2⟩ := fmL_some l m
   refine ⟨z, e, h1, fun y hy => ?_⟩
   rcases List.mem_cons.1 hy with rfl | hy
   ·omega
   ·exact h2 y hy
theorem fmL_keep : ∀ (l : List L) (m : L), (∀ y ∈ l, fin m ≤ fin y) → fmL fin (some m) l = some m
 | [], m, _ => rfl
 | x :: l, m, h => by
  have := h x List.mem_cons_self
  rw [fmL, if_neg (by omega)]
  exact fmL_keep l m fun y hy => h y (List.mem_cons_of_mem _ hy)
theorem fmL_later (A B : List L) (h : ∀ y ∈ B, ∃ z ∈ A, fin z ≤ fin y) : fmL fin none (A ++ B) = fmL fin none A := by
 rw [fmL_app]
 cases A with
 | nil => cases B with
  | nil => rfl
  | cons y B => obtain ⟨z, hz, _⟩ := h y List.mem_cons_self; simp at hz
 | cons a A =>
  rw [fmL]
  obtain ⟨z, e, h1, h2⟩ := fmL_some fin A a
  rw [e]
  refine fmL_keep fin B z fun y hy => ?_
  obtain ⟨q, hq, hle⟩ := h y hy
  rcases List.mem_cons.1 hq with rfl | hq
  ·omega
  ·have := h2 q hq; omega
def pruneL : List L → List L → List L
 | out, [] => out
 | out, x :: l => if out.any (fun m => beats m x) = true then pruneL out l else pruneL (out ++ [x]) l
theorem fmL_prune {R : L → List L} : ∀ (c out : List L), (∀ x ∈ out ++ c, ∀ m ∈ out ++ c, beats m x = true → ∀ y ∈ R x, ∃ z ∈ R m, fin z ≤ fin y) → fmL fin none ((pruneL beats out c).flatMap R) = fmL fin none ((out ++ c).flatMap R)
 | [], out, _ => by simp [pruneL]
 | x :: c, out, h => by
  rw [pruneL]
  split
  ·rename_i hb
   obtain ⟨m, hm, hb⟩ := List.any_eq_true.1 hb
   have hb : beats m x = true := by simpa using hb
   rw [fmL_prune c out (fun a ha b hb => h a (by simp only [List.mem_append, List.mem_cons] at ha ⊢; rcases ha with h | h <;> simp [h]) b (by simp only [List.mem_append, List.mem_cons] at hb ⊢; rcases hb with h | h <;> simp [h]))]
   rw [List.flatMap_append, List.flatMap_append, List.flatMap_cons, ← List.append_assoc, fmL_app, fmL_app (l := out.flatMap R ++ R x)]
   rw [fmL_later fin (out.flatMap R) (R x)]
   intro y hy
   obtain ⟨z, hz, hle⟩ := h x (by simp) m (by simp [hm]) hb y hy
   exact ⟨z, List.mem_flatMap.2 ⟨m, hm, hz⟩, hle⟩
  ·rw [fmL_prune c (out ++ [x]) (by simpa using h)]
   simp
theorem prune_sub : ∀ (c out : List L), ∀ x ∈ pruneL beats out c, x ∈ out ++ c
 | [], out, x, h => by simpa [pruneL] using h
 | a :: c, out, x, h => by
  rw [pruneL] at h
  split at h
  ·have := prune_sub c out x h
   simp only [List.mem_append, List.mem_cons] at this ⊢
   rcases this with h | h <;> simp [h]
  ·have := prune_sub c (out ++ [a]) x h
   simpa using this
def extL : Nat → Nat → List (List Bool)
 | 0, _ => [[]]
 | j + 1, k => (choices k).flatMap fun b => (extL j (k + 1)).map (b :: ·)
def runO : Nat → L → List Bool → Option L
 | _, x, [] => some x
 | k, x, b :: bs => match nxt k x b with
  | some y => runO (k + 1) y bs
  | none => none
def reachL (j k : Nat) (x : L) : List L := (extL choices j k).filterMap (runO nxt k x)
def candL (k : Nat) (l : List L) : List L := l.flatMap fun x => (choices k).filterMap (nxt k x)
def iterL : Nat → Nat → List L → List L
 | 0, _, l => l
 | j + 1, k, l => iterL j (k + 1) (pruneL beats [] (candL nxt choices k l))
theorem reach_zero (k : Nat) (x : L) : reachL nxt choices 0 k x = [x] := rfl
theorem reach_succ (j k : Nat) (x : L) : reachL nxt choices (j + 1) k x = ((choices k).filterMap (nxt k x)).flatMap (reachL nxt choices j (k + 1)) := by
 unfold reachL
 rw [extL]
 induction choices k with
 | nil => rfl
 | cons b bs ih =>
  rw [List.flatMap_cons, List.filterMap_append, ih, List.filterMap_cons]
  cases h : nxt k x b with
  | none =>
   rw [List.filterMap_map]
   have : (runO nxt k x ∘ fun l => b :: l) = fun _ => none := by funext l; simp [runO, h]
   rw [this]; simp
  | some y =>
   rw [List.filterMap_map]
   have : (runO nxt k x ∘ fun l => b :: l) = runO nxt (k + 1) y := by funext l; simp [runO, h]
   rw [this]; rfl
theorem reach_dom {n : Nat} {Inv : Nat → L → Prop} (hI : ∀ k x b y, Inv k x → nxt k x b = some y → Inv (k + 1) y) (hd : ∀ k m x b y, Inv k m → Inv k x → beats m x = true → nxt k x b = some y → ∃ z, nxt k m b = some z ∧ beats z y = true)
  (he : ∀ m x, Inv n m → Inv n x → beats m x = true → fin m ≤ fin x) : ∀ (j k : Nat) (m x : L), k + j = n → Inv k m → Inv k x → beats m x = true → ∀ y ∈ reachL nxt choices j k x, ∃ z ∈ reachL nxt choices j k m, fin z ≤ fin y
 | 0, k, m, x, hk, h1, h2, hb, y, hy => by
  rw [reach_zero] at hy ⊢
  simp at hy; subst hy
  have hk : k = n := by omega
  subst hk
  exact ⟨m, by simp, he m y h1 h2 hb⟩
 | j + 1, k, m, x, hk, h1, h2, hb, y, hy => by
  rw [reach_succ] at hy ⊢
  obtain ⟨q, hq, hy⟩ := List.mem_flatMap.1 hy
  obtain ⟨b, hbm, hn⟩ := List.mem_filterMap.1 hq
  obtain ⟨z, hz, hzb⟩ := hd k m x b q h1 h2 hb hn
  obtain ⟨u, hu, hle⟩ := reach_dom hI hd he j (k + 1) z q (by omega) (hI k m b z h1 hz) (hI k x b q h2 hn) hzb y hy
  exact ⟨u, List.mem_flatMap.2 ⟨z, List.mem_filterMap.2 ⟨b, hbm, hz⟩, hu⟩, hle⟩
theorem iter_fm {n : Nat} {Inv : Nat → L → Prop} (hI : ∀ k x b y, Inv k x → nxt k x b = some y → Inv (k + 1) y) (hd : ∀ k m x b y, Inv k m → Inv k x → beats m x = true → nxt k x b = some y → ∃ z, nxt k m b = some z ∧ beats z y = true)
  (he : ∀ m x, Inv n m → Inv n x → beats m x = true → fin m ≤ fin x) : ∀ (j k : Nat) (l : List L), k + j = n → (∀ x ∈ l, Inv k x) → fmL fin none (iterL beats nxt choices j k l) = fmL fin none (l.flatMap (reachL nxt choices j k))
 | 0, k, l, hk, hl => by
  have : l.flatMap (reachL nxt choices 0 k) = l := by
   have : reachL nxt choices 0 k = fun x => [x] := by funext x; exact reach_zero nxt choices k x
   rw [this]; simp
  rw [this]; rfl
 | j + 1, k, l, hk, hl => by
  have hc : ∀ x ∈ candL nxt choices k l, Inv (k + 1) x := fun x hx => by
   obtain ⟨q, hq, hx⟩ := List.mem_flatMap.1 hx
   obtain ⟨b, _, hn⟩ := List.mem_filterMap.1 hx
   exact hI k q b x (hl q hq) hn
  have e : l.flatMap (reachL nxt choices (j + 1) k) = (candL nxt choices k l).flatMap (reachL nxt choices j (k + 1)) := by
   rw [candL, List.flatMap_assoc]
   congr 1
   funext x
   exact reach_succ nxt choices j k x
  rw [iterL, iter_fm hI hd he j (k + 1) _ (by omega) (fun x hx => hc x (by simpa using prune_sub beats _ _ x hx)), fmL_prune fin beats _ _ (fun x hx m hm hb y hy => ?_), e]
  ·simp
  ·exact reach_dom fin beats nxt choices hI hd he j (k + 1) m x (by omega) (hc m (by simpa using hm)) (hc x (by simpa using hx)) hb y hy
def fromB : List Bool → List (List Bool)
 | [] => [[]]
 | b :: bs => if b then (fromB bs).map (true :: ·) else (fromB bs).map (false :: ·) ++ (fromB (List.replicate bs.length false)).map (true :: ·)
termination_by l => l.length
decreasing_by all_goals simp
def nextB : List Bool → Option (List Bool)
 | [] => none
 | b :: bs => match nextB bs with
  | some l => some (b :: l)
  | none => if b then none else some (true :: List.replicate bs.length false)
theorem fromB_next : ∀ l : List Bool, fromB l = l :: (match nextB l with | some r => fromB r | none => [])
 | [] => by simp [fromB, nextB]
 | b :: bs => by
  have ih := fromB_next bs
  have e0 : ∀ l : List Bool, fromB (true :: l) = (fromB l).map (true :: ·) := fun l => by rw [fromB]; simp
  have e1 : ∀ l : List Bool, fromB (false :: l) = (fromB l).map (false :: ·) ++ (fromB (List.replicate l.length false)).map (true :: ·) := fun l => by rw [fromB]; simp
  cases b with
  | true =>
   rw [e0, ih, nextB]
   cases h : nextB bs with
   | none => simp
   | some r => simp [e0]
  | false =>
   rw [e1, ih, nextB]
   cases h : nextB bs with
   | none => simp [e0]
   | some r =>
    have hl : r.length = bs.length := nlen bs r h
    simp [e1, hl]
where nlen : ∀ (l r : List Bool), nextB l = some r → r.length = l.length
 | [], r, h => by simp [nextB] at h
 | b :: bs, r, h => by
  rw [nextB] at h
  cases h2 : nextB bs with
  | none =>
   rw [h2] at h
   cases b <;> simp at h
   subst h; simp
  | some q =>
   rw [h2] at h
   simp at h
   subst h
   simp [nlen bs q h2]
theorem ext_free {n : Nat} : ∀ (j k : Nat), (∀ q, k ≤ q → choices q = [false, true]) → extL choices j k = fromB (List.replicate j false)
 | 0, k, _ => by simp [extL, fromB]
 | j + 1, k, h => by
  rw [extL, h k (Nat.le_refl _), ext_free (n := n) j (k + 1) (fun q hq => h q (by omega)), List.replicate_succ, fromB]
  simp
end
end Go.Proofs.YtcdoglogglbemaaGreatDoor.K
set_option linter.unusedVariables false
set_option linter.unusedSimpArgs false
namespace Go.Proofs.YtcdoglogglbemaaGreatDoor.K
open Go Go.AM Go.Proofs
def ext (nx : List Vis → List Vis) : Nat → List Vis → List (List Vis) → List (List Vis)
 | 0, l, outs => if 8192 < outs.length then outs else outs ++ [l]
 | f + 1, l, outs => if 8192 < outs.length then outs else (nx l).foldl (fun acc v => ext nx f (l ++ [v]) acc) outs
end Go.Proofs.YtcdoglogglbemaaGreatDoor.K
set_option linter.unusedVariables false
set_option linter.unusedSimpArgs false
namespace Go.Proofs.YtcdoglogglbemaaGreatDoor.K
open Go Go.AM Go.Proofs
structure IFacts (x : Inst) : Prop where
 len : x.orders.length ≤ 10
 plc : Plc x
 vne : Vne x
 val : Val x.orders.length x.before
 ne : ∀ p ∈ x.before, p.1 ≠ p.2
 aval : Val x.orders.length x.apart
theorem flt_ok {n : Int} {word : List UInt8} {sm : Int × Int → Int × Int → Bool} {l : List (Int × Int)} (h : fltU n word sm l l.length = []) : ∀ p ∈ l, okP n p = true := by
 intro p hp
 obtain ⟨i, hi, rfl⟩ := List.mem_iff_getElem.1 hp
 have h2 := (List.append_eq_nil_iff.1 h).2
 rw [List.flatMap_eq_nil_iff] at h2
 have h3 := h2 i (by simpa using hi)
 rw [flt, nth_get hi] at h3
 cases h4 : okP n l[i] with
 | true => rfl
 | false => rw [h4] at h3; simp at h3
theorem instFacts {x : Inst} (h : InstOk x) : IFacts x := by
 have ho := h.orders
 obtain ⟨h1, h2⟩ := List.append_eq_nil_iff.1 h.rules
 have ha := flt_ok h1
 have hb := flt_ok h2
 have hpl : Plc x := fun o hm => by
  obtain ⟨i, hi, rfl⟩ := List.mem_iff_getElem.1 hm
  have := ho.2 i hi
  rw [← nth_get hi]
  exact ⟨this.pick.1, this.drp.1⟩
 have val : ∀ l : List (Int × Int), (∀ p ∈ l, okP x.orders.length p = true) → Val x.orders.length l := fun l h p hp => by
  have := h p hp
  simp [okP] at this; omega
 refine ⟨ho.1, hpl, fun i hi => ?_, val _ hb, fun p hp => ?_, val _ ha⟩
 ·have h3 := ho.2 i hi
  have h4 := hpl _ (nth_mem hi)
  have h5 := h3.one
  unfold visO
  by_cases h6 : 0 ≤ (nth x.orders i).pick.place
  ·simp [h6]
  ·have : 0 ≤ (nth x.orders i).drp.place := by omega
   simp [this]
 ·have := hb p hp
  simp [okP] at this; exact this.2
theorem hasO_iff {l : List Vis} {o : Int} : hasO l o = true ↔ ∃ v ∈ l, v.order = o := by simp [hasO]
theorem ordS_bit : ∀ (l : List Vis) (i : Nat), (ordS l).testBit i = true ↔ ∃ v ∈ l, v.order.toNat = i := by
 have key : ∀ (l : List Vis) (s i : Nat), (l.foldl (fun s v => s ||| pw v.order.toNat) s).testBit i = true ↔ s.testBit i = true ∨ ∃ v ∈ l, v.order.toNat = i := by
  intro l
  induction l with
  | nil => intro s i; simp
  | cons v l ih =>
   intro s i
   rw [List.foldl_cons, ih, Nat.testBit_or, testBit_pw, Bool.or_eq_true, decide_eq_true_eq, or_assoc]
   refine or_congr Iff.rfl ?_
   constructor
   ·rintro (h | ⟨w, hw, h⟩)
    ·exact ⟨v, by simp, h⟩
    ·exact ⟨w, by simp [hw], h⟩
   ·rintro ⟨w, hw, h⟩
    rcases List.mem_cons.1 hw with rfl | hw
    ·exact .inl h
    ·exact .inr ⟨w, hw, h⟩
 intro l i
 rw [ordS, key]
 simp
def Inr (x : Inst) (l : List Vis) : Prop := ∀ v ∈ l, 0 ≤ v.order ∧ v.order < x.orders.length
theorem vIx_at {l : List Vis} (hd : l.Nodup) {k : Nat} (hk : k < l.length) : vIx l (nth l k) = (k : Int) := by
 refine fIx_at hk (by simp) fun j hj => ?_
 have : nth l k ≠ nth l j := by
  rw [nth_get hk, nth_get (by omega)]
  exact fun e => (List.pairwise_iff_getElem.1 hd) j k (by omega) hk hj e.symm
 simpa using this
theorem vIx_get {l : List Vis} {v : Vis} (h : 0 ≤ vIx l v) : (vIx l v).toNat < l.length ∧ nth l (vIx l v).toNat = v := by
 have hl := fIx_lt (f := fun w => decide (v = w)) (l := l)
 unfold vIx fIx at h ⊢
 cases hv : l.findIdx? (fun u => decide (v = u)) with
 | none => rw [hv] at h; simp at h
 | some i =>
  rw [List.findIdx?_eq_some_iff_getElem] at hv
  obtain ⟨h1, h2, _⟩ := hv
  simp at h2
  exact ⟨by simpa using h1, by simp [nth_get h1, h2]⟩
theorem take_mem {l : List Vis} {v : Vis} {i : Nat} (h : v ∈ l.take i) : ∃ j, j < i ∧ j < l.length ∧ nth l j = v := by
 obtain ⟨j, hj, rfl⟩ := List.mem_iff_getElem.1 h
 simp at hj
 exact ⟨j, by omega, by omega, by rw [List.getElem_take, nth_get (by omega)]⟩
theorem mem_take {l : List Vis} {i j : Nat} (h : j < i) (hl : j < l.length) : nth l j ∈ l.take i := by
 rw [nth_get hl]
 exact List.mem_iff_getElem.2 ⟨j, by simp; omega, by simp⟩
theorem twiceB_iff {l : List Vis} : twiceB l = false ↔ l.Nodup := by
 rw [twiceB, List.any_eq_false]
 constructor
 ·intro h
  rw [List.nodup_iff_pairwise_ne, List.pairwise_iff_getElem]
  intro i j hi hj hij e
  have := h j (by simpa using hj)
  simp only [decide_eq_true_eq, vIx_mem] at this
  refine this ?_
  rw [nth_get hj, ← e, ← nth_get hi]
  exact mem_take hij hi
 ·intro h j hj
  simp only [decide_eq_true_eq, vIx_mem]
  intro hm
  obtain ⟨i, h1, h2, h3⟩ := take_mem hm
  have hj2 : j < l.length := by simpa using hj
  have e1 := vIx_at h h2
  have e2 := vIx_at h hj2
  rw [h3] at e1
  omega
end Go.Proofs.YtcdoglogglbemaaGreatDoor.K
set_option linter.unusedVariables false
set_option linter.unusedSimpArgs false
namespace Go.Proofs.YtcdoglogglbemaaGreatDoor.K
open Go Go.AM Go.Proofs
def onB (x : Inst) (l : List Vis) (n i : Nat) : Bool := (l.take n).foldl (fun on v => if v.order = (i : Int) then !v.drp else on) (decide ((nth x.orders i).pick.place < 0))
theorem onB_zero {x : Inst} {l : List Vis} {i : Nat} : onB x l 0 i = decide ((nth x.orders i).pick.place < 0) := by simp [onB]
theorem onB_succ {x : Inst} {l : List Vis} {n i : Nat} (h : n < l.length) : onB x l (n + 1) i = if (nth l n).order = (i : Int) then !(nth l n).drp else onB x l n i := by
 rw [onB, List.take_succ_eq_append_getElem h, List.foldl_append, nth_get h]; rfl
structure SqOk (x : Inst) (l : List Vis) : Prop where
 ne : l ≠ []
 inr : Inr x l
 nd : l.Nodup
 pair : ∀ v ∈ l, pairB x.orders l v = true
theorem sqOk_of {x : Inst} {l : List Vis} (h : seqChk x l = 0) : SqOk x l := by
 unfold seqChk at h
 split at h
 ·simp at h
 ·rename_i h1
  split at h
  ·simp at h
  ·split at h
   ·simp at h
   ·rename_i h3
    split at h
    ·simp at h
    ·rename_i h4
     refine ⟨fun e => h1 (.inl (by simp [e])), fun v hv => ?_, twiceB_iff.1 (by simpa using h3), fun v hv => ?_⟩
     ·have h5 : ¬ (l.any (outB x)) = true := fun e => h1 (.inr e)
      have h6 : outB x v = false := by
       cases hb : outB x v with
       | false => rfl
       | true => exact absurd (List.any_eq_true.2 ⟨v, hv, hb⟩) h5
      simpa [outB] using h6
     ·have h5 : l.all (pairB x.orders l) = true := by simpa using h4
      exact List.all_eq_true.1 h5 v hv
structure OwnV (x : Inst) (l : List Vis) (i : Nat) : Prop where
 pick : 0 ≤ (nth x.orders i).pick.place → (⟨i, false⟩ : Vis) ∈ l
 drp : 0 ≤ (nth x.orders i).drp.place → (⟨i, true⟩ : Vis) ∈ l
 both : 0 ≤ (nth x.orders i).pick.place → 0 ≤ (nth x.orders i).drp.place → vIx l ⟨i, false⟩ < vIx l ⟨i, true⟩
 isP : (⟨i, false⟩ : Vis) ∈ l → 0 ≤ (nth x.orders i).pick.place
 isD : (⟨i, true⟩ : Vis) ∈ l → 0 ≤ (nth x.orders i).drp.place
theorem SqOk.own {x : Inst} {l : List Vis} (h : SqOk x l) {i : Nat} (hi : ∃ v ∈ l, v.order = (i : Int)) : OwnV x l i := by
 obtain ⟨v0, hv0, ho⟩ := hi
 have key : ∀ v ∈ l, v.order = (i : Int) → v ∈ visO x.orders i ∧ ascB l (-1) (visO x.orders i) = true := fun v hv hvo => by
  have := h.pair v hv
  simp only [pairB, hvo, Int.toNat_natCast, Bool.and_eq_true, decide_eq_true_eq] at this
  exact ⟨vIx_mem.1 this.1, this.2⟩
 obtain ⟨_, hasc⟩ := key v0 hv0 ho
 have mem : ∀ b : Bool, (⟨i, b⟩ : Vis) ∈ l → (⟨i, b⟩ : Vis) ∈ visO x.orders i := fun b hb => (key _ hb rfl).1
 have hp : (⟨i, false⟩ : Vis) ∈ visO x.orders i → 0 ≤ (nth x.orders i).pick.place := fun hm => by
  unfold visO at hm
  rcases List.mem_append.1 hm with hm | hm
  ·split at hm
   ·assumption
   ·simp at hm
  ·split at hm <;> simp at hm
 have hd : (⟨i, true⟩ : Vis) ∈ visO x.orders i → 0 ≤ (nth x.orders i).drp.place := fun hm => by
  unfold visO at hm
  rcases List.mem_append.1 hm with hm | hm
  ·split at hm <;> simp at hm
  ·split at hm
   ·assumption
   ·simp at hm
 have m1 : ∀ v, -1 < vIx l v → v ∈ l := fun v hv => vIx_mem.1 (by omega)
 unfold visO at hasc
 by_cases c1 : 0 ≤ (nth x.orders i).pick.place <;> by_cases c2 : 0 ≤ (nth x.orders i).drp.place
 ·simp only [c1, c2, if_true, List.cons_append, List.nil_append, ascB, Bool.and_true, Bool.and_eq_true, decide_eq_true_eq] at hasc
  exact ⟨fun _ => m1 _ hasc.1, fun _ => m1 _ (by omega), fun _ _ => hasc.2, fun _ => c1, fun _ => c2⟩
 ·simp only [c1, c2, if_true, if_false, List.append_nil, ascB, Bool.and_true, decide_eq_true_eq] at hasc
  exact ⟨fun _ => m1 _ hasc, fun h => absurd h c2, fun _ h => absurd h c2, fun _ => c1, fun hm => hd (mem _ hm)⟩
 ·simp only [c1, c2, if_true, if_false, List.nil_append, ascB, Bool.and_true, decide_eq_true_eq] at hasc
  exact ⟨fun h => absurd h c1, fun _ => m1 _ hasc, fun h => absurd h c1, fun hm => hp (mem _ hm), fun _ => c2⟩
 ·exact ⟨fun h => absurd h c1, fun h => absurd h c2, fun h => absurd h c1, fun hm => hp (mem _ hm), fun hm => hd (mem _ hm)⟩
theorem take_iff {l : List Vis} (hn : l.Nodup) {v : Vis} {n : Nat} : v ∈ l.take n ↔ 0 ≤ vIx l v ∧ vIx l v < (n : Int) := by
 constructor
 ·intro h
  obtain ⟨j, h1, h2, rfl⟩ := take_mem h
  rw [vIx_at hn h2]; omega
 ·intro ⟨h1, h2⟩
  obtain ⟨h3, h4⟩ := vIx_get h1
  rw [← h4]
  exact mem_take (by omega) h3
theorem onB_eq {x : Inst} {l : List Vis} (h : SqOk x l) (i : Nat) : ∀ n, n ≤ l.length → onB x l n i = if (⟨i, true⟩ : Vis) ∈ l.take n then false else if (⟨i, false⟩ : Vis) ∈ l.take n then true else decide ((nth x.orders i).pick.place < 0)
 | 0, _ => by simp [onB]
 | n + 1, hn => by
  have hk : n < l.length := by omega
  have hat := vIx_at h.nd hk
  rw [onB_succ hk, onB_eq h i n (by omega)]
  by_cases c : (nth l n).order = (i : Int)
  ·rw [if_pos c]
   have ho := h.own (i := i) ⟨nth l n, nth_mem hk, c⟩
   cases hd : (nth l n).drp with
   | true =>
    have hv : nth l n = ⟨i, true⟩ := by rw [← c, ← hd]
    rw [hv] at hat
    have : (⟨i, true⟩ : Vis) ∈ l.take (n + 1) := (take_iff h.nd).2 (by omega)
    rw [if_pos this]; rfl
   | false =>
    have hv : nth l n = ⟨i, false⟩ := by rw [← c, ← hd]
    rw [hv] at hat
    have h1 : (⟨i, false⟩ : Vis) ∈ l.take (n + 1) := (take_iff h.nd).2 (by omega)
    have h2 : ¬ (⟨i, true⟩ : Vis) ∈ l.take (n + 1) := fun hm => by
     have h3 := List.mem_of_mem_take hm
     have h4 := (take_iff h.nd).1 hm
     have h5 := ho.both (ho.isP (List.mem_of_mem_take h1)) (ho.isD h3)
     omega
    rw [if_neg h2, if_pos h1]; rfl
  ·rw [if_neg c]
   have e : ∀ b : Bool, ((⟨i, b⟩ : Vis) ∈ l.take (n + 1)) = ((⟨i, b⟩ : Vis) ∈ l.take n) := fun b => by
    rw [List.take_succ_eq_append_getElem hk, List.mem_append, ← nth_get hk]
    refine propext ⟨fun hm => hm.resolve_right fun hm => ?_, .inl⟩
    simp at hm
    exact c (by rw [← hm])
   simp only [e]
theorem on_now {x : Inst} {l : List Vis} (h : SqOk x l) {k i : Nat} (hk : k < l.length) (hi : (nth l k).order = (i : Int)) : onB x l k i = (nth l k).drp := by
 have hat := vIx_at h.nd hk
 have ho := h.own (i := i) ⟨nth l k, nth_mem hk, hi⟩
 have hm := nth_mem hk
 rw [onB_eq h i k (by omega)]
 cases hd : (nth l k).drp with
 | true =>
  have hv : nth l k = ⟨i, true⟩ := by rw [← hi, ← hd]
  rw [hv] at hat hm
  have h1 : ¬ (⟨i, true⟩ : Vis) ∈ l.take k := fun hm => by have := (take_iff h.nd).1 hm; omega
  rw [if_neg h1]
  by_cases c : 0 ≤ (nth x.orders i).pick.place
  ·have h2 := ho.both c (ho.isD hm)
   have h3 : (⟨i, false⟩ : Vis) ∈ l.take k := (take_iff h.nd).2 ⟨vIx_mem.2 (ho.pick c), by omega⟩
   rw [if_pos h3]
  ·have : (nth x.orders i).pick.place < 0 := by omega
   split <;> simp [this]
 | false =>
  have hv : nth l k = ⟨i, false⟩ := by rw [← hi, ← hd]
  rw [hv] at hat hm
  have hp := ho.isP hm
  have h1 : ¬ (⟨i, false⟩ : Vis) ∈ l.take k := fun hm => by have := (take_iff h.nd).1 hm; omega
  have h2 : ¬ (nth x.orders i).pick.place < 0 := by omega
  rw [if_neg h1]
  split <;> simp [h2]
theorem sum_one {f g : Nat → Int} {i : Nat} (h : ∀ q, q ≠ i → f q = g q) : ∀ n, i < n → ((List.range n).map f).sum = ((List.range n).map g).sum + (f i - g i) := by
 have same : ∀ n, n ≤ i → ((List.range n).map f).sum = ((List.range n).map g).sum := fun n hn => by
  congr 1
  refine List.map_congr_left fun q hq => h q ?_
  have := List.mem_range.1 hq
  omega
 intro n
 induction n with
 | zero => intro h; omega
 | succ n ih =>
  intro hi
  simp only [List.range_succ, List.map_append, List.map_cons, List.map_nil, List.sum_append, List.sum_cons, List.sum_nil]
  by_cases hn : i = n
  ·subst hn
   rw [same i (Nat.le_refl _)]; omega
  ·rw [ih (by omega), h n (by omega)]; omega
theorem sum_rng {f : Nat → Int} {b : Int} (hb : 0 ≤ b) (h : ∀ q, 0 ≤ f q ∧ f q ≤ b) : ∀ n : Nat, 0 ≤ ((List.range n).map f).sum ∧ ((List.range n).map f).sum ≤ b * n
 | 0 => by simp
 | n + 1 => by
  have ih := sum_rng hb h n
  have := h n
  simp only [List.range_succ, List.map_append, List.map_cons, List.map_nil, List.sum_append, List.sum_cons, List.sum_nil]
  rw [Int.natCast_add, Int.mul_add]
  omega
theorem sum_filter {p : Nat → Bool} {f : Nat → Int} : ∀ l : List Nat, ((l.filter p).map f).sum = (l.map fun i => if p i = true then f i else 0).sum
 | [] => rfl
 | a :: l => by
  rw [List.filter_cons, List.map_cons, List.sum_cons]
  by_cases h : p a = true
  ·rw [if_pos h, List.map_cons, List.sum_cons, sum_filter l, if_pos h]
  ·rw [if_neg h, sum_filter l, if_neg h]; omega
def sumB (x : Inst) (l : List Vis) (n j : Nat) : Int := ((List.range x.orders.length).map fun i => if (onB x l n i && hasO l i) = true then nth (nth x.orders i).load j else 0).sum
theorem sumB_succ {x : Inst} {l : List Vis} (h : SqOk x l) {k j : Nat} (hk : k < l.length) : sumB x l (k + 1) j = if (nth l k).drp = true then sumB x l k j - nth (nth x.orders (nth l k).order.toNat).load j else sumB x l k j + nth (nth x.orders (nth l k).order.toNat).load j := by
 obtain ⟨v1, v2⟩ := h.inr _ (nth_mem hk)
 obtain ⟨i, hi⟩ : ∃ i : Nat, (nth l k).order = (i : Int) := ⟨(nth l k).order.toNat, by omega⟩
 have hh : hasO l (i : Int) = true := hasO_iff.2 ⟨_, nth_mem hk, hi⟩
 have h1 := on_now h hk hi
 have h2 : onB x l (k + 1) i = !(nth l k).drp := by rw [onB_succ hk, if_pos hi]
 unfold sumB
 rw [sum_one (f := fun i => if (onB x l (k + 1) i && hasO l i) = true then nth (nth x.orders i).load j else 0) (g := fun i => if (onB x l k i && hasO l i) = true then nth (nth x.orders i).load j else 0) (i := i) (fun q hq => by
  have : onB x l (k + 1) q = onB x l k q := by rw [onB_succ hk, if_neg (by omega)]
  simp only [this]) x.orders.length (by omega)]
 rw [h1, h2, hh, hi, Int.toNat_natCast]
 cases (nth l k).drp
 ·simp
 ·simp; omega
def aftF (x : Inst) (l : List Vis) (n : Nat) : List Int := (List.range (dimsOf x.types).toNat).map fun j => sumB x l n j
def addF (a b : List Int) : List Int := (List.range a.length).map fun j => nth a j + nth b j
def subF (a b : List Int) : List Int := (List.range a.length).map fun j => nth a j - nth b j
theorem aftF_len {x : Inst} {l : List Vis} {n : Nat} : (aftF x l n).length = (dimsOf x.types).toNat := by simp [aftF]
theorem nthI_map {f : Nat → Int} {n j : Nat} (h : j < n) : nth ((List.range n).map f) j = f j := by
 rw [nth_get (by simpa using h)]; simp
theorem aftF_succ {x : Inst} {l : List Vis} (h : SqOk x l) {k : Nat} (hk : k < l.length) : aftF x l (k + 1) = if (nth l k).drp = true then subF (aftF x l k) (nth x.orders (nth l k).order.toNat).load else addF (aftF x l k) (nth x.orders (nth l k).order.toNat).load := by
 have key : ∀ g : Nat → Int, (∀ j, j < (dimsOf x.types).toNat → sumB x l (k + 1) j = g j) → aftF x l (k + 1) = (List.range (dimsOf x.types).toNat).map g := fun g hg =>
  List.map_congr_left fun j hj => hg j (List.mem_range.1 hj)
 split
 ·rename_i hd
  unfold subF
  rw [aftF_len]
  refine key _ fun j hj => ?_
  rw [sumB_succ h hk, if_pos hd, aftF, nthI_map hj]
 ·rename_i hd
  unfold addF
  rw [aftF_len]
  refine key _ fun j hj => ?_
  rw [sumB_succ h hk, if_neg hd, aftF, nthI_map hj]
end Go.Proofs.YtcdoglogglbemaaGreatDoor.K
set_option linter.unusedVariables false
set_option linter.unusedSimpArgs false
namespace Go.Proofs.YtcdoglogglbemaaGreatDoor.K
open Go Go.AM Go.Proofs
set_option maxRecDepth 8000
set_option maxHeartbeats 8000000
theorem tmodM (s : Int) : (0 ≤ s.tmod 2147483647 ∧ s.tmod 2147483647 = s % 2147483647) ∨ (s.tmod 2147483647 < 0 ∧ s.tmod 2147483647 + 2147483647 = s % 2147483647) := by
 by_cases h : 0 ≤ s
 ·rw [Int.tmod_eq_emod_of_nonneg h]
  left; omega
 ·have e : s.tmod 2147483647 = -((-s) % 2147483647) := by
   rw [← Int.tmod_eq_emod_of_nonneg (by omega : 0 ≤ -s), Int.neg_tmod, Int.neg_neg]
  rw [e]
  omega
def goodN (s : Int) : Int := if s % 2147483647 = 0 then 1 else s % 2147483647
theorem goodN_rng (s : Int) : 1 ≤ goodN s ∧ goodN s < 2147483647 := by unfold goodN; split <;> omega
def nextN (s : Int) : Int := goodN s * 48271 % 2147483647
theorem nextN_rng (s : Int) : 1 ≤ nextN s ∧ nextN s < 2147483647 := by
 have hg := goodN_rng s
 unfold nextN
 obtain ⟨g, hgn⟩ : ∃ g : Nat, goodN s = g := ⟨(goodN s).toNat, by omega⟩
 rw [hgn] at hg ⊢
 have h0 : ¬ (g * 48271) % 2147483647 = 0 := fun h => by
  have hd : 2147483647 ∣ g * 48271 := Nat.dvd_of_mod_eq_zero h
  have hc : Nat.Coprime 2147483647 48271 := by unfold Nat.Coprime; rfl
  have := Nat.le_of_dvd (by omega) (hc.dvd_of_dvd_mul_right hd)
  omega
 omega
def belowN (s n : Int) : Int := if n < 1 then 0 else (nextN s - 1) % n
theorem belowN_rng {s n : Int} (h : 1 ≤ n) : 0 ≤ belowN s n ∧ belowN s n < n := by
 have := nextN_rng s
 unfold belowN
 rw [if_neg (by omega)]
 exact ⟨Int.emod_nonneg _ (by omega), Int.emod_lt_of_pos _ (by omega)⟩
theorem rnGood_c (s : Int) : ACalls Tryz.prog 169 [.p (.int .i64 s)] [] fun x H' => x = .p (.int .i64 (goodN s)) ∧ H' = [] := by
 have hm := tmodM s
 refine acalls_pure (fn := Tryz.f169) Tryz.func169 rfl isF169 ?_
 simp (disch := omega) only [Tryz.f169, go_sem, seval]
 generalize s.tmod 2147483647 = r at hm ⊢
 refine acond_b (fun h => ?_) (fun h => ?_) <;> (try simp only [decide_eq_true_eq, decide_eq_false_iff_not] at h) <;> simp (disch := omega) only [Sh.out h, go_sem, seval]
 ·refine acond_b (fun h2 => ?_) (fun h2 => ?_) <;> (try simp only [decide_eq_true_eq, decide_eq_false_iff_not] at h2) <;> simp (disch := omega) only [Sh.out h2, go_sem, seval]
  ·have e : goodN s = 1 := by unfold goodN; rw [if_pos (by omega)]
   rw [e]
  ·have e : goodN s = r + 2147483647 := by unfold goodN; rw [if_neg (by omega)]; omega
   rw [e]
 ·refine acond_b (fun h2 => ?_) (fun h2 => ?_) <;> (try simp only [decide_eq_true_eq, decide_eq_false_iff_not] at h2) <;> simp (disch := omega) only [Sh.out h2, go_sem, seval]
  ·have e : goodN s = 1 := by unfold goodN; rw [if_pos (by omega)]
   rw [e]
  ·have e : goodN s = r := by unfold goodN; rw [if_neg (by omega)]; omega
   rw [e]
theorem rnNext_c (s : Int) : ACalls Tryz.prog 115 [.p (.int .i64 s)] [] fun x H' => x = .p (.int .i64 (nextN s)) ∧ H' = [] := by
 have hg := goodN_rng s
 refine acalls_pure (fn := Tryz.f115) Tryz.func115 rfl isF115 ?_
 simp (disch := omega) only [Tryz.f115, go_sem, seval]
 refine (rnGood_c s).use ?_
 simp (disch := omega) only [go_sem, seval]
 rw [nextN]
theorem rnBelow_c (s n : Int) : ACalls Tryz.prog 58 [.p (.int .i64 s), .p (.int .i64 n)] [] fun x H' => x = .tup [.p (.int .i64 (belowN s n)), .p (.int .i64 (nextN s))] ∧ H' = [] := by
 have hg := nextN_rng s
 refine acalls_weak [] (fn := Tryz.f58) Tryz.func58 rfl isF58 ?_
 simp (disch := omega) only [Tryz.f58, go_sem, seval]
 refine (rnNext_c s).use ?_
 simp (disch := omega) only [go_sem, seval]
 refine acond_b (fun h => ?_) (fun h => ?_) <;> (try simp only [decide_eq_true_eq, decide_eq_false_iff_not] at h) <;> simp (disch := omega) only [Sh.out h, go_sem, seval]
 ·have e : belowN s n = 0 := by rw [belowN, if_pos h]
  rw [e]
  exact ⟨_, _, Weak.mk (by simp (disch := omega) only [go_sem, seval]), rfl, rfl⟩
 ·have e : belowN s n = (nextN s - 1) % n := by rw [belowN, if_neg h]
  rw [e]
  exact ⟨_, _, Weak.mk (by simp (disch := omega) only [go_sem, seval]), rfl, rfl⟩
def pickN (s : Int) (S : Nat) : Int := nth (memU (S : Int) 63) (belowN s (memU (S : Int) 63).length).toNat
theorem memU_ne {S : Nat} (h0 : 0 < S) (h : S < pw 63) : 0 < (memU (S : Int) 63).length := by
 have hne : S ≠ 0 := by omega
 obtain ⟨j, hj⟩ := Nat.exists_testBit_of_ne_zero hne
 have hj63 : j < 63 := by
  rcases Nat.lt_or_ge j 63 with h1 | h1
  ·exact h1
  ·have : S < 2 ^ j := Nat.lt_of_lt_of_le h (Nat.pow_le_pow_right (by omega) h1)
   rw [Nat.testBit_lt_two_pow this] at hj; cases hj
 exact List.length_pos_of_mem (memU_iff.2 ⟨j, rfl, hj63, hj⟩ : (j : Int) ∈ memU (S : Int) 63)
theorem pickN_mem {s : Int} {S : Nat} (h0 : 0 < S) (h : S < pw 63) : ∃ j : Nat, pickN s S = (j : Int) ∧ j < 63 ∧ S.testBit j = true := by
 have hl := memU_ne h0 h
 have hb := belowN_rng (s := s) (n := (memU (S : Int) 63).length) (by omega)
 exact memU_iff.1 (by rw [pickN, nth_get (by omega)]; exact List.getElem_mem _)
theorem rnPick_c (s : Int) (S : Nat) (h0 : 0 < S) (hS : S < 9223372036854775808) : ACalls Tryz.prog 109 [.p (.int .i64 s), .p (.int .i64 S)] [] fun x H' => x = .tup [.p (.int .i64 (pickN s S)), .p (.int .i64 (nextN s))] ∧ H' = [] := by
 have hl := memU_ne h0 (by simpa [pw] using hS)
 have hb := belowN_rng (s := s) (n := (memU (S : Int) 63).length) (by omega)
 have hm := memU_len (S : Int) 63
 refine acalls_weak [] (fn := Tryz.f109) Tryz.func109 rfl isF109 ?_
 have hp : ¬ (S : Int) ≤ 0 := by omega
 simp (disch := omega) only [Tryz.f109, hp, go_sem, seval]
 refine ((members_c (S : Int)).frozen (by simp)).use ?_
 simp (disch := omega) only [go_sem, seval]
 refine useT (rnBelow_c s (memU (S : Int) 63).length) ?_
 have hk : (belowN s (memU (S : Int) 63).length).toNat < (memU (S : Int) 63).length := by omega
 simp (disch := omega) only [elt_map hk, go_sem, seval]
 exact ⟨_, _, Weak.mk (by simp (disch := omega) only [pickN, go_sem, seval]), rfl, rfl⟩
end Go.Proofs.YtcdoglogglbemaaGreatDoor.K
set_option linter.unusedVariables false
set_option linter.unusedSimpArgs false
namespace Go.Proofs.YtcdoglogglbemaaGreatDoor.K
open Go Go.AM Go.Proofs
set_option maxRecDepth 8000
set_option maxHeartbeats 8000000
def segI (l : List Pt) (t : Int) (i : Nat) : Bool := decide ((nth l i).t ≤ t) && decide (t < (nth l (i + 1)).t)
def segA (p q : Pt) (t : Int) : Int := p.a + ((t - p.t) * (q.a - p.a) + q.t - p.t - 1) / (q.t - p.t)
def arrT (l : List Pt) (t : Int) : Int := match (List.range (l.length - 1)).find? (segI l t) with
 | some i => segA (nth l i) (nth l (i + 1)) t
 | none => if (nth l 0).t < t then t + (nth l (l.length - 1)).a - (nth l (l.length - 1)).t else t + (nth l 0).a - (nth l 0).t
theorem arrT_at {l : List Pt} {t : Int} {i : Nat} (hi : i + 1 < l.length) (hno : ∀ j, j < i → segI l t j = false) (h : segI l t i = true) : arrT l t = segA (nth l i) (nth l (i + 1)) t := by
 have : (List.range (l.length - 1)).find? (segI l t) = some i := by
  rw [List.find?_eq_some_iff_getElem]
  refine ⟨h, i, by simp; omega, by simp, fun j hj => ?_⟩
  simp [hno j hj]
 rw [arrT, this]
theorem arrT_no {l : List Pt} {t : Int} (hno : ∀ j, j + 1 < l.length → segI l t j = false) : arrT l t = if (nth l 0).t < t then t + (nth l (l.length - 1)).a - (nth l (l.length - 1)).t else t + (nth l 0).a - (nth l 0).t := by
 have : (List.range (l.length - 1)).find? (segI l t) = none := by
  rw [List.find?_eq_none]
  intro j hj
  simp at hj
  rw [hno j (by omega)]; simp
 rw [arrT, this]
theorem segA_rng {p q : Pt} {t : Int} (h1 : p.t ≤ t) (h2 : t < q.t) (hp : 0 ≤ p.t) (hq : q.t ≤ 4096) (ha : p.a ≤ q.a) (hpa : 0 ≤ p.a) (hqa : q.a ≤ 8192) : 0 ≤ (t - p.t) * (q.a - p.a) ∧ (t - p.t) * (q.a - p.a) ≤ 33554432 := by
 refine ⟨Int.mul_nonneg (by omega) (by omega), ?_⟩
 have : (t - p.t) * (q.a - p.a) ≤ 4096 * 8192 := Int.mul_le_mul (by omega) (by omega) (by omega) (by omega)
 omega
theorem nth_in {α : Type} [Inhabited α] {l : List α} {i : Nat} (h : i < l.length) : nth l i ∈ l := by rw [nth_get h]; exact List.getElem_mem h
def arcR (a : Arc) : Prop := ptsOk a.travel ∧ a.slow.length ≤ 16 ∧ ∀ p ∈ a.slow, 0 ≤ p.t ∧ p.t ≤ 4096 ∧ 0 ≤ p.a ∧ p.a ≤ 4096
def slowS (l : List Pt) (t : Int) (k : Nat) : Int := (l.take k).foldl (fun s p => if p.t ≤ t then s + p.a else s) 0
def arrA (a : Arc) (t : Int) : Int := arrT a.travel t + slowS a.slow t a.slow.length
theorem slowS_succ {l : List Pt} {t : Int} {k : Nat} (h : k < l.length) : slowS l t (k + 1) = if (nth l k).t ≤ t then slowS l t k + (nth l k).a else slowS l t k := by
 rw [slowS, List.take_succ_eq_append_getElem h, List.foldl_append, nth_get h]; rfl
theorem slowS_rng {l : List Pt} {t : Int} (hl : ∀ p ∈ l, 0 ≤ p.a ∧ p.a ≤ 4096) : ∀ k, k ≤ l.length → 0 ≤ slowS l t k ∧ slowS l t k ≤ 4096 * k
 | 0, _ => by simp [slowS]
 | k + 1, h => by
  have ih := slowS_rng (t := t) hl k (by omega)
  have hp := hl _ (nth_in (show k < l.length by omega))
  rw [slowS_succ (by omega)]
  split <;> omega
theorem arrT_rng {l : List Pt} {t : Int} (hl : ptsOk l) (ht : 0 ≤ t ∧ t ≤ 1073741824) : 0 ≤ arrT l t ∧ arrT l t ≤ 1107304448 := by
 obtain ⟨⟨hl1, hl2⟩, hpt⟩ := hl
 unfold arrT
 split
 ·rename_i i hi
  have hm := List.mem_of_find?_eq_some hi
  have hs := List.find?_some hi
  simp at hm
  simp only [segI, Bool.and_eq_true, decide_eq_true_eq] at hs
  obtain ⟨⟨p1, p2, p3, p4⟩, _⟩ := hpt i (by omega)
  obtain ⟨⟨q1, q2, q3, q4⟩, q5⟩ := hpt (i + 1) (by omega)
  obtain ⟨r1, r2⟩ := q5 (by omega)
  rw [Nat.add_sub_cancel] at r1 r2
  obtain ⟨s1, s2⟩ := segA_rng hs.1 hs.2 p1 q2 r2 (by omega) (by omega)
  have d1 : 0 ≤ ((t - (nth l i).t) * ((nth l (i + 1)).a - (nth l i).a) + (nth l (i + 1)).t - (nth l i).t - 1) / ((nth l (i + 1)).t - (nth l i).t) := Int.ediv_nonneg (by omega) (by omega)
  have d2 : ((t - (nth l i).t) * ((nth l (i + 1)).a - (nth l i).a) + (nth l (i + 1)).t - (nth l i).t - 1) / ((nth l (i + 1)).t - (nth l i).t) ≤ 33558528 := Int.le_trans (Int.ediv_le_self _ (by omega)) (by omega)
  unfold segA
  omega
 ·obtain ⟨⟨p1, p2, p3, p4⟩, _⟩ := hpt 0 (by omega)
  obtain ⟨⟨q1, q2, q3, q4⟩, _⟩ := hpt (l.length - 1) (by omega)
  split <;> omega
end Go.Proofs.YtcdoglogglbemaaGreatDoor.K
